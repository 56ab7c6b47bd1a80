import Derived.Test.YthfnndblgbjniaaGreatDoorGE
namespace Go.Proofs.YthfnndblgbjniaaGreatDoor
open Go.Sx Go.RowKit
variable {a b c d e f g : Int} {A : ae} {q r s t : Bool}
def Tp(a:Int)(l:List O):List O:=.b (a==2) true::l
def Tq(a b:Int)(q r:Bool)(l:List O):List O:=Tp a (.r 65 [ag b,ag 0,ag 999] [ar q]::.r 65 [ag a,ag 1,ag 8] [ar r]::l)
theorem aoy(h:af (Tq a b r q [.n q true])):
 ax 183 [.agg (bi a b c A)] [ar false]:=
 h.of
def KS(a b:Int)(q r:Bool)(l:List O):List O:=Tq a b q r (.n r false::l)
theorem aoz(h:af (KS a b q r [.n q true])):
 ax 183 [.agg (bi a b c A)] [ar false]:=
 h.of
theorem aoA(h:af (KS a b q r [.n q false,.b (!c==0) true])):
 ax 183 [.agg (bi a b c A)] [ar false]:=
 h.of
def Tr(a b:Int)(q r:Bool)(c:Int)(l:List O):List O:=KS a b q r (.n q false::.b (!c==0) false::l)
theorem aoB(h:af (Tr a b q r c [.b (decide ((A.length:Int)>2)) true])):
 ax 183 [.agg (bi a b c A)] [ar false]:=
 h.of
def zM(a b:Int)(q r:Bool)(c:Int)(A:ae)(l:List O):List O:=Tr a b q r c (.b (decide ((A.length:Int)>2)) false::l)
theorem aoC(h:af (zM a b q r c A [.b (a==8) true,.b (decide ((A.length:Int)>0)) true])):
 ax 183 [.agg (bi a b c A)] [ar false]:=
 h.of
def gY(a b c:Int)(A:ae)(d:Int):aD:=bd 93 [(1,aN 1),(5,aU d)] [(1,[ak a,ak b,ak c,.J .free 1 A])]
def o3(q:Bool):aD:=bd 93 [(2,.az (.one (.a1 q)))] []
def K1(A:ae)(a b:Int)(q:Bool)(l:List O):List O:=.i A a [I b]::.r 65 [ag b,ag 0,ag 7] [ar q]::l
theorem JC(h:af (K1 A a b q [.n q true])):
 aX (aq Tryz.f183 0) (gY c d e A a) .ret (o3 false):=
 h.aV [2] []
def Tz(A:ae)(a b:Int)(q:Bool)(c d:Int)(l:List O):List O:=K1 A a b q (.n q false::.b (decide (a>0)) true::.p ((0:Int)<=0)::.p (0<(A.length:Int))::.e A 0 [I c]::.p ((0:Int)<=1)::.p (1<(A.length:Int))::.e A 1 [I d]::l)
theorem aoD(h:af (Tz A a c q d b [.b (d==b) true])):
 aX (aq Tryz.f183 0) (gY e f g A a) .ret (o3 false):=
 h.aV [2] []
theorem aoE(h:af (Tz A a f q g d [.b (g==d) false,.u a])):
 aX (aq Tryz.f183 0) (gY b c e A a) .normal (gY b c e A (a+1)):=
 h.aV [5,1] [1]
theorem PY(h:af (K1 A a e q [.n q false,.b (decide (a>0)) false,.u a])):
 aX (aq Tryz.f183 0) (gY b c d A a) .normal (gY b c d A (a+1)):=
 h.aV [5,1] [1]
def pZ:aD:=bd 93 [] []
theorem JD(h:af [.f A a false]):
 aX (aq Tryz.f183 0) (gY b c d A a) (.exit 1) pZ:=
 h.aV [] []
theorem aoF(h:af (zM a b q r c A [.b (a==8) true,.b (decide ((A.length:Int)>0)) false,.l [] [5,1] [1] (aq Tryz.f183 0) (gY a b c A 0) .ret (o3 s)])):
 ax 183 [.agg (bi a b c A)] [ar s]:=
 h.of
theorem aoG(h:af (zM a b q r c A [.b (a==8) true,.b (decide ((A.length:Int)>0)) false,.l [] [5,1] [1] (aq Tryz.f183 0) (gY a b c A 0) (.exit 1) pZ])):
 ax 183 [.agg (bi a b c A)] [ar true]:=
 h.of
theorem aoH(h:af (zM a b q r c A [.b (a==8) false,.l [] [5,1] [1] (aq Tryz.f183 0) (gY a b c A 0) .ret (o3 s)])):
 ax 183 [.agg (bi a b c A)] [ar s]:=
 h.of
theorem aoI(h:af (zM a b q r c A [.b (a==8) false,.l [] [5,1] [1] (aq Tryz.f183 0) (gY a b c A 0) (.exit 1) pZ])):
 ax 183 [.agg (bi a b c A)] [ar true]:=
 h.of
def TA(a:Int)(l:List O):List O:=.b (a==2) false::l
def TB(a:Int)(l:List O):List O:=TA a (.b (a==3) true::l)
def K2(a b:Int)(q:Bool)(c:Int)(r s:Bool)(l:List O):List O:=TB a (.r 65 [ag b,ag 1,ag 10] [ar q]::.a .wr::.r 65 [ag c,ag 0,ag (IntKind.i64.wrap (b-1))] [ar r]::.r 65 [ag a,ag 1,ag 8] [ar s]::l)
theorem aoJ(h:af (K2 a b r c s q [.n q true])):
 ax 183 [.agg (bi a b c A)] [ar false]:=
 h.of
theorem aoK(h:af (K2 a b q c s r [.n r false,.n q true])):
 ax 183 [.agg (bi a b c A)] [ar false]:=
 h.of
def K'(a b:Int)(q:Bool)(c:Int)(r s:Bool)(l:List O):List O:=K2 a b q c r s (.n s false::.n q false::l)
theorem aoL(h:af (K' a b q c r s [.n r true])):
 ax 183 [.agg (bi a b c A)] [ar false]:=
 h.of
theorem aoM(h:af (K' a b q c r s [.n r false,.b (decide ((A.length:Int)>2)) true])):
 ax 183 [.agg (bi a b c A)] [ar false]:=
 h.of
def zX(a b:Int)(q:Bool)(c:Int)(r s:Bool)(A:ae)(l:List O):List O:=K' a b q c r s (.n r false::.b (decide ((A.length:Int)>2)) false::l)
theorem aoN(h:af (zX a b q c r s A [.b (a==8) true,.b (decide ((A.length:Int)>0)) true])):
 ax 183 [.agg (bi a b c A)] [ar false]:=
 h.of
theorem aoO(h:af (zX a b q c r s A [.b (a==8) true,.b (decide ((A.length:Int)>0)) false,.l [] [5,1] [1] (aq Tryz.f183 0) (gY a b c A 0) .ret (o3 t)])):
 ax 183 [.agg (bi a b c A)] [ar t]:=
 h.of
theorem aoP(h:af (zX a b q c r s A [.b (a==8) true,.b (decide ((A.length:Int)>0)) false,.l [] [5,1] [1] (aq Tryz.f183 0) (gY a b c A 0) (.exit 1) pZ])):
 ax 183 [.agg (bi a b c A)] [ar true]:=
 h.of
theorem aoQ(h:af (zX a b q c r s A [.b (a==8) false,.l [] [5,1] [1] (aq Tryz.f183 0) (gY a b c A 0) .ret (o3 t)])):
 ax 183 [.agg (bi a b c A)] [ar t]:=
 h.of
theorem aoh(h:af (zX a b q c r s A [.b (a==8) false,.l [] [5,1] [1] (aq Tryz.f183 0) (gY a b c A 0) (.exit 1) pZ])):
 ax 183 [.agg (bi a b c A)] [ar true]:=
 h.of
def TU(a:Int)(l:List O):List O:=TA a (.b (a==3) false::l)
def TV(a:Int)(l:List O):List O:=TU a (.b (a==4) true::l)
def TW(a b:Int)(q r:Bool)(l:List O):List O:=TV a (.r 65 [ag b,ag 0,ag 99] [ar q]::.r 65 [ag a,ag 1,ag 8] [ar r]::l)
theorem aoi(h:af (TW a b r q [.n q true])):
 ax 183 [.agg (bi a b c A)] [ar false]:=
 h.of
def Ld(a b:Int)(q r:Bool)(l:List O):List O:=TW a b q r (.n r false::l)
theorem aoj(h:af (Ld a b q r [.n q true])):
 ax 183 [.agg (bi a b c A)] [ar false]:=
 h.of
theorem aok(h:af (Ld a b q r [.n q false,.b (!c==0) true])):
 ax 183 [.agg (bi a b c A)] [ar false]:=
 h.of
def TX(a b:Int)(q r:Bool)(c:Int)(l:List O):List O:=Ld a b q r (.n q false::.b (!c==0) false::l)
theorem aol(h:af (TX a b q r c [.b (decide ((A.length:Int)>2)) true])):
 ax 183 [.agg (bi a b c A)] [ar false]:=
 h.of
def zZ(a b:Int)(q r:Bool)(c:Int)(A:ae)(l:List O):List O:=TX a b q r c (.b (decide ((A.length:Int)>2)) false::l)
theorem aom(h:af (zZ a b q r c A [.b (a==8) true,.b (decide ((A.length:Int)>0)) true])):
 ax 183 [.agg (bi a b c A)] [ar false]:=
 h.of
theorem aon(h:af (zZ a b q r c A [.b (a==8) true,.b (decide ((A.length:Int)>0)) false,.l [] [5,1] [1] (aq Tryz.f183 0) (gY a b c A 0) .ret (o3 s)])):
 ax 183 [.agg (bi a b c A)] [ar s]:=
 h.of
theorem aoo(h:af (zZ a b q r c A [.b (a==8) true,.b (decide ((A.length:Int)>0)) false,.l [] [5,1] [1] (aq Tryz.f183 0) (gY a b c A 0) (.exit 1) pZ])):
 ax 183 [.agg (bi a b c A)] [ar true]:=
 h.of
theorem aop(h:af (zZ a b q r c A [.b (a==8) false,.l [] [5,1] [1] (aq Tryz.f183 0) (gY a b c A 0) .ret (o3 s)])):
 ax 183 [.agg (bi a b c A)] [ar s]:=
 h.of
theorem aoq(h:af (zZ a b q r c A [.b (a==8) false,.l [] [5,1] [1] (aq Tryz.f183 0) (gY a b c A 0) (.exit 1) pZ])):
 ax 183 [.agg (bi a b c A)] [ar true]:=
 h.of
def Lh(a:Int)(l:List O):List O:=TU a (.b (a==4) false::l)
def T1(a:Int)(q:Bool)(l:List O):List O:=Lh a (.r 65 [ag a,ag 1,ag 8] [ar q]::l)
theorem apS(h:af (T1 a q [.n q true])):
 ax 183 [.agg (bi a b c A)] [ar false]:=
 h.of
def T2(a:Int)(q:Bool)(l:List O):List O:=T1 a q (.n q false::l)
theorem apT(h:af (T2 a q [.b (!b==0) true])):
 ax 183 [.agg (bi a b c A)] [ar false]:=
 h.of
def T3(a:Int)(q:Bool)(b:Int)(l:List O):List O:=T2 a q (.b (!b==0) false::l)
theorem apU(h:af (T3 a q b [.b (!c==0) true])):
 ax 183 [.agg (bi a b c A)] [ar false]:=
 h.of
def TC(a:Int)(q:Bool)(b c:Int)(l:List O):List O:=T3 a q b (.b (!c==0) false::l)
theorem apV(h:af (TC a q b c [.b (decide ((A.length:Int)>2)) true])):
 ax 183 [.agg (bi a b c A)] [ar false]:=
 h.of
def zW(a:Int)(q:Bool)(b c:Int)(A:ae)(l:List O):List O:=TC a q b c (.b (decide ((A.length:Int)>2)) false::l)
theorem apW(h:af (zW a q b c A [.b (a==8) true,.b (decide ((A.length:Int)>0)) true])):
 ax 183 [.agg (bi a b c A)] [ar false]:=
 h.of
theorem apX(h:af (zW a q b c A [.b (a==8) true,.b (decide ((A.length:Int)>0)) false,.l [] [5,1] [1] (aq Tryz.f183 0) (gY a b c A 0) .ret (o3 r)])):
 ax 183 [.agg (bi a b c A)] [ar r]:=
 h.of
theorem apY(h:af (zW a q b c A [.b (a==8) true,.b (decide ((A.length:Int)>0)) false,.l [] [5,1] [1] (aq Tryz.f183 0) (gY a b c A 0) (.exit 1) pZ])):
 ax 183 [.agg (bi a b c A)] [ar true]:=
 h.of
theorem apZ(h:af (zW a q b c A [.b (a==8) false,.l [] [5,1] [1] (aq Tryz.f183 0) (gY a b c A 0) .ret (o3 r)])):
 ax 183 [.agg (bi a b c A)] [ar r]:=
 h.of
theorem ap0(h:af (zW a q b c A [.b (a==8) false,.l [] [5,1] [1] (aq Tryz.f183 0) (gY a b c A 0) (.exit 1) pZ])):
 ax 183 [.agg (bi a b c A)] [ar true]:=
 h.of
def Ts(a b:Int)(q:Bool)(l:List O):List O:=Tp a (.r 64 [ag b,ag 0,ag 999] [ar q]::l)
theorem ap1(h:af (Ts a b q [.n q true])):
 ax 128 [.agg (bi a b c A)] [ar false]:=
 h.of
def Tt(a b:Int)(q:Bool)(l:List O):List O:=Ts a b q (.n q false::l)
theorem ap2(h:af (Tt a b q [.b (c != 0) true])):
 ax 128 [.agg (bi a b c A)] [ar false]:=
 h.of
def DJ(a b:Int)(q:Bool)(c:Int)(l:List O):List O:=Tt a b q (.b (c != 0) false::l)
theorem ap3(h:af (DJ a b q c [.b (decide ((A.length:Int)>2)) true])):
 ax 128 [.agg (bi a b c A)] [ar false]:=
 h.of
def zT(a b:Int)(q:Bool)(c:Int)(A:ae)(l:List O):List O:=DJ a b q c (.b (decide ((A.length:Int)>2)) false::l)
theorem ap4(h:af (zT a b q c A [.b (a==8) true,.b (decide ((A.length:Int)>0)) true])):
 ax 128 [.agg (bi a b c A)] [ar false]:=
 h.of
def K0(a b:Int)(q:Bool)(c:Int)(A:ae)(l:List O):List O:=zT a b q c A (.b (a==8) true::.b (decide ((A.length:Int)>0)) false::l)
def zU(a b:Int)(q:Bool)(c:Int)(A:ae)(d e:Int)(l:List O):List O:=K0 a b q c A (.b ((A.length:Int)==2) true::.p ((0:Int)<=0)::.p (0<(A.length:Int))::.e A 0 [I d]::.p ((0:Int)<=1)::.p (1<(A.length:Int))::.e A 1 [I e]::l)
theorem ap5(h:af (zU a b q c A d e [.b (d==e) true])):
 ax 128 [.agg (bi a b c A)] [ar false]:=
 h.of
def dj(A:ae)(a:Int):aD:=bd 101 [(91,cQ 1 A),(92,aU (A.length:Int)),(93,aU a)] []
def fH(q:Bool):aD:=bd 101 [(2,.az (.one (.a1 q)))] []
theorem ap6(h:af [.i A a [I b],.r 64 [ag b,ag 0,ag 7] [ar q],.n q true]):
 aX (aq Tryz.f128 0) (dj A a) .ret (fH false):=
 h.aV [2] []
theorem ap7(h:af [.i A a [I b],.r 64 [ag b,ag 0,ag 7] [ar q],.n q false,.u a]):
 aX (aq Tryz.f128 0) (dj A a) .normal (dj A (a+1)):=
 h.aV [93,92,91] []
def fP:aD:=bd 101 [] []
theorem ap8(h:af [.f A a false]):
 aX (aq Tryz.f128 0) (dj A a) (.exit 1) fP:=
 h.aV [] []
theorem ap9(h:af (zU a b q c A d e [.b (d==e) false,.l [] [93,92,91] [] (aq Tryz.f128 0) (dj A 0) .ret (fH r)])):
 ax 128 [.agg (bi a b c A)] [ar r]:=
 h.of
theorem aqa(h:af (zU a b q c A d e [.b (d==e) false,.l [] [93,92,91] [] (aq Tryz.f128 0) (dj A 0) (.exit 1) fP])):
 ax 128 [.agg (bi a b c A)] [ar true]:=
 h.of
theorem aqb(h:af (K0 a b q c A [.b ((A.length:Int)==2) false,.l [] [93,92,91] [] (aq Tryz.f128 0) (dj A 0) .ret (fH r)])):
 ax 128 [.agg (bi a b c A)] [ar r]:=
 h.of
theorem aqc(h:af (K0 a b q c A [.b ((A.length:Int)==2) false,.l [] [93,92,91] [] (aq Tryz.f128 0) (dj A 0) (.exit 1) fP])):
 ax 128 [.agg (bi a b c A)] [ar true]:=
 h.of
def zV(a b:Int)(q:Bool)(c:Int)(A:ae)(d e:Int)(l:List O):List O:=zT a b q c A (.b (a==8) false::.b ((A.length:Int)==2) true::.p ((0:Int)<=0)::.p (0<(A.length:Int))::.e A 0 [I d]::.p ((0:Int)<=1)::.p (1<(A.length:Int))::.e A 1 [I e]::l)
theorem aqd(h:af (zV a b q c A d e [.b (d==e) true])):
 ax 128 [.agg (bi a b c A)] [ar false]:=
 h.of
theorem aqe(h:af (zV a b q c A d e [.b (d==e) false,.l [] [93,92,91] [] (aq Tryz.f128 0) (dj A 0) .ret (fH r)])):
 ax 128 [.agg (bi a b c A)] [ar r]:=
 h.of
theorem aqf(h:af (zV a b q c A d e [.b (d==e) false,.l [] [93,92,91] [] (aq Tryz.f128 0) (dj A 0) (.exit 1) fP])):
 ax 128 [.agg (bi a b c A)] [ar true]:=
 h.of
theorem aqg(h:af (zT a b q c A [.b (a==8) false,.b ((A.length:Int)==2) false,.l [] [93,92,91] [] (aq Tryz.f128 0) (dj A 0) .ret (fH r)])):
 ax 128 [.agg (bi a b c A)] [ar r]:=
 h.of
theorem aqh(h:af (zT a b q c A [.b (a==8) false,.b ((A.length:Int)==2) false,.l [] [93,92,91] [] (aq Tryz.f128 0) (dj A 0) (.exit 1) fP])):
 ax 128 [.agg (bi a b c A)] [ar true]:=
 h.of
def TR(a b:Int)(q:Bool)(l:List O):List O:=TB a (.r 64 [ag b,ag 1,ag 10] [ar q]::l)
theorem aps(h:af (TR a b q [.n q true])):
 ax 128 [.agg (bi a b c A)] [ar false]:=
 h.of
def TS(a b:Int)(q:Bool)(c:Int)(r:Bool)(l:List O):List O:=TR a b q (.n q false::.a .wr::.r 64 [ag c,ag 0,ag (IntKind.i64.wrap (b-1))] [ar r]::l)
theorem apt(h:af (TS a b q c r [.n r true])):
 ax 128 [.agg (bi a b c A)] [ar false]:=
 h.of
def TT(a b:Int)(q:Bool)(c:Int)(r:Bool)(l:List O):List O:=TS a b q c r (.n r false::l)
theorem apu(h:af (TT a b q c r [.b (decide ((A.length:Int)>2)) true])):
 ax 128 [.agg (bi a b c A)] [ar false]:=
 h.of
def zY(a b:Int)(q:Bool)(c:Int)(r:Bool)(A:ae)(l:List O):List O:=TT a b q c r (.b (decide ((A.length:Int)>2)) false::l)
theorem apv(h:af (zY a b q c r A [.b (a==8) true,.b (decide ((A.length:Int)>0)) true])):
 ax 128 [.agg (bi a b c A)] [ar false]:=
 h.of
def La(a b:Int)(q:Bool)(c:Int)(r:Bool)(A:ae)(l:List O):List O:=zY a b q c r A (.b (a==8) true::.b (decide ((A.length:Int)>0)) false::l)
def Lb(a b:Int)(q:Bool)(c:Int)(r:Bool)(A:ae)(d e:Int)(l:List O):List O:=La a b q c r A (.b ((A.length:Int)==2) true::.p ((0:Int)<=0)::.p (0<(A.length:Int))::.e A 0 [I d]::.p ((0:Int)<=1)::.p (1<(A.length:Int))::.e A 1 [I e]::l)
theorem apw(h:af (Lb a b q c r A d e [.b (d==e) true])):
 ax 128 [.agg (bi a b c A)] [ar false]:=
 h.of
theorem apx(h:af (Lb a b q c r A d e [.b (d==e) false,.l [] [93,92,91] [] (aq Tryz.f128 0) (dj A 0) .ret (fH s)])):
 ax 128 [.agg (bi a b c A)] [ar s]:=
 h.of
theorem apy(h:af (Lb a b q c r A d e [.b (d==e) false,.l [] [93,92,91] [] (aq Tryz.f128 0) (dj A 0) (.exit 1) fP])):
 ax 128 [.agg (bi a b c A)] [ar true]:=
 h.of
theorem apz(h:af (La a b q c r A [.b ((A.length:Int)==2) false,.l [] [93,92,91] [] (aq Tryz.f128 0) (dj A 0) .ret (fH s)])):
 ax 128 [.agg (bi a b c A)] [ar s]:=
 h.of
theorem apA(h:af (La a b q c r A [.b ((A.length:Int)==2) false,.l [] [93,92,91] [] (aq Tryz.f128 0) (dj A 0) (.exit 1) fP])):
 ax 128 [.agg (bi a b c A)] [ar true]:=
 h.of
def Lc(a b:Int)(q:Bool)(c:Int)(r:Bool)(A:ae)(d e:Int)(l:List O):List O:=zY a b q c r A (.b (a==8) false::.b ((A.length:Int)==2) true::.p ((0:Int)<=0)::.p (0<(A.length:Int))::.e A 0 [I d]::.p ((0:Int)<=1)::.p (1<(A.length:Int))::.e A 1 [I e]::l)
theorem apB(h:af (Lc a b q c r A d e [.b (d==e) true])):
 ax 128 [.agg (bi a b c A)] [ar false]:=
 h.of
theorem apC(h:af (Lc a b q c r A d e [.b (d==e) false,.l [] [93,92,91] [] (aq Tryz.f128 0) (dj A 0) .ret (fH s)])):
 ax 128 [.agg (bi a b c A)] [ar s]:=
 h.of
theorem apD(h:af (Lc a b q c r A d e [.b (d==e) false,.l [] [93,92,91] [] (aq Tryz.f128 0) (dj A 0) (.exit 1) fP])):
 ax 128 [.agg (bi a b c A)] [ar true]:=
 h.of
theorem apE(h:af (zY a b q c r A [.b (a==8) false,.b ((A.length:Int)==2) false,.l [] [93,92,91] [] (aq Tryz.f128 0) (dj A 0) .ret (fH s)])):
 ax 128 [.agg (bi a b c A)] [ar s]:=
 h.of
theorem apF(h:af (zY a b q c r A [.b (a==8) false,.b ((A.length:Int)==2) false,.l [] [93,92,91] [] (aq Tryz.f128 0) (dj A 0) (.exit 1) fP])):
 ax 128 [.agg (bi a b c A)] [ar true]:=
 h.of
def TY(a b:Int)(q:Bool)(l:List O):List O:=TV a (.r 64 [ag b,ag 0,ag 99] [ar q]::l)
theorem apG(h:af (TY a b q [.n q true])):
 ax 128 [.agg (bi a b c A)] [ar false]:=
 h.of
def TZ(a b:Int)(q:Bool)(l:List O):List O:=TY a b q (.n q false::l)
theorem apH(h:af (TZ a b q [.b (c != 0) true])):
 ax 128 [.agg (bi a b c A)] [ar false]:=
 h.of
def T0(a b:Int)(q:Bool)(c:Int)(l:List O):List O:=TZ a b q (.b (c != 0) false::l)
theorem apI(h:af (T0 a b q c [.b (decide ((A.length:Int)>2)) true])):
 ax 128 [.agg (bi a b c A)] [ar false]:=
 h.of
def z1(a b:Int)(q:Bool)(c:Int)(A:ae)(l:List O):List O:=T0 a b q c (.b (decide ((A.length:Int)>2)) false::l)
theorem apJ(h:af (z1 a b q c A [.b (a==8) true,.b (decide ((A.length:Int)>0)) true])):
 ax 128 [.agg (bi a b c A)] [ar false]:=
 h.of
def Le(a b:Int)(q:Bool)(c:Int)(A:ae)(l:List O):List O:=z1 a b q c A (.b (a==8) true::.b (decide ((A.length:Int)>0)) false::l)
def Lf(a b:Int)(q:Bool)(c:Int)(A:ae)(d e:Int)(l:List O):List O:=Le a b q c A (.b ((A.length:Int)==2) true::.p ((0:Int)<=0)::.p (0<(A.length:Int))::.e A 0 [I d]::.p ((0:Int)<=1)::.p (1<(A.length:Int))::.e A 1 [I e]::l)
theorem apK(h:af (Lf a b q c A d e [.b (d==e) true])):
 ax 128 [.agg (bi a b c A)] [ar false]:=
 h.of
theorem apL(h:af (Lf a b q c A d e [.b (d==e) false,.l [] [93,92,91] [] (aq Tryz.f128 0) (dj A 0) .ret (fH r)])):
 ax 128 [.agg (bi a b c A)] [ar r]:=
 h.of
theorem apM(h:af (Lf a b q c A d e [.b (d==e) false,.l [] [93,92,91] [] (aq Tryz.f128 0) (dj A 0) (.exit 1) fP])):
 ax 128 [.agg (bi a b c A)] [ar true]:=
 h.of
theorem apN(h:af (Le a b q c A [.b ((A.length:Int)==2) false,.l [] [93,92,91] [] (aq Tryz.f128 0) (dj A 0) .ret (fH r)])):
 ax 128 [.agg (bi a b c A)] [ar r]:=
 h.of
theorem apO(h:af (Le a b q c A [.b ((A.length:Int)==2) false,.l [] [93,92,91] [] (aq Tryz.f128 0) (dj A 0) (.exit 1) fP])):
 ax 128 [.agg (bi a b c A)] [ar true]:=
 h.of
def Lg(a b:Int)(q:Bool)(c:Int)(A:ae)(d e:Int)(l:List O):List O:=z1 a b q c A (.b (a==8) false::.b ((A.length:Int)==2) true::.p ((0:Int)<=0)::.p (0<(A.length:Int))::.e A 0 [I d]::.p ((0:Int)<=1)::.p (1<(A.length:Int))::.e A 1 [I e]::l)
theorem apP(h:af (Lg a b q c A d e [.b (d==e) true])):
 ax 128 [.agg (bi a b c A)] [ar false]:=
 h.of
theorem apQ(h:af (Lg a b q c A d e [.b (d==e) false,.l [] [93,92,91] [] (aq Tryz.f128 0) (dj A 0) .ret (fH r)])):
 ax 128 [.agg (bi a b c A)] [ar r]:=
 h.of
theorem apR(h:af (Lg a b q c A d e [.b (d==e) false,.l [] [93,92,91] [] (aq Tryz.f128 0) (dj A 0) (.exit 1) fP])):
 ax 128 [.agg (bi a b c A)] [ar true]:=
 h.of
theorem aph(h:af (z1 a b q c A [.b (a==8) false,.b ((A.length:Int)==2) false,.l [] [93,92,91] [] (aq Tryz.f128 0) (dj A 0) .ret (fH r)])):
 ax 128 [.agg (bi a b c A)] [ar r]:=
 h.of
theorem api(h:af (z1 a b q c A [.b (a==8) false,.b ((A.length:Int)==2) false,.l [] [93,92,91] [] (aq Tryz.f128 0) (dj A 0) (.exit 1) fP])):
 ax 128 [.agg (bi a b c A)] [ar true]:=
 h.of
def TD(a:Int)(l:List O):List O:=Lh a (.b (a==1) true::.b (a==1) true::l)
theorem apj(h:af (TD a [.b (b != 0) true])):
 ax 128 [.agg (bi a b c A)] [ar false]:=
 h.of
def TE(a b:Int)(l:List O):List O:=TD a (.b (b != 0) false::l)
theorem apk(h:af (TE a b [.b (c != 0) true])):
 ax 128 [.agg (bi a b c A)] [ar false]:=
 h.of
def TF(a b c:Int)(l:List O):List O:=TE a b (.b (c != 0) false::l)
theorem apl(h:af (TF a b c [.b (decide ((A.length:Int)>2)) true])):
 ax 128 [.agg (bi a b c A)] [ar false]:=
 h.of
def DK(a b c:Int)(A:ae)(l:List O):List O:=TF a b c (.b (decide ((A.length:Int)>2)) false::l)
def TG(a b c:Int)(A:ae)(l:List O):List O:=DK a b c A (.b (a==8) true::l)
theorem apm(h:af (TG a b c A [.b (decide ((A.length:Int)>0)) true])):
 ax 128 [.agg (bi a b c A)] [ar false]:=
 h.of
def K3(a b c:Int)(A:ae)(l:List O):List O:=TG a b c A (.b (decide ((A.length:Int)>0)) false::l)
def K4(a b c:Int)(A:ae)(d e:Int)(l:List O):List O:=K3 a b c A (.b ((A.length:Int)==2) true::.p ((0:Int)<=0)::.p (0<(A.length:Int))::.e A 0 [I d]::.p ((0:Int)<=1)::.p (1<(A.length:Int))::.e A 1 [I e]::l)
theorem apn(h:af (K4 a b c A d e [.b (d==e) true])):
 ax 128 [.agg (bi a b c A)] [ar false]:=
 h.of
theorem apo(h:af (K4 a b c A d e [.b (d==e) false,.l [] [93,92,91] [] (aq Tryz.f128 0) (dj A 0) .ret (fH q)])):
 ax 128 [.agg (bi a b c A)] [ar q]:=
 h.of
theorem apq(h:af (K4 a b c A d e [.b (d==e) false,.l [] [93,92,91] [] (aq Tryz.f128 0) (dj A 0) (.exit 1) fP])):
 ax 128 [.agg (bi a b c A)] [ar true]:=
 h.of
theorem apr(h:af (K3 a b c A [.b ((A.length:Int)==2) false,.l [] [93,92,91] [] (aq Tryz.f128 0) (dj A 0) .ret (fH q)])):
 ax 128 [.agg (bi a b c A)] [ar q]:=
 h.of
theorem aqS(h:af (K3 a b c A [.b ((A.length:Int)==2) false,.l [] [93,92,91] [] (aq Tryz.f128 0) (dj A 0) (.exit 1) fP])):
 ax 128 [.agg (bi a b c A)] [ar true]:=
 h.of
def K5(a b c:Int)(A:ae)(d e:Int)(l:List O):List O:=DK a b c A (.b (a==8) false::.b ((A.length:Int)==2) true::.p ((0:Int)<=0)::.p (0<(A.length:Int))::.e A 0 [I d]::.p ((0:Int)<=1)::.p (1<(A.length:Int))::.e A 1 [I e]::l)
theorem aqT(h:af (K5 a b c A d e [.b (d==e) true])):
 ax 128 [.agg (bi a b c A)] [ar false]:=
 h.of
theorem aqU(h:af (K5 a b c A d e [.b (d==e) false,.l [] [93,92,91] [] (aq Tryz.f128 0) (dj A 0) .ret (fH q)])):
 ax 128 [.agg (bi a b c A)] [ar q]:=
 h.of
theorem aqV(h:af (K5 a b c A d e [.b (d==e) false,.l [] [93,92,91] [] (aq Tryz.f128 0) (dj A 0) (.exit 1) fP])):
 ax 128 [.agg (bi a b c A)] [ar true]:=
 h.of
theorem aqW(h:af (DK a b c A [.b (a==8) false,.b ((A.length:Int)==2) false,.l [] [93,92,91] [] (aq Tryz.f128 0) (dj A 0) .ret (fH q)])):
 ax 128 [.agg (bi a b c A)] [ar q]:=
 h.of
theorem aqX(h:af (DK a b c A [.b (a==8) false,.b ((A.length:Int)==2) false,.l [] [93,92,91] [] (aq Tryz.f128 0) (dj A 0) (.exit 1) fP])):
 ax 128 [.agg (bi a b c A)] [ar true]:=
 h.of
def TH(a:Int)(l:List O):List O:=Lh a (.b (a==1) false::l)
def TI(a:Int)(l:List O):List O:=TH a (.b (a==5) true::.b (a==5) true::l)
theorem aqY(h:af (TI a [.b (b != 0) true])):
 ax 128 [.agg (bi a b c A)] [ar false]:=
 h.of
def TJ(a b:Int)(l:List O):List O:=TI a (.b (b != 0) false::l)
theorem aqZ(h:af (TJ a b [.b (c != 0) true])):
 ax 128 [.agg (bi a b c A)] [ar false]:=
 h.of
def TK(a b c:Int)(l:List O):List O:=TJ a b (.b (c != 0) false::l)
theorem aq0(h:af (TK a b c [.b (decide ((A.length:Int)>2)) true])):
 ax 128 [.agg (bi a b c A)] [ar false]:=
 h.of
def DL(a b c:Int)(A:ae)(l:List O):List O:=TK a b c (.b (decide ((A.length:Int)>2)) false::l)
def TL(a b c:Int)(A:ae)(l:List O):List O:=DL a b c A (.b (a==8) true::l)
theorem aq1(h:af (TL a b c A [.b (decide ((A.length:Int)>0)) true])):
 ax 128 [.agg (bi a b c A)] [ar false]:=
 h.of
def K6(a b c:Int)(A:ae)(l:List O):List O:=TL a b c A (.b (decide ((A.length:Int)>0)) false::l)
def K7(a b c:Int)(A:ae)(d e:Int)(l:List O):List O:=K6 a b c A (.b ((A.length:Int)==2) true::.p ((0:Int)<=0)::.p (0<(A.length:Int))::.e A 0 [I d]::.p ((0:Int)<=1)::.p (1<(A.length:Int))::.e A 1 [I e]::l)
theorem aq2(h:af (K7 a b c A d e [.b (d==e) true])):
 ax 128 [.agg (bi a b c A)] [ar false]:=
 h.of
theorem aq3(h:af (K7 a b c A d e [.b (d==e) false,.l [] [93,92,91] [] (aq Tryz.f128 0) (dj A 0) .ret (fH q)])):
 ax 128 [.agg (bi a b c A)] [ar q]:=
 h.of
theorem aq4(h:af (K7 a b c A d e [.b (d==e) false,.l [] [93,92,91] [] (aq Tryz.f128 0) (dj A 0) (.exit 1) fP])):
 ax 128 [.agg (bi a b c A)] [ar true]:=
 h.of
theorem aq5(h:af (K6 a b c A [.b ((A.length:Int)==2) false,.l [] [93,92,91] [] (aq Tryz.f128 0) (dj A 0) .ret (fH q)])):
 ax 128 [.agg (bi a b c A)] [ar q]:=
 h.of
theorem aq6(h:af (K6 a b c A [.b ((A.length:Int)==2) false,.l [] [93,92,91] [] (aq Tryz.f128 0) (dj A 0) (.exit 1) fP])):
 ax 128 [.agg (bi a b c A)] [ar true]:=
 h.of
def K8(a b c:Int)(A:ae)(d e:Int)(l:List O):List O:=DL a b c A (.b (a==8) false::.b ((A.length:Int)==2) true::.p ((0:Int)<=0)::.p (0<(A.length:Int))::.e A 0 [I d]::.p ((0:Int)<=1)::.p (1<(A.length:Int))::.e A 1 [I e]::l)
theorem aq7(h:af (K8 a b c A d e [.b (d==e) true])):
 ax 128 [.agg (bi a b c A)] [ar false]:=
 h.of
theorem aq8(h:af (K8 a b c A d e [.b (d==e) false,.l [] [93,92,91] [] (aq Tryz.f128 0) (dj A 0) .ret (fH q)])):
 ax 128 [.agg (bi a b c A)] [ar q]:=
 h.of
theorem aq9(h:af (K8 a b c A d e [.b (d==e) false,.l [] [93,92,91] [] (aq Tryz.f128 0) (dj A 0) (.exit 1) fP])):
 ax 128 [.agg (bi a b c A)] [ar true]:=
 h.of
theorem ara(h:af (DL a b c A [.b (a==8) false,.b ((A.length:Int)==2) false,.l [] [93,92,91] [] (aq Tryz.f128 0) (dj A 0) .ret (fH q)])):
 ax 128 [.agg (bi a b c A)] [ar q]:=
 h.of
theorem arb(h:af (DL a b c A [.b (a==8) false,.b ((A.length:Int)==2) false,.l [] [93,92,91] [] (aq Tryz.f128 0) (dj A 0) (.exit 1) fP])):
 ax 128 [.agg (bi a b c A)] [ar true]:=
 h.of
def TM(a:Int)(l:List O):List O:=TH a (.b (a==5) false::l)
def TN(a:Int)(l:List O):List O:=TM a (.b (a==6) true::.b (a==6) true::l)
theorem arc(h:af (TN a [.b (b != 0) true])):
 ax 128 [.agg (bi a b c A)] [ar false]:=
 h.of
def TO(a b:Int)(l:List O):List O:=TN a (.b (b != 0) false::l)
theorem ard(h:af (TO a b [.b (c != 0) true])):
 ax 128 [.agg (bi a b c A)] [ar false]:=
 h.of
def TP(a b c:Int)(l:List O):List O:=TO a b (.b (c != 0) false::l)
theorem arf(h:af (TP a b c [.b (decide ((A.length:Int)>2)) true])):
 ax 128 [.agg (bi a b c A)] [ar false]:=
 h.of
def DM(a b c:Int)(A:ae)(l:List O):List O:=TP a b c (.b (decide ((A.length:Int)>2)) false::l)
def TQ(a b c:Int)(A:ae)(l:List O):List O:=DM a b c A (.b (a==8) true::l)
theorem arh(h:af (TQ a b c A [.b (decide ((A.length:Int)>0)) true])):
 ax 128 [.agg (bi a b c A)] [ar false]:=
 h.of
def K9(a b c:Int)(A:ae)(l:List O):List O:=TQ a b c A (.b (decide ((A.length:Int)>0)) false::l)
def Li(a b c:Int)(A:ae)(d e:Int)(l:List O):List O:=K9 a b c A (.b ((A.length:Int)==2) true::.p ((0:Int)<=0)::.p (0<(A.length:Int))::.e A 0 [I d]::.p ((0:Int)<=1)::.p (1<(A.length:Int))::.e A 1 [I e]::l)
theorem ari(h:af (Li a b c A d e [.b (d==e) true])):
 ax 128 [.agg (bi a b c A)] [ar false]:=
 h.of
theorem arj(h:af (Li a b c A d e [.b (d==e) false,.l [] [93,92,91] [] (aq Tryz.f128 0) (dj A 0) .ret (fH q)])):
 ax 128 [.agg (bi a b c A)] [ar q]:=
 h.of
theorem aqs(h:af (Li a b c A d e [.b (d==e) false,.l [] [93,92,91] [] (aq Tryz.f128 0) (dj A 0) (.exit 1) fP])):
 ax 128 [.agg (bi a b c A)] [ar true]:=
 h.of
theorem aqt(h:af (K9 a b c A [.b ((A.length:Int)==2) false,.l [] [93,92,91] [] (aq Tryz.f128 0) (dj A 0) .ret (fH q)])):
 ax 128 [.agg (bi a b c A)] [ar q]:=
 h.of
theorem aqu(h:af (K9 a b c A [.b ((A.length:Int)==2) false,.l [] [93,92,91] [] (aq Tryz.f128 0) (dj A 0) (.exit 1) fP])):
 ax 128 [.agg (bi a b c A)] [ar true]:=
 h.of
def Lj(a b c:Int)(A:ae)(d e:Int)(l:List O):List O:=DM a b c A (.b (a==8) false::.b ((A.length:Int)==2) true::.p ((0:Int)<=0)::.p (0<(A.length:Int))::.e A 0 [I d]::.p ((0:Int)<=1)::.p (1<(A.length:Int))::.e A 1 [I e]::l)
theorem aqv(h:af (Lj a b c A d e [.b (d==e) true])):
 ax 128 [.agg (bi a b c A)] [ar false]:=
 h.of
theorem aqw(h:af (Lj a b c A d e [.b (d==e) false,.l [] [93,92,91] [] (aq Tryz.f128 0) (dj A 0) .ret (fH q)])):
 ax 128 [.agg (bi a b c A)] [ar q]:=
 h.of
theorem aqx(h:af (Lj a b c A d e [.b (d==e) false,.l [] [93,92,91] [] (aq Tryz.f128 0) (dj A 0) (.exit 1) fP])):
 ax 128 [.agg (bi a b c A)] [ar true]:=
 h.of
theorem aqy(h:af (DM a b c A [.b (a==8) false,.b ((A.length:Int)==2) false,.l [] [93,92,91] [] (aq Tryz.f128 0) (dj A 0) .ret (fH q)])):
 ax 128 [.agg (bi a b c A)] [ar q]:=
 h.of
theorem aqz(h:af (DM a b c A [.b (a==8) false,.b ((A.length:Int)==2) false,.l [] [93,92,91] [] (aq Tryz.f128 0) (dj A 0) (.exit 1) fP])):
 ax 128 [.agg (bi a b c A)] [ar true]:=
 h.of
def T4(a:Int)(l:List O):List O:=TM a (.b (a==6) false::l)
def T5(a:Int)(l:List O):List O:=T4 a (.b (a==7) true::.b (a==7) true::l)
theorem aqA(h:af (T5 a [.b (b != 0) true])):
 ax 128 [.agg (bi a b c A)] [ar false]:=
 h.of
def T6(a b:Int)(l:List O):List O:=T5 a (.b (b != 0) false::l)
theorem aqB(h:af (T6 a b [.b (c != 0) true])):
 ax 128 [.agg (bi a b c A)] [ar false]:=
 h.of
def DN(a b c:Int)(l:List O):List O:=T6 a b (.b (c != 0) false::l)
theorem aqC(h:af (DN a b c [.b (decide ((A.length:Int)>2)) true])):
 ax 128 [.agg (bi a b c A)] [ar false]:=
 h.of
def w6(a b c:Int)(A:ae)(l:List O):List O:=DN a b c (.b (decide ((A.length:Int)>2)) false::l)
def T7(a b c:Int)(A:ae)(l:List O):List O:=w6 a b c A (.b (a==8) true::l)
theorem aqD(h:af (T7 a b c A [.b (decide ((A.length:Int)>0)) true])):
 ax 128 [.agg (bi a b c A)] [ar false]:=
 h.of
def Lk(a b c:Int)(A:ae)(l:List O):List O:=T7 a b c A (.b (decide ((A.length:Int)>0)) false::l)
def z6(a b c:Int)(A:ae)(d e:Int)(l:List O):List O:=Lk a b c A (.b ((A.length:Int)==2) true::.p ((0:Int)<=0)::.p (0<(A.length:Int))::.e A 0 [I d]::.p ((0:Int)<=1)::.p (1<(A.length:Int))::.e A 1 [I e]::l)
theorem aqE(h:af (z6 a b c A d e [.b (d==e) true])):
 ax 128 [.agg (bi a b c A)] [ar false]:=
 h.of
theorem aqF(h:af (z6 a b c A d e [.b (d==e) false,.l [] [93,92,91] [] (aq Tryz.f128 0) (dj A 0) .ret (fH q)])):
 ax 128 [.agg (bi a b c A)] [ar q]:=
 h.of
theorem aqG(h:af (z6 a b c A d e [.b (d==e) false,.l [] [93,92,91] [] (aq Tryz.f128 0) (dj A 0) (.exit 1) fP])):
 ax 128 [.agg (bi a b c A)] [ar true]:=
 h.of
theorem aqH(h:af (Lk a b c A [.b ((A.length:Int)==2) false,.l [] [93,92,91] [] (aq Tryz.f128 0) (dj A 0) .ret (fH q)])):
 ax 128 [.agg (bi a b c A)] [ar q]:=
 h.of
theorem aqI(h:af (Lk a b c A [.b ((A.length:Int)==2) false,.l [] [93,92,91] [] (aq Tryz.f128 0) (dj A 0) (.exit 1) fP])):
 ax 128 [.agg (bi a b c A)] [ar true]:=
 h.of
def Ls(a b c:Int)(A:ae)(d e:Int)(l:List O):List O:=w6 a b c A (.b (a==8) false::.b ((A.length:Int)==2) true::.p ((0:Int)<=0)::.p (0<(A.length:Int))::.e A 0 [I d]::.p ((0:Int)<=1)::.p (1<(A.length:Int))::.e A 1 [I e]::l)
theorem aqJ(h:af (Ls a b c A d e [.b (d==e) true])):
 ax 128 [.agg (bi a b c A)] [ar false]:=
 h.of
theorem aqK(h:af (Ls a b c A d e [.b (d==e) false,.l [] [93,92,91] [] (aq Tryz.f128 0) (dj A 0) .ret (fH q)])):
 ax 128 [.agg (bi a b c A)] [ar q]:=
 h.of
theorem aqL(h:af (Ls a b c A d e [.b (d==e) false,.l [] [93,92,91] [] (aq Tryz.f128 0) (dj A 0) (.exit 1) fP])):
 ax 128 [.agg (bi a b c A)] [ar true]:=
 h.of
theorem aqM(h:af (w6 a b c A [.b (a==8) false,.b ((A.length:Int)==2) false,.l [] [93,92,91] [] (aq Tryz.f128 0) (dj A 0) .ret (fH q)])):
 ax 128 [.agg (bi a b c A)] [ar q]:=
 h.of
theorem aqN(h:af (w6 a b c A [.b (a==8) false,.b ((A.length:Int)==2) false,.l [] [93,92,91] [] (aq Tryz.f128 0) (dj A 0) (.exit 1) fP])):
 ax 128 [.agg (bi a b c A)] [ar true]:=
 h.of
def Un(a:Int)(l:List O):List O:=T4 a (.b (a==7) false::l)
def Uo(a:Int)(l:List O):List O:=Un a (.b (a==8) true::l)
theorem aqO(h:af (Uo a [.b (b != 0) true])):
 ax 128 [.agg (bi a b c A)] [ar false]:=
 h.of
def Up(a b:Int)(l:List O):List O:=Uo a (.b (b != 0) false::l)
theorem aqP(h:af (Up a b [.b (c != 0) true])):
 ax 128 [.agg (bi a b c A)] [ar false]:=
 h.of
def Uq(a b c:Int)(l:List O):List O:=Up a b (.b (c != 0) false::l)
theorem aqQ(h:af (Uq a b c [.b (decide ((A.length:Int)>2)) true])):
 ax 128 [.agg (bi a b c A)] [ar false]:=
 h.of
def Ur(a b c:Int)(A:ae)(l:List O):List O:=Uq a b c (.b (decide ((A.length:Int)>2)) false::.b (a==8) true::l)
theorem aqR(h:af (Ur a b c A [.b (decide ((A.length:Int)>0)) true])):
 ax 128 [.agg (bi a b c A)] [ar false]:=
 h.of
def Lt(a b c:Int)(A:ae)(l:List O):List O:=Ur a b c A (.b (decide ((A.length:Int)>0)) false::l)
def Lu(a b c:Int)(A:ae)(d e:Int)(l:List O):List O:=Lt a b c A (.b ((A.length:Int)==2) true::.p ((0:Int)<=0)::.p (0<(A.length:Int))::.e A 0 [I d]::.p ((0:Int)<=1)::.p (1<(A.length:Int))::.e A 1 [I e]::l)
theorem aqi(h:af (Lu a b c A d e [.b (d==e) true])):
 ax 128 [.agg (bi a b c A)] [ar false]:=
 h.of
theorem aqj(h:af (Lu a b c A d e [.b (d==e) false,.l [] [93,92,91] [] (aq Tryz.f128 0) (dj A 0) .ret (fH q)])):
 ax 128 [.agg (bi a b c A)] [ar q]:=
 h.of
theorem aqk(h:af (Lu a b c A d e [.b (d==e) false,.l [] [93,92,91] [] (aq Tryz.f128 0) (dj A 0) (.exit 1) fP])):
 ax 128 [.agg (bi a b c A)] [ar true]:=
 h.of
theorem aql(h:af (Lt a b c A [.b ((A.length:Int)==2) false,.l [] [93,92,91] [] (aq Tryz.f128 0) (dj A 0) .ret (fH q)])):
 ax 128 [.agg (bi a b c A)] [ar q]:=
 h.of
theorem aqm(h:af (Lt a b c A [.b ((A.length:Int)==2) false,.l [] [93,92,91] [] (aq Tryz.f128 0) (dj A 0) (.exit 1) fP])):
 ax 128 [.agg (bi a b c A)] [ar true]:=
 h.of
theorem aqn(h:af (Un a [.b (a==8) false])):
 ax 128 [.agg (bi a b c A)] [ar false]:=
 h.of
