import Derived.Test.YthfnndblgbjniaaGreatDoorGE
namespace Go.Proofs.YthfnndblgbjniaaGreatDoor
open Go.Sx Go.RowKit
variable {a b c d e f g : Int} {A : af} {q r s t : Bool}
def V1(a:Int)(l:List O):List O:=.b (a==2) true::l
def V2(a b:Int)(q r:Bool)(l:List O):List O:=V1 a (.r 65 [ag b,ag 0,ag 999] [ai q]::.r 65 [ag a,ag 1,ag 8] [ai r]::l)
theorem avX(h:ae (V2 a b r q [.n q true])):
 al 183 [.agg (bk a b c A)] [ai false]:=
 h.of
def BH(a b:Int)(q r:Bool)(l:List O):List O:=V2 a b q r (.n r false::l)
theorem avY(h:ae (BH a b q r [.n q true])):
 al 183 [.agg (bk a b c A)] [ai false]:=
 h.of
theorem avZ(h:ae (BH a b q r [.n q false,.b (!c==0) true])):
 al 183 [.agg (bk a b c A)] [ai false]:=
 h.of
def V9(a b:Int)(q r:Bool)(c:Int)(l:List O):List O:=BH a b q r (.n q false::.b (!c==0) false::l)
theorem av0(h:ae (V9 a b q r c [.b (decide ((A.length:Int)>2)) true])):
 al 183 [.agg (bk a b c A)] [ai false]:=
 h.of
def BI(a b:Int)(q r:Bool)(c:Int)(A:af)(l:List O):List O:=V9 a b q r c (.b (decide ((A.length:Int)>2)) false::l)
theorem avr(h:ae (BI a b q r c A [.b (a==8) true,.b (decide ((A.length:Int)>0)) true])):
 al 183 [.agg (bk a b c A)] [ai false]:=
 h.of
def hT(a b c:Int)(A:af)(d:Int):aF:=bf 93 [(1,aS 1),(5,aU d)] [(1,[au a,au b,au c,.J .free 1 A])]
def qx(q:Bool):aF:=bf 93 [(2,.aC (.one (.bg q)))] []
def MV(A:af)(a b:Int)(q:Bool)(l:List O):List O:=.i A a [I b]::.r 65 [ag b,ag 0,ag 7] [ai q]::l
theorem Ly(h:ae (MV A a b q [.n q true])):
 aY (ap Tryz.f183 0) (hT c d e A a) .ret (qx false):=
 h.aT [2] []
def Wp(A:af)(a b:Int)(q:Bool)(c d:Int)(l:List O):List O:=MV A a b q (.n q false::.b (decide (a>0)) true::.p ((0:Int)<=0)::.p (0<(A.length:Int))::.e A 0 [I c]::.p ((0:Int)<=1)::.p (1<(A.length:Int))::.e A 1 [I d]::l)
theorem avs(h:ae (Wp A a c q d b [.b (d==b) true])):
 aY (ap Tryz.f183 0) (hT e f g A a) .ret (qx false):=
 h.aT [2] []
theorem avt(h:ae (Wp A a f q g d [.b (g==d) false,.u a])):
 aY (ap Tryz.f183 0) (hT b c e A a) .normal (hT b c e A (a+1)):=
 h.aT [5,1] [1]
theorem Sb(h:ae (MV A a e q [.n q false,.b (decide (a>0)) false,.u a])):
 aY (ap Tryz.f183 0) (hT b c d A a) .normal (hT b c d A (a+1)):=
 h.aT [5,1] [1]
def ry:aF:=bf 93 [] []
theorem LA(h:ae [.f A a false]):
 aY (ap Tryz.f183 0) (hT b c d A a) (.exit 1) ry:=
 h.aT [] []
theorem avu(h:ae (BI a b q r c A [.b (a==8) true,.b (decide ((A.length:Int)>0)) false,.l [] [5,1] [1] (ap Tryz.f183 0) (hT a b c A 0) .ret (qx s)])):
 al 183 [.agg (bk a b c A)] [ai s]:=
 h.of
theorem avv(h:ae (BI a b q r c A [.b (a==8) true,.b (decide ((A.length:Int)>0)) false,.l [] [5,1] [1] (ap Tryz.f183 0) (hT a b c A 0) (.exit 1) ry])):
 al 183 [.agg (bk a b c A)] [ai true]:=
 h.of
theorem avw(h:ae (BI a b q r c A [.b (a==8) false,.l [] [5,1] [1] (ap Tryz.f183 0) (hT a b c A 0) .ret (qx s)])):
 al 183 [.agg (bk a b c A)] [ai s]:=
 h.of
theorem avx(h:ae (BI a b q r c A [.b (a==8) false,.l [] [5,1] [1] (ap Tryz.f183 0) (hT a b c A 0) (.exit 1) ry])):
 al 183 [.agg (bk a b c A)] [ai true]:=
 h.of
def Wq(a:Int)(l:List O):List O:=.b (a==2) false::l
def Wr(a:Int)(l:List O):List O:=Wq a (.b (a==3) true::l)
def MW(a b:Int)(q:Bool)(c:Int)(r s:Bool)(l:List O):List O:=Wr a (.r 65 [ag b,ag 1,ag 10] [ai q]::.a .wr::.r 65 [ag c,ag 0,ag (IntKind.i64.wrap (b-1))] [ai r]::.r 65 [ag a,ag 1,ag 8] [ai s]::l)
theorem avy(h:ae (MW a b r c s q [.n q true])):
 al 183 [.agg (bk a b c A)] [ai false]:=
 h.of
theorem avz(h:ae (MW a b q c s r [.n r false,.n q true])):
 al 183 [.agg (bk a b c A)] [ai false]:=
 h.of
def MX(a b:Int)(q:Bool)(c:Int)(r s:Bool)(l:List O):List O:=MW a b q c r s (.n s false::.n q false::l)
theorem avA(h:ae (MX a b q c r s [.n r true])):
 al 183 [.agg (bk a b c A)] [ai false]:=
 h.of
theorem aaV(h:ae (MX a b q c r s [.n r false,.b (decide ((A.length:Int)>2)) true])):
 al 183 [.agg (bk a b c A)] [ai false]:=
 h.of
def BL(a b:Int)(q:Bool)(c:Int)(r s:Bool)(A:af)(l:List O):List O:=MX a b q c r s (.n r false::.b (decide ((A.length:Int)>2)) false::l)
theorem aaW(h:ae (BL a b q c r s A [.b (a==8) true,.b (decide ((A.length:Int)>0)) true])):
 al 183 [.agg (bk a b c A)] [ai false]:=
 h.of
theorem aaX(h:ae (BL a b q c r s A [.b (a==8) true,.b (decide ((A.length:Int)>0)) false,.l [] [5,1] [1] (ap Tryz.f183 0) (hT a b c A 0) .ret (qx t)])):
 al 183 [.agg (bk a b c A)] [ai t]:=
 h.of
theorem aaY(h:ae (BL a b q c r s A [.b (a==8) true,.b (decide ((A.length:Int)>0)) false,.l [] [5,1] [1] (ap Tryz.f183 0) (hT a b c A 0) (.exit 1) ry])):
 al 183 [.agg (bk a b c A)] [ai true]:=
 h.of
theorem aaZ(h:ae (BL a b q c r s A [.b (a==8) false,.l [] [5,1] [1] (ap Tryz.f183 0) (hT a b c A 0) .ret (qx t)])):
 al 183 [.agg (bk a b c A)] [ai t]:=
 h.of
theorem aa0(h:ae (BL a b q c r s A [.b (a==8) false,.l [] [5,1] [1] (ap Tryz.f183 0) (hT a b c A 0) (.exit 1) ry])):
 al 183 [.agg (bk a b c A)] [ai true]:=
 h.of
def Wv(a:Int)(l:List O):List O:=Wq a (.b (a==3) false::l)
def Ww(a:Int)(l:List O):List O:=Wv a (.b (a==4) true::l)
def Wx(a b:Int)(q r:Bool)(l:List O):List O:=Ww a (.r 65 [ag b,ag 0,ag 99] [ai q]::.r 65 [ag a,ag 1,ag 8] [ai r]::l)
theorem aa1(h:ae (Wx a b r q [.n q true])):
 al 183 [.agg (bk a b c A)] [ai false]:=
 h.of
def M1(a b:Int)(q r:Bool)(l:List O):List O:=Wx a b q r (.n r false::l)
theorem aa2(h:ae (M1 a b q r [.n q true])):
 al 183 [.agg (bk a b c A)] [ai false]:=
 h.of
theorem aa3(h:ae (M1 a b q r [.n q false,.b (!c==0) true])):
 al 183 [.agg (bk a b c A)] [ai false]:=
 h.of
def Wy(a b:Int)(q r:Bool)(c:Int)(l:List O):List O:=M1 a b q r (.n q false::.b (!c==0) false::l)
theorem aa4(h:ae (Wy a b q r c [.b (decide ((A.length:Int)>2)) true])):
 al 183 [.agg (bk a b c A)] [ai false]:=
 h.of
def BN(a b:Int)(q r:Bool)(c:Int)(A:af)(l:List O):List O:=Wy a b q r c (.b (decide ((A.length:Int)>2)) false::l)
theorem aa5(h:ae (BN a b q r c A [.b (a==8) true,.b (decide ((A.length:Int)>0)) true])):
 al 183 [.agg (bk a b c A)] [ai false]:=
 h.of
theorem aa6(h:ae (BN a b q r c A [.b (a==8) true,.b (decide ((A.length:Int)>0)) false,.l [] [5,1] [1] (ap Tryz.f183 0) (hT a b c A 0) .ret (qx s)])):
 al 183 [.agg (bk a b c A)] [ai s]:=
 h.of
theorem aa7(h:ae (BN a b q r c A [.b (a==8) true,.b (decide ((A.length:Int)>0)) false,.l [] [5,1] [1] (ap Tryz.f183 0) (hT a b c A 0) (.exit 1) ry])):
 al 183 [.agg (bk a b c A)] [ai true]:=
 h.of
theorem aa8(h:ae (BN a b q r c A [.b (a==8) false,.l [] [5,1] [1] (ap Tryz.f183 0) (hT a b c A 0) .ret (qx s)])):
 al 183 [.agg (bk a b c A)] [ai s]:=
 h.of
theorem aa9(h:ae (BN a b q r c A [.b (a==8) false,.l [] [5,1] [1] (ap Tryz.f183 0) (hT a b c A 0) (.exit 1) ry])):
 al 183 [.agg (bk a b c A)] [ai true]:=
 h.of
def MO(a:Int)(l:List O):List O:=Wv a (.b (a==4) false::l)
def Wa(a:Int)(q:Bool)(l:List O):List O:=MO a (.r 65 [ag a,ag 1,ag 8] [ai q]::l)
theorem aba(h:ae (Wa a q [.n q true])):
 al 183 [.agg (bk a b c A)] [ai false]:=
 h.of
def Wb(a:Int)(q:Bool)(l:List O):List O:=Wa a q (.n q false::l)
theorem abb(h:ae (Wb a q [.b (!b==0) true])):
 al 183 [.agg (bk a b c A)] [ai false]:=
 h.of
def Wc(a:Int)(q:Bool)(b:Int)(l:List O):List O:=Wb a q (.b (!b==0) false::l)
theorem abd(h:ae (Wc a q b [.b (!c==0) true])):
 al 183 [.agg (bk a b c A)] [ai false]:=
 h.of
def Wd(a:Int)(q:Bool)(b c:Int)(l:List O):List O:=Wc a q b (.b (!c==0) false::l)
theorem abe(h:ae (Wd a q b c [.b (decide ((A.length:Int)>2)) true])):
 al 183 [.agg (bk a b c A)] [ai false]:=
 h.of
def BK(a:Int)(q:Bool)(b c:Int)(A:af)(l:List O):List O:=Wd a q b c (.b (decide ((A.length:Int)>2)) false::l)
theorem abf(h:ae (BK a q b c A [.b (a==8) true,.b (decide ((A.length:Int)>0)) true])):
 al 183 [.agg (bk a b c A)] [ai false]:=
 h.of
theorem abg(h:ae (BK a q b c A [.b (a==8) true,.b (decide ((A.length:Int)>0)) false,.l [] [5,1] [1] (ap Tryz.f183 0) (hT a b c A 0) .ret (qx r)])):
 al 183 [.agg (bk a b c A)] [ai r]:=
 h.of
theorem abh(h:ae (BK a q b c A [.b (a==8) true,.b (decide ((A.length:Int)>0)) false,.l [] [5,1] [1] (ap Tryz.f183 0) (hT a b c A 0) (.exit 1) ry])):
 al 183 [.agg (bk a b c A)] [ai true]:=
 h.of
theorem abi(h:ae (BK a q b c A [.b (a==8) false,.l [] [5,1] [1] (ap Tryz.f183 0) (hT a b c A 0) .ret (qx r)])):
 al 183 [.agg (bk a b c A)] [ai r]:=
 h.of
theorem abj(h:ae (BK a q b c A [.b (a==8) false,.l [] [5,1] [1] (ap Tryz.f183 0) (hT a b c A 0) (.exit 1) ry])):
 al 183 [.agg (bk a b c A)] [ai true]:=
 h.of
def FO(a b:Int)(q:Bool)(l:List O):List O:=V1 a (.r 64 [ag b,ag 0,ag 999] [ai q]::l)
theorem abk(h:ae (FO a b q [.n q true])):
 al 128 [.agg (bk a b c A)] [ai false]:=
 h.of
def FP(a b:Int)(q:Bool)(l:List O):List O:=FO a b q (.n q false::l)
theorem abl(h:ae (FP a b q [.b (c != 0) true])):
 al 128 [.agg (bk a b c A)] [ai false]:=
 h.of
def V'(a b:Int)(q:Bool)(c:Int)(l:List O):List O:=FP a b q (.b (c != 0) false::l)
theorem aav(h:ae (V' a b q c [.b (decide ((A.length:Int)>2)) true])):
 al 128 [.agg (bk a b c A)] [ai false]:=
 h.of
def BJ(a b:Int)(q:Bool)(c:Int)(A:af)(l:List O):List O:=V' a b q c (.b (decide ((A.length:Int)>2)) false::l)
theorem aaw(h:ae (BJ a b q c A [.b (a==8) true,.b (decide ((A.length:Int)>0)) true])):
 al 128 [.agg (bk a b c A)] [ai false]:=
 h.of
def MJ(a b:Int)(q:Bool)(c:Int)(A:af)(l:List O):List O:=BJ a b q c A (.b (a==8) true::.b (decide ((A.length:Int)>0)) false::l)
def MK(a b:Int)(q:Bool)(c:Int)(A:af)(d e:Int)(l:List O):List O:=MJ a b q c A (.b ((A.length:Int)==2) true::.p ((0:Int)<=0)::.p (0<(A.length:Int))::.e A 0 [I d]::.p ((0:Int)<=1)::.p (1<(A.length:Int))::.e A 1 [I e]::l)
theorem aax(h:ae (MK a b q c A d e [.b (d==e) true])):
 al 128 [.agg (bk a b c A)] [ai false]:=
 h.of
def dJ(A:af)(a:Int):aF:=bf 101 [(91,du 1 A),(92,aU (A.length:Int)),(93,aU a)] []
def gq(q:Bool):aF:=bf 101 [(2,.aC (.one (.bg q)))] []
theorem aay(h:ae [.i A a [I b],.r 64 [ag b,ag 0,ag 7] [ai q],.n q true]):
 aY (ap Tryz.f128 0) (dJ A a) .ret (gq false):=
 h.aT [2] []
theorem aaz(h:ae [.i A a [I b],.r 64 [ag b,ag 0,ag 7] [ai q],.n q false,.u a]):
 aY (ap Tryz.f128 0) (dJ A a) .normal (dJ A (a+1)):=
 h.aT [93,92,91] []
def gJ:aF:=bf 101 [] []
theorem aaA(h:ae [.f A a false]):
 aY (ap Tryz.f128 0) (dJ A a) (.exit 1) gJ:=
 h.aT [] []
theorem aaB(h:ae (MK a b q c A d e [.b (d==e) false,.l [] [93,92,91] [] (ap Tryz.f128 0) (dJ A 0) .ret (gq r)])):
 al 128 [.agg (bk a b c A)] [ai r]:=
 h.of
theorem aaC(h:ae (MK a b q c A d e [.b (d==e) false,.l [] [93,92,91] [] (ap Tryz.f128 0) (dJ A 0) (.exit 1) gJ])):
 al 128 [.agg (bk a b c A)] [ai true]:=
 h.of
theorem aaD(h:ae (MJ a b q c A [.b ((A.length:Int)==2) false,.l [] [93,92,91] [] (ap Tryz.f128 0) (dJ A 0) .ret (gq r)])):
 al 128 [.agg (bk a b c A)] [ai r]:=
 h.of
theorem aaE(h:ae (MJ a b q c A [.b ((A.length:Int)==2) false,.l [] [93,92,91] [] (ap Tryz.f128 0) (dJ A 0) (.exit 1) gJ])):
 al 128 [.agg (bk a b c A)] [ai true]:=
 h.of
def ML(a b:Int)(q:Bool)(c:Int)(A:af)(d e:Int)(l:List O):List O:=BJ a b q c A (.b (a==8) false::.b ((A.length:Int)==2) true::.p ((0:Int)<=0)::.p (0<(A.length:Int))::.e A 0 [I d]::.p ((0:Int)<=1)::.p (1<(A.length:Int))::.e A 1 [I e]::l)
theorem aaF(h:ae (ML a b q c A d e [.b (d==e) true])):
 al 128 [.agg (bk a b c A)] [ai false]:=
 h.of
theorem aaG(h:ae (ML a b q c A d e [.b (d==e) false,.l [] [93,92,91] [] (ap Tryz.f128 0) (dJ A 0) .ret (gq r)])):
 al 128 [.agg (bk a b c A)] [ai r]:=
 h.of
theorem aaH(h:ae (ML a b q c A d e [.b (d==e) false,.l [] [93,92,91] [] (ap Tryz.f128 0) (dJ A 0) (.exit 1) gJ])):
 al 128 [.agg (bk a b c A)] [ai true]:=
 h.of
theorem aaI(h:ae (BJ a b q c A [.b (a==8) false,.b ((A.length:Int)==2) false,.l [] [93,92,91] [] (ap Tryz.f128 0) (dJ A 0) .ret (gq r)])):
 al 128 [.agg (bk a b c A)] [ai r]:=
 h.of
theorem aaJ(h:ae (BJ a b q c A [.b (a==8) false,.b ((A.length:Int)==2) false,.l [] [93,92,91] [] (ap Tryz.f128 0) (dJ A 0) (.exit 1) gJ])):
 al 128 [.agg (bk a b c A)] [ai true]:=
 h.of
def Ws(a b:Int)(q:Bool)(l:List O):List O:=Wr a (.r 64 [ag b,ag 1,ag 10] [ai q]::l)
theorem aaK(h:ae (Ws a b q [.n q true])):
 al 128 [.agg (bk a b c A)] [ai false]:=
 h.of
def Wt(a b:Int)(q:Bool)(c:Int)(r:Bool)(l:List O):List O:=Ws a b q (.n q false::.a .wr::.r 64 [ag c,ag 0,ag (IntKind.i64.wrap (b-1))] [ai r]::l)
theorem aaL(h:ae (Wt a b q c r [.n r true])):
 al 128 [.agg (bk a b c A)] [ai false]:=
 h.of
def Wu(a b:Int)(q:Bool)(c:Int)(r:Bool)(l:List O):List O:=Wt a b q c r (.n r false::l)
theorem aaM(h:ae (Wu a b q c r [.b (decide ((A.length:Int)>2)) true])):
 al 128 [.agg (bk a b c A)] [ai false]:=
 h.of
def BM(a b:Int)(q:Bool)(c:Int)(r:Bool)(A:af)(l:List O):List O:=Wu a b q c r (.b (decide ((A.length:Int)>2)) false::l)
theorem aaN(h:ae (BM a b q c r A [.b (a==8) true,.b (decide ((A.length:Int)>0)) true])):
 al 128 [.agg (bk a b c A)] [ai false]:=
 h.of
def MY(a b:Int)(q:Bool)(c:Int)(r:Bool)(A:af)(l:List O):List O:=BM a b q c r A (.b (a==8) true::.b (decide ((A.length:Int)>0)) false::l)
def MZ(a b:Int)(q:Bool)(c:Int)(r:Bool)(A:af)(d e:Int)(l:List O):List O:=MY a b q c r A (.b ((A.length:Int)==2) true::.p ((0:Int)<=0)::.p (0<(A.length:Int))::.e A 0 [I d]::.p ((0:Int)<=1)::.p (1<(A.length:Int))::.e A 1 [I e]::l)
theorem aaO(h:ae (MZ a b q c r A d e [.b (d==e) true])):
 al 128 [.agg (bk a b c A)] [ai false]:=
 h.of
theorem aaP(h:ae (MZ a b q c r A d e [.b (d==e) false,.l [] [93,92,91] [] (ap Tryz.f128 0) (dJ A 0) .ret (gq s)])):
 al 128 [.agg (bk a b c A)] [ai s]:=
 h.of
theorem aaQ(h:ae (MZ a b q c r A d e [.b (d==e) false,.l [] [93,92,91] [] (ap Tryz.f128 0) (dJ A 0) (.exit 1) gJ])):
 al 128 [.agg (bk a b c A)] [ai true]:=
 h.of
theorem aaR(h:ae (MY a b q c r A [.b ((A.length:Int)==2) false,.l [] [93,92,91] [] (ap Tryz.f128 0) (dJ A 0) .ret (gq s)])):
 al 128 [.agg (bk a b c A)] [ai s]:=
 h.of
theorem aaS(h:ae (MY a b q c r A [.b ((A.length:Int)==2) false,.l [] [93,92,91] [] (ap Tryz.f128 0) (dJ A 0) (.exit 1) gJ])):
 al 128 [.agg (bk a b c A)] [ai true]:=
 h.of
def M0(a b:Int)(q:Bool)(c:Int)(r:Bool)(A:af)(d e:Int)(l:List O):List O:=BM a b q c r A (.b (a==8) false::.b ((A.length:Int)==2) true::.p ((0:Int)<=0)::.p (0<(A.length:Int))::.e A 0 [I d]::.p ((0:Int)<=1)::.p (1<(A.length:Int))::.e A 1 [I e]::l)
theorem aaT(h:ae (M0 a b q c r A d e [.b (d==e) true])):
 al 128 [.agg (bk a b c A)] [ai false]:=
 h.of
theorem aaU(h:ae (M0 a b q c r A d e [.b (d==e) false,.l [] [93,92,91] [] (ap Tryz.f128 0) (dJ A 0) .ret (gq s)])):
 al 128 [.agg (bk a b c A)] [ai s]:=
 h.of
theorem aal(h:ae (M0 a b q c r A d e [.b (d==e) false,.l [] [93,92,91] [] (ap Tryz.f128 0) (dJ A 0) (.exit 1) gJ])):
 al 128 [.agg (bk a b c A)] [ai true]:=
 h.of
theorem aam(h:ae (BM a b q c r A [.b (a==8) false,.b ((A.length:Int)==2) false,.l [] [93,92,91] [] (ap Tryz.f128 0) (dJ A 0) .ret (gq s)])):
 al 128 [.agg (bk a b c A)] [ai s]:=
 h.of
theorem aan(h:ae (BM a b q c r A [.b (a==8) false,.b ((A.length:Int)==2) false,.l [] [93,92,91] [] (ap Tryz.f128 0) (dJ A 0) (.exit 1) gJ])):
 al 128 [.agg (bk a b c A)] [ai true]:=
 h.of
def Wz(a b:Int)(q:Bool)(l:List O):List O:=Ww a (.r 64 [ag b,ag 0,ag 99] [ai q]::l)
theorem aao(h:ae (Wz a b q [.n q true])):
 al 128 [.agg (bk a b c A)] [ai false]:=
 h.of
def WA(a b:Int)(q:Bool)(l:List O):List O:=Wz a b q (.n q false::l)
theorem aap(h:ae (WA a b q [.b (c != 0) true])):
 al 128 [.agg (bk a b c A)] [ai false]:=
 h.of
def WB(a b:Int)(q:Bool)(c:Int)(l:List O):List O:=WA a b q (.b (c != 0) false::l)
theorem aaq(h:ae (WB a b q c [.b (decide ((A.length:Int)>2)) true])):
 al 128 [.agg (bk a b c A)] [ai false]:=
 h.of
def BO(a b:Int)(q:Bool)(c:Int)(A:af)(l:List O):List O:=WB a b q c (.b (decide ((A.length:Int)>2)) false::l)
theorem aar(h:ae (BO a b q c A [.b (a==8) true,.b (decide ((A.length:Int)>0)) true])):
 al 128 [.agg (bk a b c A)] [ai false]:=
 h.of
def M3(a b:Int)(q:Bool)(c:Int)(A:af)(l:List O):List O:=BO a b q c A (.b (a==8) true::.b (decide ((A.length:Int)>0)) false::l)
def M4(a b:Int)(q:Bool)(c:Int)(A:af)(d e:Int)(l:List O):List O:=M3 a b q c A (.b ((A.length:Int)==2) true::.p ((0:Int)<=0)::.p (0<(A.length:Int))::.e A 0 [I d]::.p ((0:Int)<=1)::.p (1<(A.length:Int))::.e A 1 [I e]::l)
theorem aas(h:ae (M4 a b q c A d e [.b (d==e) true])):
 al 128 [.agg (bk a b c A)] [ai false]:=
 h.of
theorem aat(h:ae (M4 a b q c A d e [.b (d==e) false,.l [] [93,92,91] [] (ap Tryz.f128 0) (dJ A 0) .ret (gq r)])):
 al 128 [.agg (bk a b c A)] [ai r]:=
 h.of
theorem aau(h:ae (M4 a b q c A d e [.b (d==e) false,.l [] [93,92,91] [] (ap Tryz.f128 0) (dJ A 0) (.exit 1) gJ])):
 al 128 [.agg (bk a b c A)] [ai true]:=
 h.of
theorem abX(h:ae (M3 a b q c A [.b ((A.length:Int)==2) false,.l [] [93,92,91] [] (ap Tryz.f128 0) (dJ A 0) .ret (gq r)])):
 al 128 [.agg (bk a b c A)] [ai r]:=
 h.of
theorem abY(h:ae (M3 a b q c A [.b ((A.length:Int)==2) false,.l [] [93,92,91] [] (ap Tryz.f128 0) (dJ A 0) (.exit 1) gJ])):
 al 128 [.agg (bk a b c A)] [ai true]:=
 h.of
def MN(a b:Int)(q:Bool)(c:Int)(A:af)(d e:Int)(l:List O):List O:=BO a b q c A (.b (a==8) false::.b ((A.length:Int)==2) true::.p ((0:Int)<=0)::.p (0<(A.length:Int))::.e A 0 [I d]::.p ((0:Int)<=1)::.p (1<(A.length:Int))::.e A 1 [I e]::l)
theorem abZ(h:ae (MN a b q c A d e [.b (d==e) true])):
 al 128 [.agg (bk a b c A)] [ai false]:=
 h.of
theorem ab0(h:ae (MN a b q c A d e [.b (d==e) false,.l [] [93,92,91] [] (ap Tryz.f128 0) (dJ A 0) .ret (gq r)])):
 al 128 [.agg (bk a b c A)] [ai r]:=
 h.of
theorem ab1(h:ae (MN a b q c A d e [.b (d==e) false,.l [] [93,92,91] [] (ap Tryz.f128 0) (dJ A 0) (.exit 1) gJ])):
 al 128 [.agg (bk a b c A)] [ai true]:=
 h.of
theorem ab2(h:ae (BO a b q c A [.b (a==8) false,.b ((A.length:Int)==2) false,.l [] [93,92,91] [] (ap Tryz.f128 0) (dJ A 0) .ret (gq r)])):
 al 128 [.agg (bk a b c A)] [ai r]:=
 h.of
theorem ab3(h:ae (BO a b q c A [.b (a==8) false,.b ((A.length:Int)==2) false,.l [] [93,92,91] [] (ap Tryz.f128 0) (dJ A 0) (.exit 1) gJ])):
 al 128 [.agg (bk a b c A)] [ai true]:=
 h.of
def We(a:Int)(l:List O):List O:=MO a (.b (a==1) true::.b (a==1) true::l)
theorem ab4(h:ae (We a [.b (b != 0) true])):
 al 128 [.agg (bk a b c A)] [ai false]:=
 h.of
def Wf(a b:Int)(l:List O):List O:=We a (.b (b != 0) false::l)
theorem ab5(h:ae (Wf a b [.b (c != 0) true])):
 al 128 [.agg (bk a b c A)] [ai false]:=
 h.of
def Wg(a b c:Int)(l:List O):List O:=Wf a b (.b (c != 0) false::l)
theorem ab6(h:ae (Wg a b c [.b (decide ((A.length:Int)>2)) true])):
 al 128 [.agg (bk a b c A)] [ai false]:=
 h.of
def FQ(a b c:Int)(A:af)(l:List O):List O:=Wg a b c (.b (decide ((A.length:Int)>2)) false::l)
def Wh(a b c:Int)(A:af)(l:List O):List O:=FQ a b c A (.b (a==8) true::l)
theorem ab7(h:ae (Wh a b c A [.b (decide ((A.length:Int)>0)) true])):
 al 128 [.agg (bk a b c A)] [ai false]:=
 h.of
def MP(a b c:Int)(A:af)(l:List O):List O:=Wh a b c A (.b (decide ((A.length:Int)>0)) false::l)
def MQ(a b c:Int)(A:af)(d e:Int)(l:List O):List O:=MP a b c A (.b ((A.length:Int)==2) true::.p ((0:Int)<=0)::.p (0<(A.length:Int))::.e A 0 [I d]::.p ((0:Int)<=1)::.p (1<(A.length:Int))::.e A 1 [I e]::l)
theorem ab8(h:ae (MQ a b c A d e [.b (d==e) true])):
 al 128 [.agg (bk a b c A)] [ai false]:=
 h.of
theorem ab9(h:ae (MQ a b c A d e [.b (d==e) false,.l [] [93,92,91] [] (ap Tryz.f128 0) (dJ A 0) .ret (gq q)])):
 al 128 [.agg (bk a b c A)] [ai q]:=
 h.of
theorem aca(h:ae (MQ a b c A d e [.b (d==e) false,.l [] [93,92,91] [] (ap Tryz.f128 0) (dJ A 0) (.exit 1) gJ])):
 al 128 [.agg (bk a b c A)] [ai true]:=
 h.of
theorem acb(h:ae (MP a b c A [.b ((A.length:Int)==2) false,.l [] [93,92,91] [] (ap Tryz.f128 0) (dJ A 0) .ret (gq q)])):
 al 128 [.agg (bk a b c A)] [ai q]:=
 h.of
theorem acd(h:ae (MP a b c A [.b ((A.length:Int)==2) false,.l [] [93,92,91] [] (ap Tryz.f128 0) (dJ A 0) (.exit 1) gJ])):
 al 128 [.agg (bk a b c A)] [ai true]:=
 h.of
def MR(a b c:Int)(A:af)(d e:Int)(l:List O):List O:=FQ a b c A (.b (a==8) false::.b ((A.length:Int)==2) true::.p ((0:Int)<=0)::.p (0<(A.length:Int))::.e A 0 [I d]::.p ((0:Int)<=1)::.p (1<(A.length:Int))::.e A 1 [I e]::l)
theorem ace(h:ae (MR a b c A d e [.b (d==e) true])):
 al 128 [.agg (bk a b c A)] [ai false]:=
 h.of
theorem acf(h:ae (MR a b c A d e [.b (d==e) false,.l [] [93,92,91] [] (ap Tryz.f128 0) (dJ A 0) .ret (gq q)])):
 al 128 [.agg (bk a b c A)] [ai q]:=
 h.of
theorem acg(h:ae (MR a b c A d e [.b (d==e) false,.l [] [93,92,91] [] (ap Tryz.f128 0) (dJ A 0) (.exit 1) gJ])):
 al 128 [.agg (bk a b c A)] [ai true]:=
 h.of
theorem ach(h:ae (FQ a b c A [.b (a==8) false,.b ((A.length:Int)==2) false,.l [] [93,92,91] [] (ap Tryz.f128 0) (dJ A 0) .ret (gq q)])):
 al 128 [.agg (bk a b c A)] [ai q]:=
 h.of
theorem aci(h:ae (FQ a b c A [.b (a==8) false,.b ((A.length:Int)==2) false,.l [] [93,92,91] [] (ap Tryz.f128 0) (dJ A 0) (.exit 1) gJ])):
 al 128 [.agg (bk a b c A)] [ai true]:=
 h.of
def Wi(a:Int)(l:List O):List O:=MO a (.b (a==1) false::l)
def Wj(a:Int)(l:List O):List O:=Wi a (.b (a==5) true::.b (a==5) true::l)
theorem acj(h:ae (Wj a [.b (b != 0) true])):
 al 128 [.agg (bk a b c A)] [ai false]:=
 h.of
def Wk(a b:Int)(l:List O):List O:=Wj a (.b (b != 0) false::l)
theorem ack(h:ae (Wk a b [.b (c != 0) true])):
 al 128 [.agg (bk a b c A)] [ai false]:=
 h.of
def Wl(a b c:Int)(l:List O):List O:=Wk a b (.b (c != 0) false::l)
theorem acm(h:ae (Wl a b c [.b (decide ((A.length:Int)>2)) true])):
 al 128 [.agg (bk a b c A)] [ai false]:=
 h.of
def FR(a b c:Int)(A:af)(l:List O):List O:=Wl a b c (.b (decide ((A.length:Int)>2)) false::l)
def Wm(a b c:Int)(A:af)(l:List O):List O:=FR a b c A (.b (a==8) true::l)
theorem acn(h:ae (Wm a b c A [.b (decide ((A.length:Int)>0)) true])):
 al 128 [.agg (bk a b c A)] [ai false]:=
 h.of
def MS(a b c:Int)(A:af)(l:List O):List O:=Wm a b c A (.b (decide ((A.length:Int)>0)) false::l)
def MT(a b c:Int)(A:af)(d e:Int)(l:List O):List O:=MS a b c A (.b ((A.length:Int)==2) true::.p ((0:Int)<=0)::.p (0<(A.length:Int))::.e A 0 [I d]::.p ((0:Int)<=1)::.p (1<(A.length:Int))::.e A 1 [I e]::l)
theorem aco(h:ae (MT a b c A d e [.b (d==e) true])):
 al 128 [.agg (bk a b c A)] [ai false]:=
 h.of
theorem abx(h:ae (MT a b c A d e [.b (d==e) false,.l [] [93,92,91] [] (ap Tryz.f128 0) (dJ A 0) .ret (gq q)])):
 al 128 [.agg (bk a b c A)] [ai q]:=
 h.of
theorem aby(h:ae (MT a b c A d e [.b (d==e) false,.l [] [93,92,91] [] (ap Tryz.f128 0) (dJ A 0) (.exit 1) gJ])):
 al 128 [.agg (bk a b c A)] [ai true]:=
 h.of
theorem abz(h:ae (MS a b c A [.b ((A.length:Int)==2) false,.l [] [93,92,91] [] (ap Tryz.f128 0) (dJ A 0) .ret (gq q)])):
 al 128 [.agg (bk a b c A)] [ai q]:=
 h.of
theorem abA(h:ae (MS a b c A [.b ((A.length:Int)==2) false,.l [] [93,92,91] [] (ap Tryz.f128 0) (dJ A 0) (.exit 1) gJ])):
 al 128 [.agg (bk a b c A)] [ai true]:=
 h.of
def MU(a b c:Int)(A:af)(d e:Int)(l:List O):List O:=FR a b c A (.b (a==8) false::.b ((A.length:Int)==2) true::.p ((0:Int)<=0)::.p (0<(A.length:Int))::.e A 0 [I d]::.p ((0:Int)<=1)::.p (1<(A.length:Int))::.e A 1 [I e]::l)
theorem abB(h:ae (MU a b c A d e [.b (d==e) true])):
 al 128 [.agg (bk a b c A)] [ai false]:=
 h.of
theorem abC(h:ae (MU a b c A d e [.b (d==e) false,.l [] [93,92,91] [] (ap Tryz.f128 0) (dJ A 0) .ret (gq q)])):
 al 128 [.agg (bk a b c A)] [ai q]:=
 h.of
theorem abD(h:ae (MU a b c A d e [.b (d==e) false,.l [] [93,92,91] [] (ap Tryz.f128 0) (dJ A 0) (.exit 1) gJ])):
 al 128 [.agg (bk a b c A)] [ai true]:=
 h.of
theorem abE(h:ae (FR a b c A [.b (a==8) false,.b ((A.length:Int)==2) false,.l [] [93,92,91] [] (ap Tryz.f128 0) (dJ A 0) .ret (gq q)])):
 al 128 [.agg (bk a b c A)] [ai q]:=
 h.of
theorem abF(h:ae (FR a b c A [.b (a==8) false,.b ((A.length:Int)==2) false,.l [] [93,92,91] [] (ap Tryz.f128 0) (dJ A 0) (.exit 1) gJ])):
 al 128 [.agg (bk a b c A)] [ai true]:=
 h.of
def Wn(a:Int)(l:List O):List O:=Wi a (.b (a==5) false::l)
def Wo(a:Int)(l:List O):List O:=Wn a (.b (a==6) true::.b (a==6) true::l)
theorem abG(h:ae (Wo a [.b (b != 0) true])):
 al 128 [.agg (bk a b c A)] [ai false]:=
 h.of
def WC(a b:Int)(l:List O):List O:=Wo a (.b (b != 0) false::l)
theorem abH(h:ae (WC a b [.b (c != 0) true])):
 al 128 [.agg (bk a b c A)] [ai false]:=
 h.of
def WD(a b c:Int)(l:List O):List O:=WC a b (.b (c != 0) false::l)
theorem abI(h:ae (WD a b c [.b (decide ((A.length:Int)>2)) true])):
 al 128 [.agg (bk a b c A)] [ai false]:=
 h.of
def FT(a b c:Int)(A:af)(l:List O):List O:=WD a b c (.b (decide ((A.length:Int)>2)) false::l)
def WE(a b c:Int)(A:af)(l:List O):List O:=FT a b c A (.b (a==8) true::l)
theorem abJ(h:ae (WE a b c A [.b (decide ((A.length:Int)>0)) true])):
 al 128 [.agg (bk a b c A)] [ai false]:=
 h.of
def M5(a b c:Int)(A:af)(l:List O):List O:=WE a b c A (.b (decide ((A.length:Int)>0)) false::l)
def BP(a b c:Int)(A:af)(d e:Int)(l:List O):List O:=M5 a b c A (.b ((A.length:Int)==2) true::.p ((0:Int)<=0)::.p (0<(A.length:Int))::.e A 0 [I d]::.p ((0:Int)<=1)::.p (1<(A.length:Int))::.e A 1 [I e]::l)
theorem abK(h:ae (BP a b c A d e [.b (d==e) true])):
 al 128 [.agg (bk a b c A)] [ai false]:=
 h.of
theorem abL(h:ae (BP a b c A d e [.b (d==e) false,.l [] [93,92,91] [] (ap Tryz.f128 0) (dJ A 0) .ret (gq q)])):
 al 128 [.agg (bk a b c A)] [ai q]:=
 h.of
theorem abM(h:ae (BP a b c A d e [.b (d==e) false,.l [] [93,92,91] [] (ap Tryz.f128 0) (dJ A 0) (.exit 1) gJ])):
 al 128 [.agg (bk a b c A)] [ai true]:=
 h.of
theorem abN(h:ae (M5 a b c A [.b ((A.length:Int)==2) false,.l [] [93,92,91] [] (ap Tryz.f128 0) (dJ A 0) .ret (gq q)])):
 al 128 [.agg (bk a b c A)] [ai q]:=
 h.of
theorem abO(h:ae (M5 a b c A [.b ((A.length:Int)==2) false,.l [] [93,92,91] [] (ap Tryz.f128 0) (dJ A 0) (.exit 1) gJ])):
 al 128 [.agg (bk a b c A)] [ai true]:=
 h.of
def BQ(a b c:Int)(A:af)(d e:Int)(l:List O):List O:=FT a b c A (.b (a==8) false::.b ((A.length:Int)==2) true::.p ((0:Int)<=0)::.p (0<(A.length:Int))::.e A 0 [I d]::.p ((0:Int)<=1)::.p (1<(A.length:Int))::.e A 1 [I e]::l)
theorem abP(h:ae (BQ a b c A d e [.b (d==e) true])):
 al 128 [.agg (bk a b c A)] [ai false]:=
 h.of
theorem abQ(h:ae (BQ a b c A d e [.b (d==e) false,.l [] [93,92,91] [] (ap Tryz.f128 0) (dJ A 0) .ret (gq q)])):
 al 128 [.agg (bk a b c A)] [ai q]:=
 h.of
theorem abR(h:ae (BQ a b c A d e [.b (d==e) false,.l [] [93,92,91] [] (ap Tryz.f128 0) (dJ A 0) (.exit 1) gJ])):
 al 128 [.agg (bk a b c A)] [ai true]:=
 h.of
theorem abS(h:ae (FT a b c A [.b (a==8) false,.b ((A.length:Int)==2) false,.l [] [93,92,91] [] (ap Tryz.f128 0) (dJ A 0) .ret (gq q)])):
 al 128 [.agg (bk a b c A)] [ai q]:=
 h.of
theorem abT(h:ae (FT a b c A [.b (a==8) false,.b ((A.length:Int)==2) false,.l [] [93,92,91] [] (ap Tryz.f128 0) (dJ A 0) (.exit 1) gJ])):
 al 128 [.agg (bk a b c A)] [ai true]:=
 h.of
def WG(a:Int)(l:List O):List O:=Wn a (.b (a==6) false::l)
def WH(a:Int)(l:List O):List O:=WG a (.b (a==7) true::.b (a==7) true::l)
theorem abU(h:ae (WH a [.b (b != 0) true])):
 al 128 [.agg (bk a b c A)] [ai false]:=
 h.of
def FU(a b:Int)(l:List O):List O:=WH a (.b (b != 0) false::l)
theorem abV(h:ae (FU a b [.b (c != 0) true])):
 al 128 [.agg (bk a b c A)] [ai false]:=
 h.of
def WU(a b c:Int)(l:List O):List O:=FU a b (.b (c != 0) false::l)
theorem abW(h:ae (WU a b c [.b (decide ((A.length:Int)>2)) true])):
 al 128 [.agg (bk a b c A)] [ai false]:=
 h.of
def FZ(a b c:Int)(A:af)(l:List O):List O:=WU a b c (.b (decide ((A.length:Int)>2)) false::l)
def WV(a b c:Int)(A:af)(l:List O):List O:=FZ a b c A (.b (a==8) true::l)
theorem abm(h:ae (WV a b c A [.b (decide ((A.length:Int)>0)) true])):
 al 128 [.agg (bk a b c A)] [ai false]:=
 h.of
def Nc(a b c:Int)(A:af)(l:List O):List O:=WV a b c A (.b (decide ((A.length:Int)>0)) false::l)
def Nd(a b c:Int)(A:af)(d e:Int)(l:List O):List O:=Nc a b c A (.b ((A.length:Int)==2) true::.p ((0:Int)<=0)::.p (0<(A.length:Int))::.e A 0 [I d]::.p ((0:Int)<=1)::.p (1<(A.length:Int))::.e A 1 [I e]::l)
theorem abn(h:ae (Nd a b c A d e [.b (d==e) true])):
 al 128 [.agg (bk a b c A)] [ai false]:=
 h.of
theorem abo(h:ae (Nd a b c A d e [.b (d==e) false,.l [] [93,92,91] [] (ap Tryz.f128 0) (dJ A 0) .ret (gq q)])):
 al 128 [.agg (bk a b c A)] [ai q]:=
 h.of
theorem abp(h:ae (Nd a b c A d e [.b (d==e) false,.l [] [93,92,91] [] (ap Tryz.f128 0) (dJ A 0) (.exit 1) gJ])):
 al 128 [.agg (bk a b c A)] [ai true]:=
 h.of
theorem abq(h:ae (Nc a b c A [.b ((A.length:Int)==2) false,.l [] [93,92,91] [] (ap Tryz.f128 0) (dJ A 0) .ret (gq q)])):
 al 128 [.agg (bk a b c A)] [ai q]:=
 h.of
theorem abr(h:ae (Nc a b c A [.b ((A.length:Int)==2) false,.l [] [93,92,91] [] (ap Tryz.f128 0) (dJ A 0) (.exit 1) gJ])):
 al 128 [.agg (bk a b c A)] [ai true]:=
 h.of
def Nf(a b c:Int)(A:af)(d e:Int)(l:List O):List O:=FZ a b c A (.b (a==8) false::.b ((A.length:Int)==2) true::.p ((0:Int)<=0)::.p (0<(A.length:Int))::.e A 0 [I d]::.p ((0:Int)<=1)::.p (1<(A.length:Int))::.e A 1 [I e]::l)
theorem abt(h:ae (Nf a b c A d e [.b (d==e) true])):
 al 128 [.agg (bk a b c A)] [ai false]:=
 h.of
theorem abu(h:ae (Nf a b c A d e [.b (d==e) false,.l [] [93,92,91] [] (ap Tryz.f128 0) (dJ A 0) .ret (gq q)])):
 al 128 [.agg (bk a b c A)] [ai q]:=
 h.of
theorem abv(h:ae (Nf a b c A d e [.b (d==e) false,.l [] [93,92,91] [] (ap Tryz.f128 0) (dJ A 0) (.exit 1) gJ])):
 al 128 [.agg (bk a b c A)] [ai true]:=
 h.of
theorem abw(h:ae (FZ a b c A [.b (a==8) false,.b ((A.length:Int)==2) false,.l [] [93,92,91] [] (ap Tryz.f128 0) (dJ A 0) .ret (gq q)])):
 al 128 [.agg (bk a b c A)] [ai q]:=
 h.of
theorem ac0(h:ae (FZ a b c A [.b (a==8) false,.b ((A.length:Int)==2) false,.l [] [93,92,91] [] (ap Tryz.f128 0) (dJ A 0) (.exit 1) gJ])):
 al 128 [.agg (bk a b c A)] [ai true]:=
 h.of
def WW(a:Int)(l:List O):List O:=WG a (.b (a==7) false::l)
def WX(a:Int)(l:List O):List O:=WW a (.b (a==8) true::l)
theorem ac1(h:ae (WX a [.b (b != 0) true])):
 al 128 [.agg (bk a b c A)] [ai false]:=
 h.of
def WY(a b:Int)(l:List O):List O:=WX a (.b (b != 0) false::l)
theorem ac2(h:ae (WY a b [.b (c != 0) true])):
 al 128 [.agg (bk a b c A)] [ai false]:=
 h.of
def WZ(a b c:Int)(l:List O):List O:=WY a b (.b (c != 0) false::l)
theorem ac3(h:ae (WZ a b c [.b (decide ((A.length:Int)>2)) true])):
 al 128 [.agg (bk a b c A)] [ai false]:=
 h.of
def W0(a b c:Int)(A:af)(l:List O):List O:=WZ a b c (.b (decide ((A.length:Int)>2)) false::.b (a==8) true::l)
theorem ac4(h:ae (W0 a b c A [.b (decide ((A.length:Int)>0)) true])):
 al 128 [.agg (bk a b c A)] [ai false]:=
 h.of
def Ng(a b c:Int)(A:af)(l:List O):List O:=W0 a b c A (.b (decide ((A.length:Int)>0)) false::l)
def Nh(a b c:Int)(A:af)(d e:Int)(l:List O):List O:=Ng a b c A (.b ((A.length:Int)==2) true::.p ((0:Int)<=0)::.p (0<(A.length:Int))::.e A 0 [I d]::.p ((0:Int)<=1)::.p (1<(A.length:Int))::.e A 1 [I e]::l)
theorem ac5(h:ae (Nh a b c A d e [.b (d==e) true])):
 al 128 [.agg (bk a b c A)] [ai false]:=
 h.of
theorem ac6(h:ae (Nh a b c A d e [.b (d==e) false,.l [] [93,92,91] [] (ap Tryz.f128 0) (dJ A 0) .ret (gq q)])):
 al 128 [.agg (bk a b c A)] [ai q]:=
 h.of
theorem ac7(h:ae (Nh a b c A d e [.b (d==e) false,.l [] [93,92,91] [] (ap Tryz.f128 0) (dJ A 0) (.exit 1) gJ])):
 al 128 [.agg (bk a b c A)] [ai true]:=
 h.of
theorem ac8(h:ae (Ng a b c A [.b ((A.length:Int)==2) false,.l [] [93,92,91] [] (ap Tryz.f128 0) (dJ A 0) .ret (gq q)])):
 al 128 [.agg (bk a b c A)] [ai q]:=
 h.of
theorem ac9(h:ae (Ng a b c A [.b ((A.length:Int)==2) false,.l [] [93,92,91] [] (ap Tryz.f128 0) (dJ A 0) (.exit 1) gJ])):
 al 128 [.agg (bk a b c A)] [ai true]:=
 h.of
theorem ada(h:ae (WW a [.b (a==8) false])):
 al 128 [.agg (bk a b c A)] [ai false]:=
 h.of
