import Derived.Test.YtdchjefneblpgaaGreatGE
set_option linter.unusedVariables false
set_option linter.unusedSimpArgs false
namespace Go.Proofs.YtdchjefneblpgaaGreat
open Go.Sx Go.RowKit
variable {a b c d e f g : Int} {A : ag} {q r s t : Bool}
def ZI(a:Int)(l:List O):List O:=.b (a==2) true::l
def Ii(a b:Int)(q r:Bool)(l:List O):List O:=ZI a (.r 168 [ae b,ae 0,ae 999] [aj q]::.r 168 [ae a,ae 1,ae 8] [aj r]::l)
theorem aj6(h:ad (Ii a b r q [.n q true])):
 aq 243 [.agg (bp a b c A)] [aj false]:=
 h.of
def PH(a b:Int)(q r:Bool)(l:List O):List O:=Ii a b q r (.n r false::l)
theorem aj7(h:ad (PH a b q r [.n q true])):
 aq 243 [.agg (bp a b c A)] [aj false]:=
 h.of
theorem aj8(h:ad (PH a b q r [.n q false,.b (!c==0) true])):
 aq 243 [.agg (bp a b c A)] [aj false]:=
 h.of
def ZP(a b:Int)(q r:Bool)(c:Int)(l:List O):List O:=PH a b q r (.n q false::.b (!c==0) false::l)
theorem aj9(h:ad (ZP a b q r c [.b (decide ((A.length:Int)>2)) true])):
 aq 243 [.agg (bp a b c A)] [aj false]:=
 h.of
def yv(a b:Int)(q r:Bool)(c:Int)(A:ag)(l:List O):List O:=ZP a b q r c (.b (decide ((A.length:Int)>2)) false::l)
theorem aka(h:ad (yv a b q r c A [.b (a==8) true,.b (decide ((A.length:Int)>0)) true])):
 aq 243 [.agg (bp a b c A)] [aj false]:=
 h.of
def iz(a b c:Int)(A:ag)(d:Int):aC:=bb 93 [(1,aR 1),(5,aU d)] [(1,[au a,au b,au c,.J .free 1 A])]
def rL(q:Bool):aC:=bb 93 [(2,.aG (.one (.bg q)))] []
def PV(A:ag)(a b:Int)(q:Bool)(l:List O):List O:=.i A a [I b]::.r 168 [ae b,ae 0,ae 7] [aj q]::l
theorem Nl(h:ad (PV A a b q [.n q true])):
 aV (ap Tryz.f243 0) (iz c d e A a) .ret (rL false):=
 h.aS [2] []
def Z6(A:ag)(a b:Int)(q:Bool)(c d:Int)(l:List O):List O:=PV A a b q (.n q false::.b (decide (a>0)) true::.p ((0:Int)<=0)::.p (0<(A.length:Int))::.e A 0 [I c]::.p ((0:Int)<=1)::.p (1<(A.length:Int))::.e A 1 [I d]::l)
theorem akb(h:ad (Z6 A a c q d b [.b (d==b) true])):
 aV (ap Tryz.f243 0) (iz e f g A a) .ret (rL false):=
 h.aS [2] []
theorem akc(h:ad (Z6 A a f q g d [.b (g==d) false,.u a])):
 aV (ap Tryz.f243 0) (iz b c e A a) .normal (iz b c e A (a+1)):=
 h.aS [5,1] [1]
theorem VI(h:ad (PV A a e q [.n q false,.b (decide (a>0)) false,.u a])):
 aV (ap Tryz.f243 0) (iz b c d A a) .normal (iz b c d A (a+1)):=
 h.aS [5,1] [1]
def sW:aC:=bb 93 [] []
theorem Nn(h:ad [.f A a false]):
 aV (ap Tryz.f243 0) (iz b c d A a) (.exit 1) sW:=
 h.aS [] []
theorem akd(h:ad (yv a b q r c A [.b (a==8) true,.b (decide ((A.length:Int)>0)) false,.l [] [5,1] [1] (ap Tryz.f243 0) (iz a b c A 0) .ret (rL s)])):
 aq 243 [.agg (bp a b c A)] [aj s]:=
 h.of
theorem ake(h:ad (yv a b q r c A [.b (a==8) true,.b (decide ((A.length:Int)>0)) false,.l [] [5,1] [1] (ap Tryz.f243 0) (iz a b c A 0) (.exit 1) sW])):
 aq 243 [.agg (bp a b c A)] [aj true]:=
 h.of
theorem akf(h:ad (yv a b q r c A [.b (a==8) false,.l [] [5,1] [1] (ap Tryz.f243 0) (iz a b c A 0) .ret (rL s)])):
 aq 243 [.agg (bp a b c A)] [aj s]:=
 h.of
theorem akg(h:ad (yv a b q r c A [.b (a==8) false,.l [] [5,1] [1] (ap Tryz.f243 0) (iz a b c A 0) (.exit 1) sW])):
 aq 243 [.agg (bp a b c A)] [aj true]:=
 h.of
def Z7(a:Int)(l:List O):List O:=.b (a==2) false::l
def Z8(a:Int)(l:List O):List O:=Z7 a (.b (a==3) true::l)
def PW(a b:Int)(q:Bool)(c:Int)(r s:Bool)(l:List O):List O:=Z8 a (.r 168 [ae b,ae 1,ae 10] [aj q]::.a .wr::.r 168 [ae c,ae 0,ae (IntKind.i64.wrap (b-1))] [aj r]::.r 168 [ae a,ae 1,ae 8] [aj s]::l)
theorem akh(h:ad (PW a b r c s q [.n q true])):
 aq 243 [.agg (bp a b c A)] [aj false]:=
 h.of
theorem aki(h:ad (PW a b q c s r [.n r false,.n q true])):
 aq 243 [.agg (bp a b c A)] [aj false]:=
 h.of
def PX(a b:Int)(q:Bool)(c:Int)(r s:Bool)(l:List O):List O:=PW a b q c r s (.n s false::.n q false::l)
theorem akj(h:ad (PX a b q c r s [.n r true])):
 aq 243 [.agg (bp a b c A)] [aj false]:=
 h.of
theorem akk(h:ad (PX a b q c r s [.n r false,.b (decide ((A.length:Int)>2)) true])):
 aq 243 [.agg (bp a b c A)] [aj false]:=
 h.of
def D6(a b:Int)(q:Bool)(c:Int)(r s:Bool)(A:ag)(l:List O):List O:=PX a b q c r s (.n r false::.b (decide ((A.length:Int)>2)) false::l)
theorem ajv(h:ad (D6 a b q c r s A [.b (a==8) true,.b (decide ((A.length:Int)>0)) true])):
 aq 243 [.agg (bp a b c A)] [aj false]:=
 h.of
theorem ajw(h:ad (D6 a b q c r s A [.b (a==8) true,.b (decide ((A.length:Int)>0)) false,.l [] [5,1] [1] (ap Tryz.f243 0) (iz a b c A 0) .ret (rL t)])):
 aq 243 [.agg (bp a b c A)] [aj t]:=
 h.of
theorem ajx(h:ad (D6 a b q c r s A [.b (a==8) true,.b (decide ((A.length:Int)>0)) false,.l [] [5,1] [1] (ap Tryz.f243 0) (iz a b c A 0) (.exit 1) sW])):
 aq 243 [.agg (bp a b c A)] [aj true]:=
 h.of
theorem ajy(h:ad (D6 a b q c r s A [.b (a==8) false,.l [] [5,1] [1] (ap Tryz.f243 0) (iz a b c A 0) .ret (rL t)])):
 aq 243 [.agg (bp a b c A)] [aj t]:=
 h.of
theorem ajz(h:ad (D6 a b q c r s A [.b (a==8) false,.l [] [5,1] [1] (ap Tryz.f243 0) (iz a b c A 0) (.exit 1) sW])):
 aq 243 [.agg (bp a b c A)] [aj true]:=
 h.of
def aac(a:Int)(l:List O):List O:=Z7 a (.b (a==3) false::l)
def aad(a:Int)(l:List O):List O:=aac a (.b (a==4) true::l)
def aae(a b:Int)(q r:Bool)(l:List O):List O:=aad a (.r 168 [ae b,ae 0,ae 99] [aj q]::.r 168 [ae a,ae 1,ae 8] [aj r]::l)
theorem ajA(h:ad (aae a b r q [.n q true])):
 aq 243 [.agg (bp a b c A)] [aj false]:=
 h.of
def P1(a b:Int)(q r:Bool)(l:List O):List O:=aae a b q r (.n r false::l)
theorem ajB(h:ad (P1 a b q r [.n q true])):
 aq 243 [.agg (bp a b c A)] [aj false]:=
 h.of
theorem ajC(h:ad (P1 a b q r [.n q false,.b (!c==0) true])):
 aq 243 [.agg (bp a b c A)] [aj false]:=
 h.of
def aaf(a b:Int)(q r:Bool)(c:Int)(l:List O):List O:=P1 a b q r (.n q false::.b (!c==0) false::l)
theorem ajD(h:ad (aaf a b q r c [.b (decide ((A.length:Int)>2)) true])):
 aq 243 [.agg (bp a b c A)] [aj false]:=
 h.of
def D8(a b:Int)(q r:Bool)(c:Int)(A:ag)(l:List O):List O:=aaf a b q r c (.b (decide ((A.length:Int)>2)) false::l)
theorem ajE(h:ad (D8 a b q r c A [.b (a==8) true,.b (decide ((A.length:Int)>0)) true])):
 aq 243 [.agg (bp a b c A)] [aj false]:=
 h.of
theorem ajF(h:ad (D8 a b q r c A [.b (a==8) true,.b (decide ((A.length:Int)>0)) false,.l [] [5,1] [1] (ap Tryz.f243 0) (iz a b c A 0) .ret (rL s)])):
 aq 243 [.agg (bp a b c A)] [aj s]:=
 h.of
theorem ajG(h:ad (D8 a b q r c A [.b (a==8) true,.b (decide ((A.length:Int)>0)) false,.l [] [5,1] [1] (ap Tryz.f243 0) (iz a b c A 0) (.exit 1) sW])):
 aq 243 [.agg (bp a b c A)] [aj true]:=
 h.of
theorem ajH(h:ad (D8 a b q r c A [.b (a==8) false,.l [] [5,1] [1] (ap Tryz.f243 0) (iz a b c A 0) .ret (rL s)])):
 aq 243 [.agg (bp a b c A)] [aj s]:=
 h.of
theorem ajI(h:ad (D8 a b q r c A [.b (a==8) false,.l [] [5,1] [1] (ap Tryz.f243 0) (iz a b c A 0) (.exit 1) sW])):
 aq 243 [.agg (bp a b c A)] [aj true]:=
 h.of
def PM(a:Int)(l:List O):List O:=aac a (.b (a==4) false::l)
def ZS(a:Int)(q:Bool)(l:List O):List O:=PM a (.r 168 [ae a,ae 1,ae 8] [aj q]::l)
theorem ajJ(h:ad (ZS a q [.n q true])):
 aq 243 [.agg (bp a b c A)] [aj false]:=
 h.of
def ZT(a:Int)(q:Bool)(l:List O):List O:=ZS a q (.n q false::l)
theorem ajK(h:ad (ZT a q [.b (!b==0) true])):
 aq 243 [.agg (bp a b c A)] [aj false]:=
 h.of
def ZU(a:Int)(q:Bool)(b:Int)(l:List O):List O:=ZT a q (.b (!b==0) false::l)
theorem ajL(h:ad (ZU a q b [.b (!c==0) true])):
 aq 243 [.agg (bp a b c A)] [aj false]:=
 h.of
def ZV(a:Int)(q:Bool)(b c:Int)(l:List O):List O:=ZU a q b (.b (!c==0) false::l)
theorem ajM(h:ad (ZV a q b c [.b (decide ((A.length:Int)>2)) true])):
 aq 243 [.agg (bp a b c A)] [aj false]:=
 h.of
def D5(a:Int)(q:Bool)(b c:Int)(A:ag)(l:List O):List O:=ZV a q b c (.b (decide ((A.length:Int)>2)) false::l)
theorem ajN(h:ad (D5 a q b c A [.b (a==8) true,.b (decide ((A.length:Int)>0)) true])):
 aq 243 [.agg (bp a b c A)] [aj false]:=
 h.of
theorem ajO(h:ad (D5 a q b c A [.b (a==8) true,.b (decide ((A.length:Int)>0)) false,.l [] [5,1] [1] (ap Tryz.f243 0) (iz a b c A 0) .ret (rL r)])):
 aq 243 [.agg (bp a b c A)] [aj r]:=
 h.of
theorem ajP(h:ad (D5 a q b c A [.b (a==8) true,.b (decide ((A.length:Int)>0)) false,.l [] [5,1] [1] (ap Tryz.f243 0) (iz a b c A 0) (.exit 1) sW])):
 aq 243 [.agg (bp a b c A)] [aj true]:=
 h.of
theorem ajQ(h:ad (D5 a q b c A [.b (a==8) false,.l [] [5,1] [1] (ap Tryz.f243 0) (iz a b c A 0) .ret (rL r)])):
 aq 243 [.agg (bp a b c A)] [aj r]:=
 h.of
theorem ajR(h:ad (D5 a q b c A [.b (a==8) false,.l [] [5,1] [1] (ap Tryz.f243 0) (iz a b c A 0) (.exit 1) sW])):
 aq 243 [.agg (bp a b c A)] [aj true]:=
 h.of
def Ij(a b:Int)(q:Bool)(l:List O):List O:=ZI a (.r 190 [ae b,ae 0,ae 999] [aj q]::l)
theorem ajS(h:ad (Ij a b q [.n q true])):
 aq 273 [.agg (bp a b c A)] [aj false]:=
 h.of
def ZQ(a b:Int)(q:Bool)(l:List O):List O:=Ij a b q (.n q false::l)
theorem ajT(h:ad (ZQ a b q [.b (c != 0) true])):
 aq 273 [.agg (bp a b c A)] [aj false]:=
 h.of
def ZR(a b:Int)(q:Bool)(c:Int)(l:List O):List O:=ZQ a b q (.b (c != 0) false::l)
theorem ajU(h:ad (ZR a b q c [.b (decide ((A.length:Int)>2)) true])):
 aq 273 [.agg (bp a b c A)] [aj false]:=
 h.of
def D4(a b:Int)(q:Bool)(c:Int)(A:ag)(l:List O):List O:=ZR a b q c (.b (decide ((A.length:Int)>2)) false::l)
theorem ajl(h:ad (D4 a b q c A [.b (a==8) true,.b (decide ((A.length:Int)>0)) true])):
 aq 273 [.agg (bp a b c A)] [aj false]:=
 h.of
def PI(a b:Int)(q:Bool)(c:Int)(A:ag)(l:List O):List O:=D4 a b q c A (.b (a==8) true::.b (decide ((A.length:Int)>0)) false::l)
def PJ(a b:Int)(q:Bool)(c:Int)(A:ag)(d e:Int)(l:List O):List O:=PI a b q c A (.b ((A.length:Int)==2) true::.p ((0:Int)<=0)::.p (0<(A.length:Int))::.e A 0 [I d]::.p ((0:Int)<=1)::.p (1<(A.length:Int))::.e A 1 [I e]::l)
theorem ajm(h:ad (PJ a b q c A d e [.b (d==e) true])):
 aq 273 [.agg (bp a b c A)] [aj false]:=
 h.of
def dO(A:ag)(a:Int):aC:=bb 101 [(91,dB 1 A),(92,aU (A.length:Int)),(93,aU a)] []
def gY(q:Bool):aC:=bb 101 [(2,.aG (.one (.bg q)))] []
theorem ajn(h:ad [.i A a [I b],.r 190 [ae b,ae 0,ae 7] [aj q],.n q true]):
 aV (ap Tryz.f273 0) (dO A a) .ret (gY false):=
 h.aS [2] []
theorem ajo(h:ad [.i A a [I b],.r 190 [ae b,ae 0,ae 7] [aj q],.n q false,.u a]):
 aV (ap Tryz.f273 0) (dO A a) .normal (dO A (a+1)):=
 h.aS [93,92,91] []
def hr:aC:=bb 101 [] []
theorem ajp(h:ad [.f A a false]):
 aV (ap Tryz.f273 0) (dO A a) (.exit 1) hr:=
 h.aS [] []
theorem ajq(h:ad (PJ a b q c A d e [.b (d==e) false,.l [] [93,92,91] [] (ap Tryz.f273 0) (dO A 0) .ret (gY r)])):
 aq 273 [.agg (bp a b c A)] [aj r]:=
 h.of
theorem ajr(h:ad (PJ a b q c A d e [.b (d==e) false,.l [] [93,92,91] [] (ap Tryz.f273 0) (dO A 0) (.exit 1) hr])):
 aq 273 [.agg (bp a b c A)] [aj true]:=
 h.of
theorem ajs(h:ad (PI a b q c A [.b ((A.length:Int)==2) false,.l [] [93,92,91] [] (ap Tryz.f273 0) (dO A 0) .ret (gY r)])):
 aq 273 [.agg (bp a b c A)] [aj r]:=
 h.of
theorem ajt(h:ad (PI a b q c A [.b ((A.length:Int)==2) false,.l [] [93,92,91] [] (ap Tryz.f273 0) (dO A 0) (.exit 1) hr])):
 aq 273 [.agg (bp a b c A)] [aj true]:=
 h.of
def PU(a b:Int)(q:Bool)(c:Int)(A:ag)(d e:Int)(l:List O):List O:=D4 a b q c A (.b (a==8) false::.b ((A.length:Int)==2) true::.p ((0:Int)<=0)::.p (0<(A.length:Int))::.e A 0 [I d]::.p ((0:Int)<=1)::.p (1<(A.length:Int))::.e A 1 [I e]::l)
theorem aju(h:ad (PU a b q c A d e [.b (d==e) true])):
 aq 273 [.agg (bp a b c A)] [aj false]:=
 h.of
theorem akV(h:ad (PU a b q c A d e [.b (d==e) false,.l [] [93,92,91] [] (ap Tryz.f273 0) (dO A 0) .ret (gY r)])):
 aq 273 [.agg (bp a b c A)] [aj r]:=
 h.of
theorem akW(h:ad (PU a b q c A d e [.b (d==e) false,.l [] [93,92,91] [] (ap Tryz.f273 0) (dO A 0) (.exit 1) hr])):
 aq 273 [.agg (bp a b c A)] [aj true]:=
 h.of
theorem akX(h:ad (D4 a b q c A [.b (a==8) false,.b ((A.length:Int)==2) false,.l [] [93,92,91] [] (ap Tryz.f273 0) (dO A 0) .ret (gY r)])):
 aq 273 [.agg (bp a b c A)] [aj r]:=
 h.of
theorem akY(h:ad (D4 a b q c A [.b (a==8) false,.b ((A.length:Int)==2) false,.l [] [93,92,91] [] (ap Tryz.f273 0) (dO A 0) (.exit 1) hr])):
 aq 273 [.agg (bp a b c A)] [aj true]:=
 h.of
def Z9(a b:Int)(q:Bool)(l:List O):List O:=Z8 a (.r 190 [ae b,ae 1,ae 10] [aj q]::l)
theorem akZ(h:ad (Z9 a b q [.n q true])):
 aq 273 [.agg (bp a b c A)] [aj false]:=
 h.of
def Z'(a b:Int)(q:Bool)(c:Int)(r:Bool)(l:List O):List O:=Z9 a b q (.n q false::.a .wr::.r 190 [ae c,ae 0,ae (IntKind.i64.wrap (b-1))] [aj r]::l)
theorem ak0(h:ad (Z' a b q c r [.n r true])):
 aq 273 [.agg (bp a b c A)] [aj false]:=
 h.of
def aab(a b:Int)(q:Bool)(c:Int)(r:Bool)(l:List O):List O:=Z' a b q c r (.n r false::l)
theorem ak1(h:ad (aab a b q c r [.b (decide ((A.length:Int)>2)) true])):
 aq 273 [.agg (bp a b c A)] [aj false]:=
 h.of
def D7(a b:Int)(q:Bool)(c:Int)(r:Bool)(A:ag)(l:List O):List O:=aab a b q c r (.b (decide ((A.length:Int)>2)) false::l)
theorem ak2(h:ad (D7 a b q c r A [.b (a==8) true,.b (decide ((A.length:Int)>0)) true])):
 aq 273 [.agg (bp a b c A)] [aj false]:=
 h.of
def PY(a b:Int)(q:Bool)(c:Int)(r:Bool)(A:ag)(l:List O):List O:=D7 a b q c r A (.b (a==8) true::.b (decide ((A.length:Int)>0)) false::l)
def PZ(a b:Int)(q:Bool)(c:Int)(r:Bool)(A:ag)(d e:Int)(l:List O):List O:=PY a b q c r A (.b ((A.length:Int)==2) true::.p ((0:Int)<=0)::.p (0<(A.length:Int))::.e A 0 [I d]::.p ((0:Int)<=1)::.p (1<(A.length:Int))::.e A 1 [I e]::l)
theorem ak3(h:ad (PZ a b q c r A d e [.b (d==e) true])):
 aq 273 [.agg (bp a b c A)] [aj false]:=
 h.of
theorem ak4(h:ad (PZ a b q c r A d e [.b (d==e) false,.l [] [93,92,91] [] (ap Tryz.f273 0) (dO A 0) .ret (gY s)])):
 aq 273 [.agg (bp a b c A)] [aj s]:=
 h.of
theorem ak5(h:ad (PZ a b q c r A d e [.b (d==e) false,.l [] [93,92,91] [] (ap Tryz.f273 0) (dO A 0) (.exit 1) hr])):
 aq 273 [.agg (bp a b c A)] [aj true]:=
 h.of
theorem ak6(h:ad (PY a b q c r A [.b ((A.length:Int)==2) false,.l [] [93,92,91] [] (ap Tryz.f273 0) (dO A 0) .ret (gY s)])):
 aq 273 [.agg (bp a b c A)] [aj s]:=
 h.of
theorem ak7(h:ad (PY a b q c r A [.b ((A.length:Int)==2) false,.l [] [93,92,91] [] (ap Tryz.f273 0) (dO A 0) (.exit 1) hr])):
 aq 273 [.agg (bp a b c A)] [aj true]:=
 h.of
def P0(a b:Int)(q:Bool)(c:Int)(r:Bool)(A:ag)(d e:Int)(l:List O):List O:=D7 a b q c r A (.b (a==8) false::.b ((A.length:Int)==2) true::.p ((0:Int)<=0)::.p (0<(A.length:Int))::.e A 0 [I d]::.p ((0:Int)<=1)::.p (1<(A.length:Int))::.e A 1 [I e]::l)
theorem ak8(h:ad (P0 a b q c r A d e [.b (d==e) true])):
 aq 273 [.agg (bp a b c A)] [aj false]:=
 h.of
theorem ak9(h:ad (P0 a b q c r A d e [.b (d==e) false,.l [] [93,92,91] [] (ap Tryz.f273 0) (dO A 0) .ret (gY s)])):
 aq 273 [.agg (bp a b c A)] [aj s]:=
 h.of
theorem ala(h:ad (P0 a b q c r A d e [.b (d==e) false,.l [] [93,92,91] [] (ap Tryz.f273 0) (dO A 0) (.exit 1) hr])):
 aq 273 [.agg (bp a b c A)] [aj true]:=
 h.of
theorem alb(h:ad (D7 a b q c r A [.b (a==8) false,.b ((A.length:Int)==2) false,.l [] [93,92,91] [] (ap Tryz.f273 0) (dO A 0) .ret (gY s)])):
 aq 273 [.agg (bp a b c A)] [aj s]:=
 h.of
theorem alc(h:ad (D7 a b q c r A [.b (a==8) false,.b ((A.length:Int)==2) false,.l [] [93,92,91] [] (ap Tryz.f273 0) (dO A 0) (.exit 1) hr])):
 aq 273 [.agg (bp a b c A)] [aj true]:=
 h.of
def aag(a b:Int)(q:Bool)(l:List O):List O:=aad a (.r 190 [ae b,ae 0,ae 99] [aj q]::l)
theorem ald(h:ad (aag a b q [.n q true])):
 aq 273 [.agg (bp a b c A)] [aj false]:=
 h.of
def aah(a b:Int)(q:Bool)(l:List O):List O:=aag a b q (.n q false::l)
theorem ale(h:ad (aah a b q [.b (c != 0) true])):
 aq 273 [.agg (bp a b c A)] [aj false]:=
 h.of
def aai(a b:Int)(q:Bool)(c:Int)(l:List O):List O:=aah a b q (.b (c != 0) false::l)
theorem alf(h:ad (aai a b q c [.b (decide ((A.length:Int)>2)) true])):
 aq 273 [.agg (bp a b c A)] [aj false]:=
 h.of
def D9(a b:Int)(q:Bool)(c:Int)(A:ag)(l:List O):List O:=aai a b q c (.b (decide ((A.length:Int)>2)) false::l)
theorem alg(h:ad (D9 a b q c A [.b (a==8) true,.b (decide ((A.length:Int)>0)) true])):
 aq 273 [.agg (bp a b c A)] [aj false]:=
 h.of
def P2(a b:Int)(q:Bool)(c:Int)(A:ag)(l:List O):List O:=D9 a b q c A (.b (a==8) true::.b (decide ((A.length:Int)>0)) false::l)
def PK(a b:Int)(q:Bool)(c:Int)(A:ag)(d e:Int)(l:List O):List O:=P2 a b q c A (.b ((A.length:Int)==2) true::.p ((0:Int)<=0)::.p (0<(A.length:Int))::.e A 0 [I d]::.p ((0:Int)<=1)::.p (1<(A.length:Int))::.e A 1 [I e]::l)
theorem alh(h:ad (PK a b q c A d e [.b (d==e) true])):
 aq 273 [.agg (bp a b c A)] [aj false]:=
 h.of
theorem ali(h:ad (PK a b q c A d e [.b (d==e) false,.l [] [93,92,91] [] (ap Tryz.f273 0) (dO A 0) .ret (gY r)])):
 aq 273 [.agg (bp a b c A)] [aj r]:=
 h.of
theorem alj(h:ad (PK a b q c A d e [.b (d==e) false,.l [] [93,92,91] [] (ap Tryz.f273 0) (dO A 0) (.exit 1) hr])):
 aq 273 [.agg (bp a b c A)] [aj true]:=
 h.of
theorem alk(h:ad (P2 a b q c A [.b ((A.length:Int)==2) false,.l [] [93,92,91] [] (ap Tryz.f273 0) (dO A 0) .ret (gY r)])):
 aq 273 [.agg (bp a b c A)] [aj r]:=
 h.of
theorem akv(h:ad (P2 a b q c A [.b ((A.length:Int)==2) false,.l [] [93,92,91] [] (ap Tryz.f273 0) (dO A 0) (.exit 1) hr])):
 aq 273 [.agg (bp a b c A)] [aj true]:=
 h.of
def PL(a b:Int)(q:Bool)(c:Int)(A:ag)(d e:Int)(l:List O):List O:=D9 a b q c A (.b (a==8) false::.b ((A.length:Int)==2) true::.p ((0:Int)<=0)::.p (0<(A.length:Int))::.e A 0 [I d]::.p ((0:Int)<=1)::.p (1<(A.length:Int))::.e A 1 [I e]::l)
theorem akw(h:ad (PL a b q c A d e [.b (d==e) true])):
 aq 273 [.agg (bp a b c A)] [aj false]:=
 h.of
theorem akx(h:ad (PL a b q c A d e [.b (d==e) false,.l [] [93,92,91] [] (ap Tryz.f273 0) (dO A 0) .ret (gY r)])):
 aq 273 [.agg (bp a b c A)] [aj r]:=
 h.of
theorem aky(h:ad (PL a b q c A d e [.b (d==e) false,.l [] [93,92,91] [] (ap Tryz.f273 0) (dO A 0) (.exit 1) hr])):
 aq 273 [.agg (bp a b c A)] [aj true]:=
 h.of
theorem akz(h:ad (D9 a b q c A [.b (a==8) false,.b ((A.length:Int)==2) false,.l [] [93,92,91] [] (ap Tryz.f273 0) (dO A 0) .ret (gY r)])):
 aq 273 [.agg (bp a b c A)] [aj r]:=
 h.of
theorem akA(h:ad (D9 a b q c A [.b (a==8) false,.b ((A.length:Int)==2) false,.l [] [93,92,91] [] (ap Tryz.f273 0) (dO A 0) (.exit 1) hr])):
 aq 273 [.agg (bp a b c A)] [aj true]:=
 h.of
def ZW(a:Int)(l:List O):List O:=PM a (.b (a==1) true::.b (a==1) true::l)
theorem akB(h:ad (ZW a [.b (b != 0) true])):
 aq 273 [.agg (bp a b c A)] [aj false]:=
 h.of
def ZX(a b:Int)(l:List O):List O:=ZW a (.b (b != 0) false::l)
theorem akC(h:ad (ZX a b [.b (c != 0) true])):
 aq 273 [.agg (bp a b c A)] [aj false]:=
 h.of
def ZY(a b c:Int)(l:List O):List O:=ZX a b (.b (c != 0) false::l)
theorem akD(h:ad (ZY a b c [.b (decide ((A.length:Int)>2)) true])):
 aq 273 [.agg (bp a b c A)] [aj false]:=
 h.of
def Ik(a b c:Int)(A:ag)(l:List O):List O:=ZY a b c (.b (decide ((A.length:Int)>2)) false::l)
def ZZ(a b c:Int)(A:ag)(l:List O):List O:=Ik a b c A (.b (a==8) true::l)
theorem akE(h:ad (ZZ a b c A [.b (decide ((A.length:Int)>0)) true])):
 aq 273 [.agg (bp a b c A)] [aj false]:=
 h.of
def PN(a b c:Int)(A:ag)(l:List O):List O:=ZZ a b c A (.b (decide ((A.length:Int)>0)) false::l)
def PO(a b c:Int)(A:ag)(d e:Int)(l:List O):List O:=PN a b c A (.b ((A.length:Int)==2) true::.p ((0:Int)<=0)::.p (0<(A.length:Int))::.e A 0 [I d]::.p ((0:Int)<=1)::.p (1<(A.length:Int))::.e A 1 [I e]::l)
theorem akF(h:ad (PO a b c A d e [.b (d==e) true])):
 aq 273 [.agg (bp a b c A)] [aj false]:=
 h.of
theorem akG(h:ad (PO a b c A d e [.b (d==e) false,.l [] [93,92,91] [] (ap Tryz.f273 0) (dO A 0) .ret (gY q)])):
 aq 273 [.agg (bp a b c A)] [aj q]:=
 h.of
theorem akH(h:ad (PO a b c A d e [.b (d==e) false,.l [] [93,92,91] [] (ap Tryz.f273 0) (dO A 0) (.exit 1) hr])):
 aq 273 [.agg (bp a b c A)] [aj true]:=
 h.of
theorem akI(h:ad (PN a b c A [.b ((A.length:Int)==2) false,.l [] [93,92,91] [] (ap Tryz.f273 0) (dO A 0) .ret (gY q)])):
 aq 273 [.agg (bp a b c A)] [aj q]:=
 h.of
theorem akJ(h:ad (PN a b c A [.b ((A.length:Int)==2) false,.l [] [93,92,91] [] (ap Tryz.f273 0) (dO A 0) (.exit 1) hr])):
 aq 273 [.agg (bp a b c A)] [aj true]:=
 h.of
def PQ(a b c:Int)(A:ag)(d e:Int)(l:List O):List O:=Ik a b c A (.b (a==8) false::.b ((A.length:Int)==2) true::.p ((0:Int)<=0)::.p (0<(A.length:Int))::.e A 0 [I d]::.p ((0:Int)<=1)::.p (1<(A.length:Int))::.e A 1 [I e]::l)
theorem akK(h:ad (PQ a b c A d e [.b (d==e) true])):
 aq 273 [.agg (bp a b c A)] [aj false]:=
 h.of
theorem akL(h:ad (PQ a b c A d e [.b (d==e) false,.l [] [93,92,91] [] (ap Tryz.f273 0) (dO A 0) .ret (gY q)])):
 aq 273 [.agg (bp a b c A)] [aj q]:=
 h.of
theorem akM(h:ad (PQ a b c A d e [.b (d==e) false,.l [] [93,92,91] [] (ap Tryz.f273 0) (dO A 0) (.exit 1) hr])):
 aq 273 [.agg (bp a b c A)] [aj true]:=
 h.of
theorem akN(h:ad (Ik a b c A [.b (a==8) false,.b ((A.length:Int)==2) false,.l [] [93,92,91] [] (ap Tryz.f273 0) (dO A 0) .ret (gY q)])):
 aq 273 [.agg (bp a b c A)] [aj q]:=
 h.of
theorem akO(h:ad (Ik a b c A [.b (a==8) false,.b ((A.length:Int)==2) false,.l [] [93,92,91] [] (ap Tryz.f273 0) (dO A 0) (.exit 1) hr])):
 aq 273 [.agg (bp a b c A)] [aj true]:=
 h.of
def Z0(a:Int)(l:List O):List O:=PM a (.b (a==1) false::l)
def Z1(a:Int)(l:List O):List O:=Z0 a (.b (a==5) true::.b (a==5) true::l)
theorem akP(h:ad (Z1 a [.b (b != 0) true])):
 aq 273 [.agg (bp a b c A)] [aj false]:=
 h.of
def Z2(a b:Int)(l:List O):List O:=Z1 a (.b (b != 0) false::l)
theorem akQ(h:ad (Z2 a b [.b (c != 0) true])):
 aq 273 [.agg (bp a b c A)] [aj false]:=
 h.of
def Z3(a b c:Int)(l:List O):List O:=Z2 a b (.b (c != 0) false::l)
theorem akR(h:ad (Z3 a b c [.b (decide ((A.length:Int)>2)) true])):
 aq 273 [.agg (bp a b c A)] [aj false]:=
 h.of
def Il(a b c:Int)(A:ag)(l:List O):List O:=Z3 a b c (.b (decide ((A.length:Int)>2)) false::l)
def Z4(a b c:Int)(A:ag)(l:List O):List O:=Il a b c A (.b (a==8) true::l)
theorem akS(h:ad (Z4 a b c A [.b (decide ((A.length:Int)>0)) true])):
 aq 273 [.agg (bp a b c A)] [aj false]:=
 h.of
def PR(a b c:Int)(A:ag)(l:List O):List O:=Z4 a b c A (.b (decide ((A.length:Int)>0)) false::l)
def PS(a b c:Int)(A:ag)(d e:Int)(l:List O):List O:=PR a b c A (.b ((A.length:Int)==2) true::.p ((0:Int)<=0)::.p (0<(A.length:Int))::.e A 0 [I d]::.p ((0:Int)<=1)::.p (1<(A.length:Int))::.e A 1 [I e]::l)
theorem akT(h:ad (PS a b c A d e [.b (d==e) true])):
 aq 273 [.agg (bp a b c A)] [aj false]:=
 h.of
theorem akU(h:ad (PS a b c A d e [.b (d==e) false,.l [] [93,92,91] [] (ap Tryz.f273 0) (dO A 0) .ret (gY q)])):
 aq 273 [.agg (bp a b c A)] [aj q]:=
 h.of
theorem akl(h:ad (PS a b c A d e [.b (d==e) false,.l [] [93,92,91] [] (ap Tryz.f273 0) (dO A 0) (.exit 1) hr])):
 aq 273 [.agg (bp a b c A)] [aj true]:=
 h.of
theorem akm(h:ad (PR a b c A [.b ((A.length:Int)==2) false,.l [] [93,92,91] [] (ap Tryz.f273 0) (dO A 0) .ret (gY q)])):
 aq 273 [.agg (bp a b c A)] [aj q]:=
 h.of
theorem akn(h:ad (PR a b c A [.b ((A.length:Int)==2) false,.l [] [93,92,91] [] (ap Tryz.f273 0) (dO A 0) (.exit 1) hr])):
 aq 273 [.agg (bp a b c A)] [aj true]:=
 h.of
def PT(a b c:Int)(A:ag)(d e:Int)(l:List O):List O:=Il a b c A (.b (a==8) false::.b ((A.length:Int)==2) true::.p ((0:Int)<=0)::.p (0<(A.length:Int))::.e A 0 [I d]::.p ((0:Int)<=1)::.p (1<(A.length:Int))::.e A 1 [I e]::l)
theorem ako(h:ad (PT a b c A d e [.b (d==e) true])):
 aq 273 [.agg (bp a b c A)] [aj false]:=
 h.of
theorem akp(h:ad (PT a b c A d e [.b (d==e) false,.l [] [93,92,91] [] (ap Tryz.f273 0) (dO A 0) .ret (gY q)])):
 aq 273 [.agg (bp a b c A)] [aj q]:=
 h.of
theorem akq(h:ad (PT a b c A d e [.b (d==e) false,.l [] [93,92,91] [] (ap Tryz.f273 0) (dO A 0) (.exit 1) hr])):
 aq 273 [.agg (bp a b c A)] [aj true]:=
 h.of
theorem akr(h:ad (Il a b c A [.b (a==8) false,.b ((A.length:Int)==2) false,.l [] [93,92,91] [] (ap Tryz.f273 0) (dO A 0) .ret (gY q)])):
 aq 273 [.agg (bp a b c A)] [aj q]:=
 h.of
theorem aks(h:ad (Il a b c A [.b (a==8) false,.b ((A.length:Int)==2) false,.l [] [93,92,91] [] (ap Tryz.f273 0) (dO A 0) (.exit 1) hr])):
 aq 273 [.agg (bp a b c A)] [aj true]:=
 h.of
def Z5(a:Int)(l:List O):List O:=Z0 a (.b (a==5) false::l)
def aaj(a:Int)(l:List O):List O:=Z5 a (.b (a==6) true::.b (a==6) true::l)
theorem akt(h:ad (aaj a [.b (b != 0) true])):
 aq 273 [.agg (bp a b c A)] [aj false]:=
 h.of
def aak(a b:Int)(l:List O):List O:=aaj a (.b (b != 0) false::l)
theorem aku(h:ad (aak a b [.b (c != 0) true])):
 aq 273 [.agg (bp a b c A)] [aj false]:=
 h.of
def aal(a b c:Int)(l:List O):List O:=aak a b (.b (c != 0) false::l)
theorem alX(h:ad (aal a b c [.b (decide ((A.length:Int)>2)) true])):
 aq 273 [.agg (bp a b c A)] [aj false]:=
 h.of
def Im(a b c:Int)(A:ag)(l:List O):List O:=aal a b c (.b (decide ((A.length:Int)>2)) false::l)
def aam(a b c:Int)(A:ag)(l:List O):List O:=Im a b c A (.b (a==8) true::l)
theorem alY(h:ad (aam a b c A [.b (decide ((A.length:Int)>0)) true])):
 aq 273 [.agg (bp a b c A)] [aj false]:=
 h.of
def D'(a b c:Int)(A:ag)(l:List O):List O:=aam a b c A (.b (decide ((A.length:Int)>0)) false::l)
def Ea(a b c:Int)(A:ag)(d e:Int)(l:List O):List O:=D' a b c A (.b ((A.length:Int)==2) true::.p ((0:Int)<=0)::.p (0<(A.length:Int))::.e A 0 [I d]::.p ((0:Int)<=1)::.p (1<(A.length:Int))::.e A 1 [I e]::l)
theorem alZ(h:ad (Ea a b c A d e [.b (d==e) true])):
 aq 273 [.agg (bp a b c A)] [aj false]:=
 h.of
theorem al0(h:ad (Ea a b c A d e [.b (d==e) false,.l [] [93,92,91] [] (ap Tryz.f273 0) (dO A 0) .ret (gY q)])):
 aq 273 [.agg (bp a b c A)] [aj q]:=
 h.of
theorem al1(h:ad (Ea a b c A d e [.b (d==e) false,.l [] [93,92,91] [] (ap Tryz.f273 0) (dO A 0) (.exit 1) hr])):
 aq 273 [.agg (bp a b c A)] [aj true]:=
 h.of
theorem al2(h:ad (D' a b c A [.b ((A.length:Int)==2) false,.l [] [93,92,91] [] (ap Tryz.f273 0) (dO A 0) .ret (gY q)])):
 aq 273 [.agg (bp a b c A)] [aj q]:=
 h.of
theorem al3(h:ad (D' a b c A [.b ((A.length:Int)==2) false,.l [] [93,92,91] [] (ap Tryz.f273 0) (dO A 0) (.exit 1) hr])):
 aq 273 [.agg (bp a b c A)] [aj true]:=
 h.of
def P3(a b c:Int)(A:ag)(d e:Int)(l:List O):List O:=Im a b c A (.b (a==8) false::.b ((A.length:Int)==2) true::.p ((0:Int)<=0)::.p (0<(A.length:Int))::.e A 0 [I d]::.p ((0:Int)<=1)::.p (1<(A.length:Int))::.e A 1 [I e]::l)
theorem al4(h:ad (P3 a b c A d e [.b (d==e) true])):
 aq 273 [.agg (bp a b c A)] [aj false]:=
 h.of
theorem al5(h:ad (P3 a b c A d e [.b (d==e) false,.l [] [93,92,91] [] (ap Tryz.f273 0) (dO A 0) .ret (gY q)])):
 aq 273 [.agg (bp a b c A)] [aj q]:=
 h.of
theorem al6(h:ad (P3 a b c A d e [.b (d==e) false,.l [] [93,92,91] [] (ap Tryz.f273 0) (dO A 0) (.exit 1) hr])):
 aq 273 [.agg (bp a b c A)] [aj true]:=
 h.of
theorem al7(h:ad (Im a b c A [.b (a==8) false,.b ((A.length:Int)==2) false,.l [] [93,92,91] [] (ap Tryz.f273 0) (dO A 0) .ret (gY q)])):
 aq 273 [.agg (bp a b c A)] [aj q]:=
 h.of
theorem al8(h:ad (Im a b c A [.b (a==8) false,.b ((A.length:Int)==2) false,.l [] [93,92,91] [] (ap Tryz.f273 0) (dO A 0) (.exit 1) hr])):
 aq 273 [.agg (bp a b c A)] [aj true]:=
 h.of
def aan(a:Int)(l:List O):List O:=Z5 a (.b (a==6) false::l)
def Io(a:Int)(l:List O):List O:=aan a (.b (a==7) true::.b (a==7) true::l)
theorem al9(h:ad (Io a [.b (b != 0) true])):
 aq 273 [.agg (bp a b c A)] [aj false]:=
 h.of
def aay(a b:Int)(l:List O):List O:=Io a (.b (b != 0) false::l)
theorem ama(h:ad (aay a b [.b (c != 0) true])):
 aq 273 [.agg (bp a b c A)] [aj false]:=
 h.of
def aaz(a b c:Int)(l:List O):List O:=aay a b (.b (c != 0) false::l)
theorem amb(h:ad (aaz a b c [.b (decide ((A.length:Int)>2)) true])):
 aq 273 [.agg (bp a b c A)] [aj false]:=
 h.of
def It(a b c:Int)(A:ag)(l:List O):List O:=aaz a b c (.b (decide ((A.length:Int)>2)) false::l)
def aaA(a b c:Int)(A:ag)(l:List O):List O:=It a b c A (.b (a==8) true::l)
theorem amc(h:ad (aaA a b c A [.b (decide ((A.length:Int)>0)) true])):
 aq 273 [.agg (bp a b c A)] [aj false]:=
 h.of
def Qb(a b c:Int)(A:ag)(l:List O):List O:=aaA a b c A (.b (decide ((A.length:Int)>0)) false::l)
def Qc(a b c:Int)(A:ag)(d e:Int)(l:List O):List O:=Qb a b c A (.b ((A.length:Int)==2) true::.p ((0:Int)<=0)::.p (0<(A.length:Int))::.e A 0 [I d]::.p ((0:Int)<=1)::.p (1<(A.length:Int))::.e A 1 [I e]::l)
theorem amd(h:ad (Qc a b c A d e [.b (d==e) true])):
 aq 273 [.agg (bp a b c A)] [aj false]:=
 h.of
theorem ame(h:ad (Qc a b c A d e [.b (d==e) false,.l [] [93,92,91] [] (ap Tryz.f273 0) (dO A 0) .ret (gY q)])):
 aq 273 [.agg (bp a b c A)] [aj q]:=
 h.of
theorem amf(h:ad (Qc a b c A d e [.b (d==e) false,.l [] [93,92,91] [] (ap Tryz.f273 0) (dO A 0) (.exit 1) hr])):
 aq 273 [.agg (bp a b c A)] [aj true]:=
 h.of
theorem amg(h:ad (Qb a b c A [.b ((A.length:Int)==2) false,.l [] [93,92,91] [] (ap Tryz.f273 0) (dO A 0) .ret (gY q)])):
 aq 273 [.agg (bp a b c A)] [aj q]:=
 h.of
theorem amh(h:ad (Qb a b c A [.b ((A.length:Int)==2) false,.l [] [93,92,91] [] (ap Tryz.f273 0) (dO A 0) (.exit 1) hr])):
 aq 273 [.agg (bp a b c A)] [aj true]:=
 h.of
def Qd(a b c:Int)(A:ag)(d e:Int)(l:List O):List O:=It a b c A (.b (a==8) false::.b ((A.length:Int)==2) true::.p ((0:Int)<=0)::.p (0<(A.length:Int))::.e A 0 [I d]::.p ((0:Int)<=1)::.p (1<(A.length:Int))::.e A 1 [I e]::l)
theorem ami(h:ad (Qd a b c A d e [.b (d==e) true])):
 aq 273 [.agg (bp a b c A)] [aj false]:=
 h.of
theorem amj(h:ad (Qd a b c A d e [.b (d==e) false,.l [] [93,92,91] [] (ap Tryz.f273 0) (dO A 0) .ret (gY q)])):
 aq 273 [.agg (bp a b c A)] [aj q]:=
 h.of
theorem amk(h:ad (Qd a b c A d e [.b (d==e) false,.l [] [93,92,91] [] (ap Tryz.f273 0) (dO A 0) (.exit 1) hr])):
 aq 273 [.agg (bp a b c A)] [aj true]:=
 h.of
theorem aml(h:ad (It a b c A [.b (a==8) false,.b ((A.length:Int)==2) false,.l [] [93,92,91] [] (ap Tryz.f273 0) (dO A 0) .ret (gY q)])):
 aq 273 [.agg (bp a b c A)] [aj q]:=
 h.of
theorem amm(h:ad (It a b c A [.b (a==8) false,.b ((A.length:Int)==2) false,.l [] [93,92,91] [] (ap Tryz.f273 0) (dO A 0) (.exit 1) hr])):
 aq 273 [.agg (bp a b c A)] [aj true]:=
 h.of
def aaB(a:Int)(l:List O):List O:=aan a (.b (a==7) false::l)
def aaC(a:Int)(l:List O):List O:=aaB a (.b (a==8) true::l)
theorem alx(h:ad (aaC a [.b (b != 0) true])):
 aq 273 [.agg (bp a b c A)] [aj false]:=
 h.of
def aaD(a b:Int)(l:List O):List O:=aaC a (.b (b != 0) false::l)
theorem aly(h:ad (aaD a b [.b (c != 0) true])):
 aq 273 [.agg (bp a b c A)] [aj false]:=
 h.of
def aaE(a b c:Int)(l:List O):List O:=aaD a b (.b (c != 0) false::l)
theorem alz(h:ad (aaE a b c [.b (decide ((A.length:Int)>2)) true])):
 aq 273 [.agg (bp a b c A)] [aj false]:=
 h.of
def aaF(a b c:Int)(A:ag)(l:List O):List O:=aaE a b c (.b (decide ((A.length:Int)>2)) false::.b (a==8) true::l)
theorem alA(h:ad (aaF a b c A [.b (decide ((A.length:Int)>0)) true])):
 aq 273 [.agg (bp a b c A)] [aj false]:=
 h.of
def Qe(a b c:Int)(A:ag)(l:List O):List O:=aaF a b c A (.b (decide ((A.length:Int)>0)) false::l)
def Qf(a b c:Int)(A:ag)(d e:Int)(l:List O):List O:=Qe a b c A (.b ((A.length:Int)==2) true::.p ((0:Int)<=0)::.p (0<(A.length:Int))::.e A 0 [I d]::.p ((0:Int)<=1)::.p (1<(A.length:Int))::.e A 1 [I e]::l)
theorem alB(h:ad (Qf a b c A d e [.b (d==e) true])):
 aq 273 [.agg (bp a b c A)] [aj false]:=
 h.of
theorem alC(h:ad (Qf a b c A d e [.b (d==e) false,.l [] [93,92,91] [] (ap Tryz.f273 0) (dO A 0) .ret (gY q)])):
 aq 273 [.agg (bp a b c A)] [aj q]:=
 h.of
theorem alD(h:ad (Qf a b c A d e [.b (d==e) false,.l [] [93,92,91] [] (ap Tryz.f273 0) (dO A 0) (.exit 1) hr])):
 aq 273 [.agg (bp a b c A)] [aj true]:=
 h.of
theorem alE(h:ad (Qe a b c A [.b ((A.length:Int)==2) false,.l [] [93,92,91] [] (ap Tryz.f273 0) (dO A 0) .ret (gY q)])):
 aq 273 [.agg (bp a b c A)] [aj q]:=
 h.of
theorem alF(h:ad (Qe a b c A [.b ((A.length:Int)==2) false,.l [] [93,92,91] [] (ap Tryz.f273 0) (dO A 0) (.exit 1) hr])):
 aq 273 [.agg (bp a b c A)] [aj true]:=
 h.of
theorem alG(h:ad (aaB a [.b (a==8) false])):
 aq 273 [.agg (bp a b c A)] [aj false]:=
 h.of
