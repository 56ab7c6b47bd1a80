import Derived.Test.YtdchjefneblpgaaGreatGE
set_option linter.unusedVariables false
set_option linter.unusedSimpArgs false
namespace Go.Proofs.YtdchjefneblpgaaGreat
open Go.Sx Go.RowKit
variable {a b c d e f g : Int} {A : ah} {q r s t : Bool}
def Yu(a:Int)(l:List O):List O:=.b (a==2) true::l
def Yv(a b:Int)(q r:Bool)(l:List O):List O:=Yu a (.r 168 [ao b,ao 0,ao 999] [al q]::.r 168 [ao a,ao 1,ao 8] [al r]::l)
theorem ad0(h:af (Yv a b r q [.n q true])):
 aw 243 [.agg (bn a b c A)] [al false]:=
 h.of
def Om(a b:Int)(q r:Bool)(l:List O):List O:=Yv a b q r (.n r false::l)
theorem ad1(h:af (Om a b q r [.n q true])):
 aw 243 [.agg (bn a b c A)] [al false]:=
 h.of
theorem ad2(h:af (Om a b q r [.n q false,.b (!c==0) true])):
 aw 243 [.agg (bn a b c A)] [al false]:=
 h.of
def Yw(a b:Int)(q r:Bool)(c:Int)(l:List O):List O:=Om a b q r (.n q false::.b (!c==0) false::l)
theorem ad3(h:af (Yw a b q r c [.b (decide ((A.length:Int)>2)) true])):
 aw 243 [.agg (bn a b c A)] [al false]:=
 h.of
def CN(a b:Int)(q r:Bool)(c:Int)(A:ah)(l:List O):List O:=Yw a b q r c (.b (decide ((A.length:Int)>2)) false::l)
theorem ad4(h:af (CN a b q r c A [.b (a==8) true,.b (decide ((A.length:Int)>0)) true])):
 aw 243 [.agg (bn a b c A)] [al false]:=
 h.of
def hY(a b c:Int)(A:ah)(d:Int):aF:=bf 93 [(1,aT 1),(5,a1 d)] [(1,[ay a,ay b,ay c,.J .free 1 A])]
def qy(q:Bool):aF:=bf 93 [(2,.aI (.one (.bc q)))] []
def Ot(A:ah)(a b:Int)(q:Bool)(l:List O):List O:=.i A a [I b]::.r 168 [ao b,ao 0,ao 7] [al q]::l
theorem Lo(h:af (Ot A a b q [.n q true])):
 aY (aq Tryz.f243 0) (hY c d e A a) .ret (qy false):=
 h.aW [2] []
def YA(A:ah)(a b:Int)(q:Bool)(c d:Int)(l:List O):List O:=Ot A a b q (.n q false::.b (decide (a>0)) true::.p ((0:Int)<=0)::.p (0<(A.length:Int))::.e A 0 [I c]::.p ((0:Int)<=1)::.p (1<(A.length:Int))::.e A 1 [I d]::l)
theorem ad5(h:af (YA A a c q d b [.b (d==b) true])):
 aY (aq Tryz.f243 0) (hY e f g A a) .ret (qy false):=
 h.aW [2] []
theorem ad6(h:af (YA A a f q g d [.b (g==d) false,.u a])):
 aY (aq Tryz.f243 0) (hY b c e A a) .normal (hY b c e A (a+1)):=
 h.aW [5,1] [1]
theorem Ua(h:af (Ot A a e q [.n q false,.b (decide (a>0)) false,.u a])):
 aY (aq Tryz.f243 0) (hY b c d A a) .normal (hY b c d A (a+1)):=
 h.aW [5,1] [1]
def rT:aF:=bf 93 [] []
theorem Lp(h:af [.f A a false]):
 aY (aq Tryz.f243 0) (hY b c d A a) (.exit 1) rT:=
 h.aW [] []
theorem ad7(h:af (CN a b q r c A [.b (a==8) true,.b (decide ((A.length:Int)>0)) false,.l [] [5,1] [1] (aq Tryz.f243 0) (hY a b c A 0) .ret (qy s)])):
 aw 243 [.agg (bn a b c A)] [al s]:=
 h.of
theorem ad8(h:af (CN a b q r c A [.b (a==8) true,.b (decide ((A.length:Int)>0)) false,.l [] [5,1] [1] (aq Tryz.f243 0) (hY a b c A 0) (.exit 1) rT])):
 aw 243 [.agg (bn a b c A)] [al true]:=
 h.of
theorem ad9(h:af (CN a b q r c A [.b (a==8) false,.l [] [5,1] [1] (aq Tryz.f243 0) (hY a b c A 0) .ret (qy s)])):
 aw 243 [.agg (bn a b c A)] [al s]:=
 h.of
theorem aea(h:af (CN a b q r c A [.b (a==8) false,.l [] [5,1] [1] (aq Tryz.f243 0) (hY a b c A 0) (.exit 1) rT])):
 aw 243 [.agg (bn a b c A)] [al true]:=
 h.of
def YB(a:Int)(l:List O):List O:=.b (a==2) false::l
def YC(a:Int)(l:List O):List O:=YB a (.b (a==3) true::l)
def Ou(a b:Int)(q:Bool)(c:Int)(r s:Bool)(l:List O):List O:=YC a (.r 168 [ao b,ao 1,ao 10] [al q]::.a .wr::.r 168 [ao c,ao 0,ao (IntKind.i64.wrap (b-1))] [al r]::.r 168 [ao a,ao 1,ao 8] [al s]::l)
theorem aeb(h:af (Ou a b r c s q [.n q true])):
 aw 243 [.agg (bn a b c A)] [al false]:=
 h.of
theorem aec(h:af (Ou a b q c s r [.n r false,.n q true])):
 aw 243 [.agg (bn a b c A)] [al false]:=
 h.of
def Ov(a b:Int)(q:Bool)(c:Int)(r s:Bool)(l:List O):List O:=Ou a b q c r s (.n s false::.n q false::l)
theorem aed(h:af (Ov a b q c r s [.n r true])):
 aw 243 [.agg (bn a b c A)] [al false]:=
 h.of
theorem aee(h:af (Ov a b q c r s [.n r false,.b (decide ((A.length:Int)>2)) true])):
 aw 243 [.agg (bn a b c A)] [al false]:=
 h.of
def CP(a b:Int)(q:Bool)(c:Int)(r s:Bool)(A:ah)(l:List O):List O:=Ov a b q c r s (.n r false::.b (decide ((A.length:Int)>2)) false::l)
theorem aef(h:af (CP a b q c r s A [.b (a==8) true,.b (decide ((A.length:Int)>0)) true])):
 aw 243 [.agg (bn a b c A)] [al false]:=
 h.of
theorem aeg(h:af (CP a b q c r s A [.b (a==8) true,.b (decide ((A.length:Int)>0)) false,.l [] [5,1] [1] (aq Tryz.f243 0) (hY a b c A 0) .ret (qy t)])):
 aw 243 [.agg (bn a b c A)] [al t]:=
 h.of
theorem aeh(h:af (CP a b q c r s A [.b (a==8) true,.b (decide ((A.length:Int)>0)) false,.l [] [5,1] [1] (aq Tryz.f243 0) (hY a b c A 0) (.exit 1) rT])):
 aw 243 [.agg (bn a b c A)] [al true]:=
 h.of
theorem aei(h:af (CP a b q c r s A [.b (a==8) false,.l [] [5,1] [1] (aq Tryz.f243 0) (hY a b c A 0) .ret (qy t)])):
 aw 243 [.agg (bn a b c A)] [al t]:=
 h.of
theorem aej(h:af (CP a b q c r s A [.b (a==8) false,.l [] [5,1] [1] (aq Tryz.f243 0) (hY a b c A 0) (.exit 1) rT])):
 aw 243 [.agg (bn a b c A)] [al true]:=
 h.of
def Yf(a:Int)(l:List O):List O:=YB a (.b (a==3) false::l)
def Yg(a:Int)(l:List O):List O:=Yf a (.b (a==4) true::l)
def Yh(a b:Int)(q r:Bool)(l:List O):List O:=Yg a (.r 168 [ao b,ao 0,ao 99] [al q]::.r 168 [ao a,ao 1,ao 8] [al r]::l)
theorem aek(h:af (Yh a b r q [.n q true])):
 aw 243 [.agg (bn a b c A)] [al false]:=
 h.of
def Of(a b:Int)(q r:Bool)(l:List O):List O:=Yh a b q r (.n r false::l)
theorem ael(h:af (Of a b q r [.n q true])):
 aw 243 [.agg (bn a b c A)] [al false]:=
 h.of
theorem aem(h:af (Of a b q r [.n q false,.b (!c==0) true])):
 aw 243 [.agg (bn a b c A)] [al false]:=
 h.of
def Yi(a b:Int)(q r:Bool)(c:Int)(l:List O):List O:=Of a b q r (.n q false::.b (!c==0) false::l)
theorem aen(h:af (Yi a b q r c [.b (decide ((A.length:Int)>2)) true])):
 aw 243 [.agg (bn a b c A)] [al false]:=
 h.of
def CJ(a b:Int)(q r:Bool)(c:Int)(A:ah)(l:List O):List O:=Yi a b q r c (.b (decide ((A.length:Int)>2)) false::l)
theorem aeo(h:af (CJ a b q r c A [.b (a==8) true,.b (decide ((A.length:Int)>0)) true])):
 aw 243 [.agg (bn a b c A)] [al false]:=
 h.of
theorem aep(h:af (CJ a b q r c A [.b (a==8) true,.b (decide ((A.length:Int)>0)) false,.l [] [5,1] [1] (aq Tryz.f243 0) (hY a b c A 0) .ret (qy s)])):
 aw 243 [.agg (bn a b c A)] [al s]:=
 h.of
theorem adQ(h:af (CJ a b q r c A [.b (a==8) true,.b (decide ((A.length:Int)>0)) false,.l [] [5,1] [1] (aq Tryz.f243 0) (hY a b c A 0) (.exit 1) rT])):
 aw 243 [.agg (bn a b c A)] [al true]:=
 h.of
theorem adR(h:af (CJ a b q r c A [.b (a==8) false,.l [] [5,1] [1] (aq Tryz.f243 0) (hY a b c A 0) .ret (qy s)])):
 aw 243 [.agg (bn a b c A)] [al s]:=
 h.of
theorem adS(h:af (CJ a b q r c A [.b (a==8) false,.l [] [5,1] [1] (aq Tryz.f243 0) (hY a b c A 0) (.exit 1) rT])):
 aw 243 [.agg (bn a b c A)] [al true]:=
 h.of
def Oj(a:Int)(l:List O):List O:=Yf a (.b (a==4) false::l)
def Ym(a:Int)(q:Bool)(l:List O):List O:=Oj a (.r 168 [ao a,ao 1,ao 8] [al q]::l)
theorem adT(h:af (Ym a q [.n q true])):
 aw 243 [.agg (bn a b c A)] [al false]:=
 h.of
def Yn(a:Int)(q:Bool)(l:List O):List O:=Ym a q (.n q false::l)
theorem adU(h:af (Yn a q [.b (!b==0) true])):
 aw 243 [.agg (bn a b c A)] [al false]:=
 h.of
def Yo(a:Int)(q:Bool)(b:Int)(l:List O):List O:=Yn a q (.b (!b==0) false::l)
theorem adV(h:af (Yo a q b [.b (!c==0) true])):
 aw 243 [.agg (bn a b c A)] [al false]:=
 h.of
def Yp(a:Int)(q:Bool)(b c:Int)(l:List O):List O:=Yo a q b (.b (!c==0) false::l)
theorem adW(h:af (Yp a q b c [.b (decide ((A.length:Int)>2)) true])):
 aw 243 [.agg (bn a b c A)] [al false]:=
 h.of
def CL(a:Int)(q:Bool)(b c:Int)(A:ah)(l:List O):List O:=Yp a q b c (.b (decide ((A.length:Int)>2)) false::l)
theorem adX(h:af (CL a q b c A [.b (a==8) true,.b (decide ((A.length:Int)>0)) true])):
 aw 243 [.agg (bn a b c A)] [al false]:=
 h.of
theorem adY(h:af (CL a q b c A [.b (a==8) true,.b (decide ((A.length:Int)>0)) false,.l [] [5,1] [1] (aq Tryz.f243 0) (hY a b c A 0) .ret (qy r)])):
 aw 243 [.agg (bn a b c A)] [al r]:=
 h.of
theorem adZ(h:af (CL a q b c A [.b (a==8) true,.b (decide ((A.length:Int)>0)) false,.l [] [5,1] [1] (aq Tryz.f243 0) (hY a b c A 0) (.exit 1) rT])):
 aw 243 [.agg (bn a b c A)] [al true]:=
 h.of
theorem afq(h:af (CL a q b c A [.b (a==8) false,.l [] [5,1] [1] (aq Tryz.f243 0) (hY a b c A 0) .ret (qy r)])):
 aw 243 [.agg (bn a b c A)] [al r]:=
 h.of
theorem afr(h:af (CL a q b c A [.b (a==8) false,.l [] [5,1] [1] (aq Tryz.f243 0) (hY a b c A 0) (.exit 1) rT])):
 aw 243 [.agg (bn a b c A)] [al true]:=
 h.of
def Yx(a b:Int)(q:Bool)(l:List O):List O:=Yu a (.r 190 [ao b,ao 0,ao 999] [al q]::l)
theorem afs(h:af (Yx a b q [.n q true])):
 aw 273 [.agg (bn a b c A)] [al false]:=
 h.of
def Yy(a b:Int)(q:Bool)(l:List O):List O:=Yx a b q (.n q false::l)
theorem aft(h:af (Yy a b q [.b (c != 0) true])):
 aw 273 [.agg (bn a b c A)] [al false]:=
 h.of
def Yz(a b:Int)(q:Bool)(c:Int)(l:List O):List O:=Yy a b q (.b (c != 0) false::l)
theorem afu(h:af (Yz a b q c [.b (decide ((A.length:Int)>2)) true])):
 aw 273 [.agg (bn a b c A)] [al false]:=
 h.of
def CO(a b:Int)(q:Bool)(c:Int)(A:ah)(l:List O):List O:=Yz a b q c (.b (decide ((A.length:Int)>2)) false::l)
theorem afv(h:af (CO a b q c A [.b (a==8) true,.b (decide ((A.length:Int)>0)) true])):
 aw 273 [.agg (bn a b c A)] [al false]:=
 h.of
def On(a b:Int)(q:Bool)(c:Int)(A:ah)(l:List O):List O:=CO a b q c A (.b (a==8) true::.b (decide ((A.length:Int)>0)) false::l)
def Oo(a b:Int)(q:Bool)(c:Int)(A:ah)(d e:Int)(l:List O):List O:=On a b q c A (.b ((A.length:Int)==2) true::.p ((0:Int)<=0)::.p (0<(A.length:Int))::.e A 0 [I d]::.p ((0:Int)<=1)::.p (1<(A.length:Int))::.e A 1 [I e]::l)
theorem afw(h:af (Oo a b q c A d e [.b (d==e) true])):
 aw 273 [.agg (bn a b c A)] [al false]:=
 h.of
def dJ(A:ah)(a:Int):aF:=bf 101 [(91,cX 1 A),(92,a1 (A.length:Int)),(93,a1 a)] []
def gI(q:Bool):aF:=bf 101 [(2,.aI (.one (.bc q)))] []
theorem afx(h:af [.i A a [I b],.r 190 [ao b,ao 0,ao 7] [al q],.n q true]):
 aY (aq Tryz.f273 0) (dJ A a) .ret (gI false):=
 h.aW [2] []
theorem afy(h:af [.i A a [I b],.r 190 [ao b,ao 0,ao 7] [al q],.n q false,.u a]):
 aY (aq Tryz.f273 0) (dJ A a) .normal (dJ A (a+1)):=
 h.aW [93,92,91] []
def gT:aF:=bf 101 [] []
theorem afz(h:af [.f A a false]):
 aY (aq Tryz.f273 0) (dJ A a) (.exit 1) gT:=
 h.aW [] []
theorem afA(h:af (Oo a b q c A d e [.b (d==e) false,.l [] [93,92,91] [] (aq Tryz.f273 0) (dJ A 0) .ret (gI r)])):
 aw 273 [.agg (bn a b c A)] [al r]:=
 h.of
theorem afB(h:af (Oo a b q c A d e [.b (d==e) false,.l [] [93,92,91] [] (aq Tryz.f273 0) (dJ A 0) (.exit 1) gT])):
 aw 273 [.agg (bn a b c A)] [al true]:=
 h.of
theorem afC(h:af (On a b q c A [.b ((A.length:Int)==2) false,.l [] [93,92,91] [] (aq Tryz.f273 0) (dJ A 0) .ret (gI r)])):
 aw 273 [.agg (bn a b c A)] [al r]:=
 h.of
theorem afD(h:af (On a b q c A [.b ((A.length:Int)==2) false,.l [] [93,92,91] [] (aq Tryz.f273 0) (dJ A 0) (.exit 1) gT])):
 aw 273 [.agg (bn a b c A)] [al true]:=
 h.of
def Oq(a b:Int)(q:Bool)(c:Int)(A:ah)(d e:Int)(l:List O):List O:=CO a b q c A (.b (a==8) false::.b ((A.length:Int)==2) true::.p ((0:Int)<=0)::.p (0<(A.length:Int))::.e A 0 [I d]::.p ((0:Int)<=1)::.p (1<(A.length:Int))::.e A 1 [I e]::l)
theorem afE(h:af (Oq a b q c A d e [.b (d==e) true])):
 aw 273 [.agg (bn a b c A)] [al false]:=
 h.of
theorem afF(h:af (Oq a b q c A d e [.b (d==e) false,.l [] [93,92,91] [] (aq Tryz.f273 0) (dJ A 0) .ret (gI r)])):
 aw 273 [.agg (bn a b c A)] [al r]:=
 h.of
theorem afG(h:af (Oq a b q c A d e [.b (d==e) false,.l [] [93,92,91] [] (aq Tryz.f273 0) (dJ A 0) (.exit 1) gT])):
 aw 273 [.agg (bn a b c A)] [al true]:=
 h.of
theorem afH(h:af (CO a b q c A [.b (a==8) false,.b ((A.length:Int)==2) false,.l [] [93,92,91] [] (aq Tryz.f273 0) (dJ A 0) .ret (gI r)])):
 aw 273 [.agg (bn a b c A)] [al r]:=
 h.of
theorem afI(h:af (CO a b q c A [.b (a==8) false,.b ((A.length:Int)==2) false,.l [] [93,92,91] [] (aq Tryz.f273 0) (dJ A 0) (.exit 1) gT])):
 aw 273 [.agg (bn a b c A)] [al true]:=
 h.of
def YD(a b:Int)(q:Bool)(l:List O):List O:=YC a (.r 190 [ao b,ao 1,ao 10] [al q]::l)
theorem afJ(h:af (YD a b q [.n q true])):
 aw 273 [.agg (bn a b c A)] [al false]:=
 h.of
def YE(a b:Int)(q:Bool)(c:Int)(r:Bool)(l:List O):List O:=YD a b q (.n q false::.a .wr::.r 190 [ao c,ao 0,ao (IntKind.i64.wrap (b-1))] [al r]::l)
theorem afK(h:af (YE a b q c r [.n r true])):
 aw 273 [.agg (bn a b c A)] [al false]:=
 h.of
def Ye(a b:Int)(q:Bool)(c:Int)(r:Bool)(l:List O):List O:=YE a b q c r (.n r false::l)
theorem afL(h:af (Ye a b q c r [.b (decide ((A.length:Int)>2)) true])):
 aw 273 [.agg (bn a b c A)] [al false]:=
 h.of
def CI(a b:Int)(q:Bool)(c:Int)(r:Bool)(A:ah)(l:List O):List O:=Ye a b q c r (.b (decide ((A.length:Int)>2)) false::l)
theorem afM(h:af (CI a b q c r A [.b (a==8) true,.b (decide ((A.length:Int)>0)) true])):
 aw 273 [.agg (bn a b c A)] [al false]:=
 h.of
def Oc(a b:Int)(q:Bool)(c:Int)(r:Bool)(A:ah)(l:List O):List O:=CI a b q c r A (.b (a==8) true::.b (decide ((A.length:Int)>0)) false::l)
def Od(a b:Int)(q:Bool)(c:Int)(r:Bool)(A:ah)(d e:Int)(l:List O):List O:=Oc a b q c r A (.b ((A.length:Int)==2) true::.p ((0:Int)<=0)::.p (0<(A.length:Int))::.e A 0 [I d]::.p ((0:Int)<=1)::.p (1<(A.length:Int))::.e A 1 [I e]::l)
theorem afN(h:af (Od a b q c r A d e [.b (d==e) true])):
 aw 273 [.agg (bn a b c A)] [al false]:=
 h.of
theorem afO(h:af (Od a b q c r A d e [.b (d==e) false,.l [] [93,92,91] [] (aq Tryz.f273 0) (dJ A 0) .ret (gI s)])):
 aw 273 [.agg (bn a b c A)] [al s]:=
 h.of
theorem afP(h:af (Od a b q c r A d e [.b (d==e) false,.l [] [93,92,91] [] (aq Tryz.f273 0) (dJ A 0) (.exit 1) gT])):
 aw 273 [.agg (bn a b c A)] [al true]:=
 h.of
theorem ae0(h:af (Oc a b q c r A [.b ((A.length:Int)==2) false,.l [] [93,92,91] [] (aq Tryz.f273 0) (dJ A 0) .ret (gI s)])):
 aw 273 [.agg (bn a b c A)] [al s]:=
 h.of
theorem ae1(h:af (Oc a b q c r A [.b ((A.length:Int)==2) false,.l [] [93,92,91] [] (aq Tryz.f273 0) (dJ A 0) (.exit 1) gT])):
 aw 273 [.agg (bn a b c A)] [al true]:=
 h.of
def Oe(a b:Int)(q:Bool)(c:Int)(r:Bool)(A:ah)(d e:Int)(l:List O):List O:=CI a b q c r A (.b (a==8) false::.b ((A.length:Int)==2) true::.p ((0:Int)<=0)::.p (0<(A.length:Int))::.e A 0 [I d]::.p ((0:Int)<=1)::.p (1<(A.length:Int))::.e A 1 [I e]::l)
theorem ae2(h:af (Oe a b q c r A d e [.b (d==e) true])):
 aw 273 [.agg (bn a b c A)] [al false]:=
 h.of
theorem ae3(h:af (Oe a b q c r A d e [.b (d==e) false,.l [] [93,92,91] [] (aq Tryz.f273 0) (dJ A 0) .ret (gI s)])):
 aw 273 [.agg (bn a b c A)] [al s]:=
 h.of
theorem ae4(h:af (Oe a b q c r A d e [.b (d==e) false,.l [] [93,92,91] [] (aq Tryz.f273 0) (dJ A 0) (.exit 1) gT])):
 aw 273 [.agg (bn a b c A)] [al true]:=
 h.of
theorem ae5(h:af (CI a b q c r A [.b (a==8) false,.b ((A.length:Int)==2) false,.l [] [93,92,91] [] (aq Tryz.f273 0) (dJ A 0) .ret (gI s)])):
 aw 273 [.agg (bn a b c A)] [al s]:=
 h.of
theorem ae6(h:af (CI a b q c r A [.b (a==8) false,.b ((A.length:Int)==2) false,.l [] [93,92,91] [] (aq Tryz.f273 0) (dJ A 0) (.exit 1) gT])):
 aw 273 [.agg (bn a b c A)] [al true]:=
 h.of
def Yj(a b:Int)(q:Bool)(l:List O):List O:=Yg a (.r 190 [ao b,ao 0,ao 99] [al q]::l)
theorem ae7(h:af (Yj a b q [.n q true])):
 aw 273 [.agg (bn a b c A)] [al false]:=
 h.of
def Yk(a b:Int)(q:Bool)(l:List O):List O:=Yj a b q (.n q false::l)
theorem ae8(h:af (Yk a b q [.b (c != 0) true])):
 aw 273 [.agg (bn a b c A)] [al false]:=
 h.of
def Yl(a b:Int)(q:Bool)(c:Int)(l:List O):List O:=Yk a b q (.b (c != 0) false::l)
theorem ae9(h:af (Yl a b q c [.b (decide ((A.length:Int)>2)) true])):
 aw 273 [.agg (bn a b c A)] [al false]:=
 h.of
def CK(a b:Int)(q:Bool)(c:Int)(A:ah)(l:List O):List O:=Yl a b q c (.b (decide ((A.length:Int)>2)) false::l)
theorem afa(h:af (CK a b q c A [.b (a==8) true,.b (decide ((A.length:Int)>0)) true])):
 aw 273 [.agg (bn a b c A)] [al false]:=
 h.of
def Og(a b:Int)(q:Bool)(c:Int)(A:ah)(l:List O):List O:=CK a b q c A (.b (a==8) true::.b (decide ((A.length:Int)>0)) false::l)
def Oh(a b:Int)(q:Bool)(c:Int)(A:ah)(d e:Int)(l:List O):List O:=Og a b q c A (.b ((A.length:Int)==2) true::.p ((0:Int)<=0)::.p (0<(A.length:Int))::.e A 0 [I d]::.p ((0:Int)<=1)::.p (1<(A.length:Int))::.e A 1 [I e]::l)
theorem afb(h:af (Oh a b q c A d e [.b (d==e) true])):
 aw 273 [.agg (bn a b c A)] [al false]:=
 h.of
theorem afc(h:af (Oh a b q c A d e [.b (d==e) false,.l [] [93,92,91] [] (aq Tryz.f273 0) (dJ A 0) .ret (gI r)])):
 aw 273 [.agg (bn a b c A)] [al r]:=
 h.of
theorem afd(h:af (Oh a b q c A d e [.b (d==e) false,.l [] [93,92,91] [] (aq Tryz.f273 0) (dJ A 0) (.exit 1) gT])):
 aw 273 [.agg (bn a b c A)] [al true]:=
 h.of
theorem afe(h:af (Og a b q c A [.b ((A.length:Int)==2) false,.l [] [93,92,91] [] (aq Tryz.f273 0) (dJ A 0) .ret (gI r)])):
 aw 273 [.agg (bn a b c A)] [al r]:=
 h.of
theorem aff(h:af (Og a b q c A [.b ((A.length:Int)==2) false,.l [] [93,92,91] [] (aq Tryz.f273 0) (dJ A 0) (.exit 1) gT])):
 aw 273 [.agg (bn a b c A)] [al true]:=
 h.of
def Oi(a b:Int)(q:Bool)(c:Int)(A:ah)(d e:Int)(l:List O):List O:=CK a b q c A (.b (a==8) false::.b ((A.length:Int)==2) true::.p ((0:Int)<=0)::.p (0<(A.length:Int))::.e A 0 [I d]::.p ((0:Int)<=1)::.p (1<(A.length:Int))::.e A 1 [I e]::l)
theorem afg(h:af (Oi a b q c A d e [.b (d==e) true])):
 aw 273 [.agg (bn a b c A)] [al false]:=
 h.of
theorem afh(h:af (Oi a b q c A d e [.b (d==e) false,.l [] [93,92,91] [] (aq Tryz.f273 0) (dJ A 0) .ret (gI r)])):
 aw 273 [.agg (bn a b c A)] [al r]:=
 h.of
theorem afi(h:af (Oi a b q c A d e [.b (d==e) false,.l [] [93,92,91] [] (aq Tryz.f273 0) (dJ A 0) (.exit 1) gT])):
 aw 273 [.agg (bn a b c A)] [al true]:=
 h.of
theorem afj(h:af (CK a b q c A [.b (a==8) false,.b ((A.length:Int)==2) false,.l [] [93,92,91] [] (aq Tryz.f273 0) (dJ A 0) .ret (gI r)])):
 aw 273 [.agg (bn a b c A)] [al r]:=
 h.of
theorem afk(h:af (CK a b q c A [.b (a==8) false,.b ((A.length:Int)==2) false,.l [] [93,92,91] [] (aq Tryz.f273 0) (dJ A 0) (.exit 1) gT])):
 aw 273 [.agg (bn a b c A)] [al true]:=
 h.of
def Yq(a:Int)(l:List O):List O:=Oj a (.b (a==1) true::.b (a==1) true::l)
theorem afl(h:af (Yq a [.b (b != 0) true])):
 aw 273 [.agg (bn a b c A)] [al false]:=
 h.of
def Yr(a b:Int)(l:List O):List O:=Yq a (.b (b != 0) false::l)
theorem afm(h:af (Yr a b [.b (c != 0) true])):
 aw 273 [.agg (bn a b c A)] [al false]:=
 h.of
def YF(a b c:Int)(l:List O):List O:=Yr a b (.b (c != 0) false::l)
theorem afn(h:af (YF a b c [.b (decide ((A.length:Int)>2)) true])):
 aw 273 [.agg (bn a b c A)] [al false]:=
 h.of
def GD(a b c:Int)(A:ah)(l:List O):List O:=YF a b c (.b (decide ((A.length:Int)>2)) false::l)
def YG(a b c:Int)(A:ah)(l:List O):List O:=GD a b c A (.b (a==8) true::l)
theorem afo(h:af (YG a b c A [.b (decide ((A.length:Int)>0)) true])):
 aw 273 [.agg (bn a b c A)] [al false]:=
 h.of
def Ow(a b c:Int)(A:ah)(l:List O):List O:=YG a b c A (.b (decide ((A.length:Int)>0)) false::l)
def Ox(a b c:Int)(A:ah)(d e:Int)(l:List O):List O:=Ow a b c A (.b ((A.length:Int)==2) true::.p ((0:Int)<=0)::.p (0<(A.length:Int))::.e A 0 [I d]::.p ((0:Int)<=1)::.p (1<(A.length:Int))::.e A 1 [I e]::l)
theorem afp(h:af (Ox a b c A d e [.b (d==e) true])):
 aw 273 [.agg (bn a b c A)] [al false]:=
 h.of
theorem aeQ(h:af (Ox a b c A d e [.b (d==e) false,.l [] [93,92,91] [] (aq Tryz.f273 0) (dJ A 0) .ret (gI q)])):
 aw 273 [.agg (bn a b c A)] [al q]:=
 h.of
theorem aeR(h:af (Ox a b c A d e [.b (d==e) false,.l [] [93,92,91] [] (aq Tryz.f273 0) (dJ A 0) (.exit 1) gT])):
 aw 273 [.agg (bn a b c A)] [al true]:=
 h.of
theorem aeS(h:af (Ow a b c A [.b ((A.length:Int)==2) false,.l [] [93,92,91] [] (aq Tryz.f273 0) (dJ A 0) .ret (gI q)])):
 aw 273 [.agg (bn a b c A)] [al q]:=
 h.of
theorem aeT(h:af (Ow a b c A [.b ((A.length:Int)==2) false,.l [] [93,92,91] [] (aq Tryz.f273 0) (dJ A 0) (.exit 1) gT])):
 aw 273 [.agg (bn a b c A)] [al true]:=
 h.of
def CQ(a b c:Int)(A:ah)(d e:Int)(l:List O):List O:=GD a b c A (.b (a==8) false::.b ((A.length:Int)==2) true::.p ((0:Int)<=0)::.p (0<(A.length:Int))::.e A 0 [I d]::.p ((0:Int)<=1)::.p (1<(A.length:Int))::.e A 1 [I e]::l)
theorem aeU(h:af (CQ a b c A d e [.b (d==e) true])):
 aw 273 [.agg (bn a b c A)] [al false]:=
 h.of
theorem aeV(h:af (CQ a b c A d e [.b (d==e) false,.l [] [93,92,91] [] (aq Tryz.f273 0) (dJ A 0) .ret (gI q)])):
 aw 273 [.agg (bn a b c A)] [al q]:=
 h.of
theorem aeW(h:af (CQ a b c A d e [.b (d==e) false,.l [] [93,92,91] [] (aq Tryz.f273 0) (dJ A 0) (.exit 1) gT])):
 aw 273 [.agg (bn a b c A)] [al true]:=
 h.of
theorem aeX(h:af (GD a b c A [.b (a==8) false,.b ((A.length:Int)==2) false,.l [] [93,92,91] [] (aq Tryz.f273 0) (dJ A 0) .ret (gI q)])):
 aw 273 [.agg (bn a b c A)] [al q]:=
 h.of
theorem aeY(h:af (GD a b c A [.b (a==8) false,.b ((A.length:Int)==2) false,.l [] [93,92,91] [] (aq Tryz.f273 0) (dJ A 0) (.exit 1) gT])):
 aw 273 [.agg (bn a b c A)] [al true]:=
 h.of
def GF(a:Int)(l:List O):List O:=Oj a (.b (a==1) false::l)
def YH(a:Int)(l:List O):List O:=GF a (.b (a==5) true::.b (a==5) true::l)
theorem aeZ(h:af (YH a [.b (b != 0) true])):
 aw 273 [.agg (bn a b c A)] [al false]:=
 h.of
def YI(a b:Int)(l:List O):List O:=YH a (.b (b != 0) false::l)
theorem agr(h:af (YI a b [.b (c != 0) true])):
 aw 273 [.agg (bn a b c A)] [al false]:=
 h.of
def GG(a b c:Int)(l:List O):List O:=YI a b (.b (c != 0) false::l)
theorem ags(h:af (GG a b c [.b (decide ((A.length:Int)>2)) true])):
 aw 273 [.agg (bn a b c A)] [al false]:=
 h.of
def GQ(a b c:Int)(A:ah)(l:List O):List O:=GG a b c (.b (decide ((A.length:Int)>2)) false::l)
def YS(a b c:Int)(A:ah)(l:List O):List O:=GQ a b c A (.b (a==8) true::l)
theorem agt(h:af (YS a b c A [.b (decide ((A.length:Int)>0)) true])):
 aw 273 [.agg (bn a b c A)] [al false]:=
 h.of
def OC(a b c:Int)(A:ah)(l:List O):List O:=YS a b c A (.b (decide ((A.length:Int)>0)) false::l)
def OD(a b c:Int)(A:ah)(d e:Int)(l:List O):List O:=OC a b c A (.b ((A.length:Int)==2) true::.p ((0:Int)<=0)::.p (0<(A.length:Int))::.e A 0 [I d]::.p ((0:Int)<=1)::.p (1<(A.length:Int))::.e A 1 [I e]::l)
theorem agu(h:af (OD a b c A d e [.b (d==e) true])):
 aw 273 [.agg (bn a b c A)] [al false]:=
 h.of
theorem agv(h:af (OD a b c A d e [.b (d==e) false,.l [] [93,92,91] [] (aq Tryz.f273 0) (dJ A 0) .ret (gI q)])):
 aw 273 [.agg (bn a b c A)] [al q]:=
 h.of
theorem agw(h:af (OD a b c A d e [.b (d==e) false,.l [] [93,92,91] [] (aq Tryz.f273 0) (dJ A 0) (.exit 1) gT])):
 aw 273 [.agg (bn a b c A)] [al true]:=
 h.of
theorem agx(h:af (OC a b c A [.b ((A.length:Int)==2) false,.l [] [93,92,91] [] (aq Tryz.f273 0) (dJ A 0) .ret (gI q)])):
 aw 273 [.agg (bn a b c A)] [al q]:=
 h.of
theorem agy(h:af (OC a b c A [.b ((A.length:Int)==2) false,.l [] [93,92,91] [] (aq Tryz.f273 0) (dJ A 0) (.exit 1) gT])):
 aw 273 [.agg (bn a b c A)] [al true]:=
 h.of
def OE(a b c:Int)(A:ah)(d e:Int)(l:List O):List O:=GQ a b c A (.b (a==8) false::.b ((A.length:Int)==2) true::.p ((0:Int)<=0)::.p (0<(A.length:Int))::.e A 0 [I d]::.p ((0:Int)<=1)::.p (1<(A.length:Int))::.e A 1 [I e]::l)
theorem agz(h:af (OE a b c A d e [.b (d==e) true])):
 aw 273 [.agg (bn a b c A)] [al false]:=
 h.of
theorem agA(h:af (OE a b c A d e [.b (d==e) false,.l [] [93,92,91] [] (aq Tryz.f273 0) (dJ A 0) .ret (gI q)])):
 aw 273 [.agg (bn a b c A)] [al q]:=
 h.of
theorem agB(h:af (OE a b c A d e [.b (d==e) false,.l [] [93,92,91] [] (aq Tryz.f273 0) (dJ A 0) (.exit 1) gT])):
 aw 273 [.agg (bn a b c A)] [al true]:=
 h.of
theorem agC(h:af (GQ a b c A [.b (a==8) false,.b ((A.length:Int)==2) false,.l [] [93,92,91] [] (aq Tryz.f273 0) (dJ A 0) .ret (gI q)])):
 aw 273 [.agg (bn a b c A)] [al q]:=
 h.of
theorem agD(h:af (GQ a b c A [.b (a==8) false,.b ((A.length:Int)==2) false,.l [] [93,92,91] [] (aq Tryz.f273 0) (dJ A 0) (.exit 1) gT])):
 aw 273 [.agg (bn a b c A)] [al true]:=
 h.of
def YT(a:Int)(l:List O):List O:=GF a (.b (a==5) false::l)
def YU(a:Int)(l:List O):List O:=YT a (.b (a==6) true::.b (a==6) true::l)
theorem agE(h:af (YU a [.b (b != 0) true])):
 aw 273 [.agg (bn a b c A)] [al false]:=
 h.of
def YV(a b:Int)(l:List O):List O:=YU a (.b (b != 0) false::l)
theorem agF(h:af (YV a b [.b (c != 0) true])):
 aw 273 [.agg (bn a b c A)] [al false]:=
 h.of
def YW(a b c:Int)(l:List O):List O:=YV a b (.b (c != 0) false::l)
theorem agG(h:af (YW a b c [.b (decide ((A.length:Int)>2)) true])):
 aw 273 [.agg (bn a b c A)] [al false]:=
 h.of
def GR(a b c:Int)(A:ah)(l:List O):List O:=YW a b c (.b (decide ((A.length:Int)>2)) false::l)
def YX(a b c:Int)(A:ah)(l:List O):List O:=GR a b c A (.b (a==8) true::l)
theorem agH(h:af (YX a b c A [.b (decide ((A.length:Int)>0)) true])):
 aw 273 [.agg (bn a b c A)] [al false]:=
 h.of
def OF(a b c:Int)(A:ah)(l:List O):List O:=YX a b c A (.b (decide ((A.length:Int)>0)) false::l)
def OG(a b c:Int)(A:ah)(d e:Int)(l:List O):List O:=OF a b c A (.b ((A.length:Int)==2) true::.p ((0:Int)<=0)::.p (0<(A.length:Int))::.e A 0 [I d]::.p ((0:Int)<=1)::.p (1<(A.length:Int))::.e A 1 [I e]::l)
theorem agI(h:af (OG a b c A d e [.b (d==e) true])):
 aw 273 [.agg (bn a b c A)] [al false]:=
 h.of
theorem agJ(h:af (OG a b c A d e [.b (d==e) false,.l [] [93,92,91] [] (aq Tryz.f273 0) (dJ A 0) .ret (gI q)])):
 aw 273 [.agg (bn a b c A)] [al q]:=
 h.of
theorem agK(h:af (OG a b c A d e [.b (d==e) false,.l [] [93,92,91] [] (aq Tryz.f273 0) (dJ A 0) (.exit 1) gT])):
 aw 273 [.agg (bn a b c A)] [al true]:=
 h.of
theorem agL(h:af (OF a b c A [.b ((A.length:Int)==2) false,.l [] [93,92,91] [] (aq Tryz.f273 0) (dJ A 0) .ret (gI q)])):
 aw 273 [.agg (bn a b c A)] [al q]:=
 h.of
theorem agM(h:af (OF a b c A [.b ((A.length:Int)==2) false,.l [] [93,92,91] [] (aq Tryz.f273 0) (dJ A 0) (.exit 1) gT])):
 aw 273 [.agg (bn a b c A)] [al true]:=
 h.of
def OH(a b c:Int)(A:ah)(d e:Int)(l:List O):List O:=GR a b c A (.b (a==8) false::.b ((A.length:Int)==2) true::.p ((0:Int)<=0)::.p (0<(A.length:Int))::.e A 0 [I d]::.p ((0:Int)<=1)::.p (1<(A.length:Int))::.e A 1 [I e]::l)
theorem agN(h:af (OH a b c A d e [.b (d==e) true])):
 aw 273 [.agg (bn a b c A)] [al false]:=
 h.of
theorem agO(h:af (OH a b c A d e [.b (d==e) false,.l [] [93,92,91] [] (aq Tryz.f273 0) (dJ A 0) .ret (gI q)])):
 aw 273 [.agg (bn a b c A)] [al q]:=
 h.of
theorem agP(h:af (OH a b c A d e [.b (d==e) false,.l [] [93,92,91] [] (aq Tryz.f273 0) (dJ A 0) (.exit 1) gT])):
 aw 273 [.agg (bn a b c A)] [al true]:=
 h.of
theorem agQ(h:af (GR a b c A [.b (a==8) false,.b ((A.length:Int)==2) false,.l [] [93,92,91] [] (aq Tryz.f273 0) (dJ A 0) .ret (gI q)])):
 aw 273 [.agg (bn a b c A)] [al q]:=
 h.of
theorem af0(h:af (GR a b c A [.b (a==8) false,.b ((A.length:Int)==2) false,.l [] [93,92,91] [] (aq Tryz.f273 0) (dJ A 0) (.exit 1) gT])):
 aw 273 [.agg (bn a b c A)] [al true]:=
 h.of
def YY(a:Int)(l:List O):List O:=YT a (.b (a==6) false::l)
def YZ(a:Int)(l:List O):List O:=YY a (.b (a==7) true::.b (a==7) true::l)
theorem af1(h:af (YZ a [.b (b != 0) true])):
 aw 273 [.agg (bn a b c A)] [al false]:=
 h.of
def Y0(a b:Int)(l:List O):List O:=YZ a (.b (b != 0) false::l)
theorem af2(h:af (Y0 a b [.b (c != 0) true])):
 aw 273 [.agg (bn a b c A)] [al false]:=
 h.of
def Y1(a b c:Int)(l:List O):List O:=Y0 a b (.b (c != 0) false::l)
theorem af3(h:af (Y1 a b c [.b (decide ((A.length:Int)>2)) true])):
 aw 273 [.agg (bn a b c A)] [al false]:=
 h.of
def GU(a b c:Int)(A:ah)(l:List O):List O:=Y1 a b c (.b (decide ((A.length:Int)>2)) false::l)
def Y2(a b c:Int)(A:ah)(l:List O):List O:=GU a b c A (.b (a==8) true::l)
theorem af4(h:af (Y2 a b c A [.b (decide ((A.length:Int)>0)) true])):
 aw 273 [.agg (bn a b c A)] [al false]:=
 h.of
def OI(a b c:Int)(A:ah)(l:List O):List O:=Y2 a b c A (.b (decide ((A.length:Int)>0)) false::l)
def OJ(a b c:Int)(A:ah)(d e:Int)(l:List O):List O:=OI a b c A (.b ((A.length:Int)==2) true::.p ((0:Int)<=0)::.p (0<(A.length:Int))::.e A 0 [I d]::.p ((0:Int)<=1)::.p (1<(A.length:Int))::.e A 1 [I e]::l)
theorem af5(h:af (OJ a b c A d e [.b (d==e) true])):
 aw 273 [.agg (bn a b c A)] [al false]:=
 h.of
theorem af6(h:af (OJ a b c A d e [.b (d==e) false,.l [] [93,92,91] [] (aq Tryz.f273 0) (dJ A 0) .ret (gI q)])):
 aw 273 [.agg (bn a b c A)] [al q]:=
 h.of
theorem af7(h:af (OJ a b c A d e [.b (d==e) false,.l [] [93,92,91] [] (aq Tryz.f273 0) (dJ A 0) (.exit 1) gT])):
 aw 273 [.agg (bn a b c A)] [al true]:=
 h.of
theorem af8(h:af (OI a b c A [.b ((A.length:Int)==2) false,.l [] [93,92,91] [] (aq Tryz.f273 0) (dJ A 0) .ret (gI q)])):
 aw 273 [.agg (bn a b c A)] [al q]:=
 h.of
theorem af9(h:af (OI a b c A [.b ((A.length:Int)==2) false,.l [] [93,92,91] [] (aq Tryz.f273 0) (dJ A 0) (.exit 1) gT])):
 aw 273 [.agg (bn a b c A)] [al true]:=
 h.of
def OK(a b c:Int)(A:ah)(d e:Int)(l:List O):List O:=GU a b c A (.b (a==8) false::.b ((A.length:Int)==2) true::.p ((0:Int)<=0)::.p (0<(A.length:Int))::.e A 0 [I d]::.p ((0:Int)<=1)::.p (1<(A.length:Int))::.e A 1 [I e]::l)
theorem aga(h:af (OK a b c A d e [.b (d==e) true])):
 aw 273 [.agg (bn a b c A)] [al false]:=
 h.of
theorem agb(h:af (OK a b c A d e [.b (d==e) false,.l [] [93,92,91] [] (aq Tryz.f273 0) (dJ A 0) .ret (gI q)])):
 aw 273 [.agg (bn a b c A)] [al q]:=
 h.of
theorem agc(h:af (OK a b c A d e [.b (d==e) false,.l [] [93,92,91] [] (aq Tryz.f273 0) (dJ A 0) (.exit 1) gT])):
 aw 273 [.agg (bn a b c A)] [al true]:=
 h.of
theorem agd(h:af (GU a b c A [.b (a==8) false,.b ((A.length:Int)==2) false,.l [] [93,92,91] [] (aq Tryz.f273 0) (dJ A 0) .ret (gI q)])):
 aw 273 [.agg (bn a b c A)] [al q]:=
 h.of
theorem age(h:af (GU a b c A [.b (a==8) false,.b ((A.length:Int)==2) false,.l [] [93,92,91] [] (aq Tryz.f273 0) (dJ A 0) (.exit 1) gT])):
 aw 273 [.agg (bn a b c A)] [al true]:=
 h.of
def Y3(a:Int)(l:List O):List O:=YY a (.b (a==7) false::l)
def Y4(a:Int)(l:List O):List O:=Y3 a (.b (a==8) true::l)
theorem agf(h:af (Y4 a [.b (b != 0) true])):
 aw 273 [.agg (bn a b c A)] [al false]:=
 h.of
def Y5(a b:Int)(l:List O):List O:=Y4 a (.b (b != 0) false::l)
theorem agh(h:af (Y5 a b [.b (c != 0) true])):
 aw 273 [.agg (bn a b c A)] [al false]:=
 h.of
def YJ(a b c:Int)(l:List O):List O:=Y5 a b (.b (c != 0) false::l)
theorem agi(h:af (YJ a b c [.b (decide ((A.length:Int)>2)) true])):
 aw 273 [.agg (bn a b c A)] [al false]:=
 h.of
def YK(a b c:Int)(A:ah)(l:List O):List O:=YJ a b c (.b (decide ((A.length:Int)>2)) false::.b (a==8) true::l)
theorem agj(h:af (YK a b c A [.b (decide ((A.length:Int)>0)) true])):
 aw 273 [.agg (bn a b c A)] [al false]:=
 h.of
def Oy(a b c:Int)(A:ah)(l:List O):List O:=YK a b c A (.b (decide ((A.length:Int)>0)) false::l)
def Oz(a b c:Int)(A:ah)(d e:Int)(l:List O):List O:=Oy a b c A (.b ((A.length:Int)==2) true::.p ((0:Int)<=0)::.p (0<(A.length:Int))::.e A 0 [I d]::.p ((0:Int)<=1)::.p (1<(A.length:Int))::.e A 1 [I e]::l)
theorem agk(h:af (Oz a b c A d e [.b (d==e) true])):
 aw 273 [.agg (bn a b c A)] [al false]:=
 h.of
theorem agl(h:af (Oz a b c A d e [.b (d==e) false,.l [] [93,92,91] [] (aq Tryz.f273 0) (dJ A 0) .ret (gI q)])):
 aw 273 [.agg (bn a b c A)] [al q]:=
 h.of
theorem agm(h:af (Oz a b c A d e [.b (d==e) false,.l [] [93,92,91] [] (aq Tryz.f273 0) (dJ A 0) (.exit 1) gT])):
 aw 273 [.agg (bn a b c A)] [al true]:=
 h.of
theorem agn(h:af (Oy a b c A [.b ((A.length:Int)==2) false,.l [] [93,92,91] [] (aq Tryz.f273 0) (dJ A 0) .ret (gI q)])):
 aw 273 [.agg (bn a b c A)] [al q]:=
 h.of
theorem ago(h:af (Oy a b c A [.b ((A.length:Int)==2) false,.l [] [93,92,91] [] (aq Tryz.f273 0) (dJ A 0) (.exit 1) gT])):
 aw 273 [.agg (bn a b c A)] [al true]:=
 h.of
theorem agp(h:af (Y3 a [.b (a==8) false])):
 aw 273 [.agg (bn a b c A)] [al false]:=
 h.of
