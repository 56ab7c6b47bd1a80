import Derived.Test.YtdchjefneblpgaaGreatGE
set_option linter.unusedVariables false
set_option linter.unusedSimpArgs false
namespace Go.Proofs.YtdchjefneblpgaaGreat
open Go.Sx Go.RowKit
variable {a b c d e f g : Int} {A : ae} {q r s t : Bool}
def Ze(a:Int)(l:List O):List O:=.b (a==2) true::l
def Hn(a b:Int)(q r:Bool)(l:List O):List O:=Ze a (.r 168 [ag b,ag 0,ag 999] [ai q]::.r 168 [ag a,ag 1,ag 8] [ai r]::l)
theorem ahd(h:ad (Hn a b r q [.n q true])):
 al 243 [.agg (bt a b c A)] [ai false]:=
 h.of
def Db(a b:Int)(q r:Bool)(l:List O):List O:=Hn a b q r (.n r false::l)
theorem ahe(h:ad (Db a b q r [.n q true])):
 al 243 [.agg (bt a b c A)] [ai false]:=
 h.of
theorem ahf(h:ad (Db a b q r [.n q false,.b (!c==0) true])):
 al 243 [.agg (bt a b c A)] [ai false]:=
 h.of
def Zf(a b:Int)(q r:Bool)(c:Int)(l:List O):List O:=Db a b q r (.n q false::.b (!c==0) false::l)
theorem ahg(h:ad (Zf a b q r c [.b (decide ((A.length:Int)>2)) true])):
 al 243 [.agg (bt a b c A)] [ai false]:=
 h.of
def Dc(a b:Int)(q r:Bool)(c:Int)(A:ae)(l:List O):List O:=Zf a b q r c (.b (decide ((A.length:Int)>2)) false::l)
theorem ahh(h:ad (Dc a b q r c A [.b (a==8) true,.b (decide ((A.length:Int)>0)) true])):
 al 243 [.agg (bt a b c A)] [ai false]:=
 h.of
def iJ(a b c:Int)(A:ae)(d:Int):aJ:=bj 93 [(1,aR 1),(5,a6 d)] [(1,[au a,au b,au c,.J .free 1 A])]
def rh(q:Bool):aJ:=bj 93 [(2,.aI (.one (.bg q)))] []
def Pw(A:ae)(a b:Int)(q:Bool)(l:List O):List O:=.i A a [I b]::.r 168 [ag b,ag 0,ag 7] [ai q]::l
theorem Md(h:ad (Pw A a b q [.n q true])):
 a7 (ar Tryz.f243 0) (iJ c d e A a) .ret (rh false):=
 h.aY [2] []
def Zx(A:ae)(a b:Int)(q:Bool)(c d:Int)(l:List O):List O:=Pw A a b q (.n q false::.b (decide (a>0)) true::.p ((0:Int)<=0)::.p (0<(A.length:Int))::.e A 0 [I c]::.p ((0:Int)<=1)::.p (1<(A.length:Int))::.e A 1 [I d]::l)
theorem ahi(h:ad (Zx A a c q d b [.b (d==b) true])):
 a7 (ar Tryz.f243 0) (iJ e f g A a) .ret (rh false):=
 h.aY [2] []
theorem ahj(h:ad (Zx A a f q g d [.b (g==d) false,.u a])):
 a7 (ar Tryz.f243 0) (iJ b c e A a) .normal (iJ b c e A (a+1)):=
 h.aY [5,1] [1]
theorem UQ(h:ad (Pw A a e q [.n q false,.b (decide (a>0)) false,.u a])):
 a7 (ar Tryz.f243 0) (iJ b c d A a) .normal (iJ b c d A (a+1)):=
 h.aY [5,1] [1]
def sD:aJ:=bj 93 [] []
theorem Me(h:ad [.f A a false]):
 a7 (ar Tryz.f243 0) (iJ b c d A a) (.exit 1) sD:=
 h.aY [] []
theorem ahk(h:ad (Dc a b q r c A [.b (a==8) true,.b (decide ((A.length:Int)>0)) false,.l [] [5,1] [1] (ar Tryz.f243 0) (iJ a b c A 0) .ret (rh s)])):
 al 243 [.agg (bt a b c A)] [ai s]:=
 h.of
theorem ahl(h:ad (Dc a b q r c A [.b (a==8) true,.b (decide ((A.length:Int)>0)) false,.l [] [5,1] [1] (ar Tryz.f243 0) (iJ a b c A 0) (.exit 1) sD])):
 al 243 [.agg (bt a b c A)] [ai true]:=
 h.of
theorem ahm(h:ad (Dc a b q r c A [.b (a==8) false,.l [] [5,1] [1] (ar Tryz.f243 0) (iJ a b c A 0) .ret (rh s)])):
 al 243 [.agg (bt a b c A)] [ai s]:=
 h.of
theorem ahn(h:ad (Dc a b q r c A [.b (a==8) false,.l [] [5,1] [1] (ar Tryz.f243 0) (iJ a b c A 0) (.exit 1) sD])):
 al 243 [.agg (bt a b c A)] [ai true]:=
 h.of
def Zy(a:Int)(l:List O):List O:=.b (a==2) false::l
def Zz(a:Int)(l:List O):List O:=Zy a (.b (a==3) true::l)
def Px(a b:Int)(q:Bool)(c:Int)(r s:Bool)(l:List O):List O:=Zz a (.r 168 [ag b,ag 1,ag 10] [ai q]::.a .wr::.r 168 [ag c,ag 0,ag (IntKind.i64.wrap (b-1))] [ai r]::.r 168 [ag a,ag 1,ag 8] [ai s]::l)
theorem aho(h:ad (Px a b r c s q [.n q true])):
 al 243 [.agg (bt a b c A)] [ai false]:=
 h.of
theorem ahp(h:ad (Px a b q c s r [.n r false,.n q true])):
 al 243 [.agg (bt a b c A)] [ai false]:=
 h.of
def Py(a b:Int)(q:Bool)(c:Int)(r s:Bool)(l:List O):List O:=Px a b q c r s (.n s false::.n q false::l)
theorem ahq(h:ad (Py a b q c r s [.n r true])):
 al 243 [.agg (bt a b c A)] [ai false]:=
 h.of
theorem ahr(h:ad (Py a b q c r s [.n r false,.b (decide ((A.length:Int)>2)) true])):
 al 243 [.agg (bt a b c A)] [ai false]:=
 h.of
def Dg(a b:Int)(q:Bool)(c:Int)(r s:Bool)(A:ae)(l:List O):List O:=Py a b q c r s (.n r false::.b (decide ((A.length:Int)>2)) false::l)
theorem ahs(h:ad (Dg a b q c r s A [.b (a==8) true,.b (decide ((A.length:Int)>0)) true])):
 al 243 [.agg (bt a b c A)] [ai false]:=
 h.of
theorem aht(h:ad (Dg a b q c r s A [.b (a==8) true,.b (decide ((A.length:Int)>0)) false,.l [] [5,1] [1] (ar Tryz.f243 0) (iJ a b c A 0) .ret (rh t)])):
 al 243 [.agg (bt a b c A)] [ai t]:=
 h.of
theorem ahu(h:ad (Dg a b q c r s A [.b (a==8) true,.b (decide ((A.length:Int)>0)) false,.l [] [5,1] [1] (ar Tryz.f243 0) (iJ a b c A 0) (.exit 1) sD])):
 al 243 [.agg (bt a b c A)] [ai true]:=
 h.of
theorem ahv(h:ad (Dg a b q c r s A [.b (a==8) false,.l [] [5,1] [1] (ar Tryz.f243 0) (iJ a b c A 0) .ret (rh t)])):
 al 243 [.agg (bt a b c A)] [ai t]:=
 h.of
theorem ahw(h:ad (Dg a b q c r s A [.b (a==8) false,.l [] [5,1] [1] (ar Tryz.f243 0) (iJ a b c A 0) (.exit 1) sD])):
 al 243 [.agg (bt a b c A)] [ai true]:=
 h.of
def ZD(a:Int)(l:List O):List O:=Zy a (.b (a==3) false::l)
def ZE(a:Int)(l:List O):List O:=ZD a (.b (a==4) true::l)
def ZF(a b:Int)(q r:Bool)(l:List O):List O:=ZE a (.r 168 [ag b,ag 0,ag 99] [ai q]::.r 168 [ag a,ag 1,ag 8] [ai r]::l)
theorem agX(h:ad (ZF a b r q [.n q true])):
 al 243 [.agg (bt a b c A)] [ai false]:=
 h.of
def PC(a b:Int)(q r:Bool)(l:List O):List O:=ZF a b q r (.n r false::l)
theorem agY(h:ad (PC a b q r [.n q true])):
 al 243 [.agg (bt a b c A)] [ai false]:=
 h.of
theorem agZ(h:ad (PC a b q r [.n q false,.b (!c==0) true])):
 al 243 [.agg (bt a b c A)] [ai false]:=
 h.of
def ZG(a b:Int)(q r:Bool)(c:Int)(l:List O):List O:=PC a b q r (.n q false::.b (!c==0) false::l)
theorem ag0(h:ad (ZG a b q r c [.b (decide ((A.length:Int)>2)) true])):
 al 243 [.agg (bt a b c A)] [ai false]:=
 h.of
def Di(a b:Int)(q r:Bool)(c:Int)(A:ae)(l:List O):List O:=ZG a b q r c (.b (decide ((A.length:Int)>2)) false::l)
theorem ag1(h:ad (Di a b q r c A [.b (a==8) true,.b (decide ((A.length:Int)>0)) true])):
 al 243 [.agg (bt a b c A)] [ai false]:=
 h.of
theorem ag2(h:ad (Di a b q r c A [.b (a==8) true,.b (decide ((A.length:Int)>0)) false,.l [] [5,1] [1] (ar Tryz.f243 0) (iJ a b c A 0) .ret (rh s)])):
 al 243 [.agg (bt a b c A)] [ai s]:=
 h.of
theorem ag3(h:ad (Di a b q r c A [.b (a==8) true,.b (decide ((A.length:Int)>0)) false,.l [] [5,1] [1] (ar Tryz.f243 0) (iJ a b c A 0) (.exit 1) sD])):
 al 243 [.agg (bt a b c A)] [ai true]:=
 h.of
theorem ag4(h:ad (Di a b q r c A [.b (a==8) false,.l [] [5,1] [1] (ar Tryz.f243 0) (iJ a b c A 0) .ret (rh s)])):
 al 243 [.agg (bt a b c A)] [ai s]:=
 h.of
theorem ag5(h:ad (Di a b q r c A [.b (a==8) false,.l [] [5,1] [1] (ar Tryz.f243 0) (iJ a b c A 0) (.exit 1) sD])):
 al 243 [.agg (bt a b c A)] [ai true]:=
 h.of
def Po(a:Int)(l:List O):List O:=ZD a (.b (a==4) false::l)
def Zk(a:Int)(q:Bool)(l:List O):List O:=Po a (.r 168 [ag a,ag 1,ag 8] [ai q]::l)
theorem ag6(h:ad (Zk a q [.n q true])):
 al 243 [.agg (bt a b c A)] [ai false]:=
 h.of
def Zl(a:Int)(q:Bool)(l:List O):List O:=Zk a q (.n q false::l)
theorem aiy(h:ad (Zl a q [.b (!b==0) true])):
 al 243 [.agg (bt a b c A)] [ai false]:=
 h.of
def Zm(a:Int)(q:Bool)(b:Int)(l:List O):List O:=Zl a q (.b (!b==0) false::l)
theorem aiz(h:ad (Zm a q b [.b (!c==0) true])):
 al 243 [.agg (bt a b c A)] [ai false]:=
 h.of
def Zn(a:Int)(q:Bool)(b c:Int)(l:List O):List O:=Zm a q b (.b (!c==0) false::l)
theorem aiA(h:ad (Zn a q b c [.b (decide ((A.length:Int)>2)) true])):
 al 243 [.agg (bt a b c A)] [ai false]:=
 h.of
def De(a:Int)(q:Bool)(b c:Int)(A:ae)(l:List O):List O:=Zn a q b c (.b (decide ((A.length:Int)>2)) false::l)
theorem aiB(h:ad (De a q b c A [.b (a==8) true,.b (decide ((A.length:Int)>0)) true])):
 al 243 [.agg (bt a b c A)] [ai false]:=
 h.of
theorem aiC(h:ad (De a q b c A [.b (a==8) true,.b (decide ((A.length:Int)>0)) false,.l [] [5,1] [1] (ar Tryz.f243 0) (iJ a b c A 0) .ret (rh r)])):
 al 243 [.agg (bt a b c A)] [ai r]:=
 h.of
theorem aiD(h:ad (De a q b c A [.b (a==8) true,.b (decide ((A.length:Int)>0)) false,.l [] [5,1] [1] (ar Tryz.f243 0) (iJ a b c A 0) (.exit 1) sD])):
 al 243 [.agg (bt a b c A)] [ai true]:=
 h.of
theorem aiE(h:ad (De a q b c A [.b (a==8) false,.l [] [5,1] [1] (ar Tryz.f243 0) (iJ a b c A 0) .ret (rh r)])):
 al 243 [.agg (bt a b c A)] [ai r]:=
 h.of
theorem aiF(h:ad (De a q b c A [.b (a==8) false,.l [] [5,1] [1] (ar Tryz.f243 0) (iJ a b c A 0) (.exit 1) sD])):
 al 243 [.agg (bt a b c A)] [ai true]:=
 h.of
def Zg(a b:Int)(q:Bool)(l:List O):List O:=Ze a (.r 190 [ag b,ag 0,ag 999] [ai q]::l)
theorem aiG(h:ad (Zg a b q [.n q true])):
 al 273 [.agg (bt a b c A)] [ai false]:=
 h.of
def Zh(a b:Int)(q:Bool)(l:List O):List O:=Zg a b q (.n q false::l)
theorem aiH(h:ad (Zh a b q [.b (c != 0) true])):
 al 273 [.agg (bt a b c A)] [ai false]:=
 h.of
def Zi(a b:Int)(q:Bool)(c:Int)(l:List O):List O:=Zh a b q (.b (c != 0) false::l)
theorem aiI(h:ad (Zi a b q c [.b (decide ((A.length:Int)>2)) true])):
 al 273 [.agg (bt a b c A)] [ai false]:=
 h.of
def Df(a b:Int)(q:Bool)(c:Int)(A:ae)(l:List O):List O:=Zi a b q c (.b (decide ((A.length:Int)>2)) false::l)
theorem aiJ(h:ad (Df a b q c A [.b (a==8) true,.b (decide ((A.length:Int)>0)) true])):
 al 273 [.agg (bt a b c A)] [ai false]:=
 h.of
def Pt(a b:Int)(q:Bool)(c:Int)(A:ae)(l:List O):List O:=Df a b q c A (.b (a==8) true::.b (decide ((A.length:Int)>0)) false::l)
def Pu(a b:Int)(q:Bool)(c:Int)(A:ae)(d e:Int)(l:List O):List O:=Pt a b q c A (.b ((A.length:Int)==2) true::.p ((0:Int)<=0)::.p (0<(A.length:Int))::.e A 0 [I d]::.p ((0:Int)<=1)::.p (1<(A.length:Int))::.e A 1 [I e]::l)
theorem aiK(h:ad (Pu a b q c A d e [.b (d==e) true])):
 al 273 [.agg (bt a b c A)] [ai false]:=
 h.of
def dR(A:ae)(a:Int):aJ:=bj 101 [(91,dO 1 A),(92,a6 (A.length:Int)),(93,a6 a)] []
def hl(q:Bool):aJ:=bj 101 [(2,.aI (.one (.bg q)))] []
theorem aiL(h:ad [.i A a [I b],.r 190 [ag b,ag 0,ag 7] [ai q],.n q true]):
 a7 (ar Tryz.f273 0) (dR A a) .ret (hl false):=
 h.aY [2] []
theorem aiM(h:ad [.i A a [I b],.r 190 [ag b,ag 0,ag 7] [ai q],.n q false,.u a]):
 a7 (ar Tryz.f273 0) (dR A a) .normal (dR A (a+1)):=
 h.aY [93,92,91] []
def hB:aJ:=bj 101 [] []
theorem aiN(h:ad [.f A a false]):
 a7 (ar Tryz.f273 0) (dR A a) (.exit 1) hB:=
 h.aY [] []
theorem aiO(h:ad (Pu a b q c A d e [.b (d==e) false,.l [] [93,92,91] [] (ar Tryz.f273 0) (dR A 0) .ret (hl r)])):
 al 273 [.agg (bt a b c A)] [ai r]:=
 h.of
theorem aiP(h:ad (Pu a b q c A d e [.b (d==e) false,.l [] [93,92,91] [] (ar Tryz.f273 0) (dR A 0) (.exit 1) hB])):
 al 273 [.agg (bt a b c A)] [ai true]:=
 h.of
theorem aiQ(h:ad (Pt a b q c A [.b ((A.length:Int)==2) false,.l [] [93,92,91] [] (ar Tryz.f273 0) (dR A 0) .ret (hl r)])):
 al 273 [.agg (bt a b c A)] [ai r]:=
 h.of
theorem aiR(h:ad (Pt a b q c A [.b ((A.length:Int)==2) false,.l [] [93,92,91] [] (ar Tryz.f273 0) (dR A 0) (.exit 1) hB])):
 al 273 [.agg (bt a b c A)] [ai true]:=
 h.of
def Pv(a b:Int)(q:Bool)(c:Int)(A:ae)(d e:Int)(l:List O):List O:=Df a b q c A (.b (a==8) false::.b ((A.length:Int)==2) true::.p ((0:Int)<=0)::.p (0<(A.length:Int))::.e A 0 [I d]::.p ((0:Int)<=1)::.p (1<(A.length:Int))::.e A 1 [I e]::l)
theorem aiS(h:ad (Pv a b q c A d e [.b (d==e) true])):
 al 273 [.agg (bt a b c A)] [ai false]:=
 h.of
theorem aiT(h:ad (Pv a b q c A d e [.b (d==e) false,.l [] [93,92,91] [] (ar Tryz.f273 0) (dR A 0) .ret (hl r)])):
 al 273 [.agg (bt a b c A)] [ai r]:=
 h.of
theorem aiU(h:ad (Pv a b q c A d e [.b (d==e) false,.l [] [93,92,91] [] (ar Tryz.f273 0) (dR A 0) (.exit 1) hB])):
 al 273 [.agg (bt a b c A)] [ai true]:=
 h.of
theorem aiV(h:ad (Df a b q c A [.b (a==8) false,.b ((A.length:Int)==2) false,.l [] [93,92,91] [] (ar Tryz.f273 0) (dR A 0) .ret (hl r)])):
 al 273 [.agg (bt a b c A)] [ai r]:=
 h.of
theorem aiW(h:ad (Df a b q c A [.b (a==8) false,.b ((A.length:Int)==2) false,.l [] [93,92,91] [] (ar Tryz.f273 0) (dR A 0) (.exit 1) hB])):
 al 273 [.agg (bt a b c A)] [ai true]:=
 h.of
def ZA(a b:Int)(q:Bool)(l:List O):List O:=Zz a (.r 190 [ag b,ag 1,ag 10] [ai q]::l)
theorem aiX(h:ad (ZA a b q [.n q true])):
 al 273 [.agg (bt a b c A)] [ai false]:=
 h.of
def ZB(a b:Int)(q:Bool)(c:Int)(r:Bool)(l:List O):List O:=ZA a b q (.n q false::.a .wr::.r 190 [ag c,ag 0,ag (IntKind.i64.wrap (b-1))] [ai r]::l)
theorem ah7(h:ad (ZB a b q c r [.n r true])):
 al 273 [.agg (bt a b c A)] [ai false]:=
 h.of
def ZC(a b:Int)(q:Bool)(c:Int)(r:Bool)(l:List O):List O:=ZB a b q c r (.n r false::l)
theorem ah8(h:ad (ZC a b q c r [.b (decide ((A.length:Int)>2)) true])):
 al 273 [.agg (bt a b c A)] [ai false]:=
 h.of
def Dh(a b:Int)(q:Bool)(c:Int)(r:Bool)(A:ae)(l:List O):List O:=ZC a b q c r (.b (decide ((A.length:Int)>2)) false::l)
theorem ah9(h:ad (Dh a b q c r A [.b (a==8) true,.b (decide ((A.length:Int)>0)) true])):
 al 273 [.agg (bt a b c A)] [ai false]:=
 h.of
def Pz(a b:Int)(q:Bool)(c:Int)(r:Bool)(A:ae)(l:List O):List O:=Dh a b q c r A (.b (a==8) true::.b (decide ((A.length:Int)>0)) false::l)
def PA(a b:Int)(q:Bool)(c:Int)(r:Bool)(A:ae)(d e:Int)(l:List O):List O:=Pz a b q c r A (.b ((A.length:Int)==2) true::.p ((0:Int)<=0)::.p (0<(A.length:Int))::.e A 0 [I d]::.p ((0:Int)<=1)::.p (1<(A.length:Int))::.e A 1 [I e]::l)
theorem aia(h:ad (PA a b q c r A d e [.b (d==e) true])):
 al 273 [.agg (bt a b c A)] [ai false]:=
 h.of
theorem aib(h:ad (PA a b q c r A d e [.b (d==e) false,.l [] [93,92,91] [] (ar Tryz.f273 0) (dR A 0) .ret (hl s)])):
 al 273 [.agg (bt a b c A)] [ai s]:=
 h.of
theorem aic(h:ad (PA a b q c r A d e [.b (d==e) false,.l [] [93,92,91] [] (ar Tryz.f273 0) (dR A 0) (.exit 1) hB])):
 al 273 [.agg (bt a b c A)] [ai true]:=
 h.of
theorem aid(h:ad (Pz a b q c r A [.b ((A.length:Int)==2) false,.l [] [93,92,91] [] (ar Tryz.f273 0) (dR A 0) .ret (hl s)])):
 al 273 [.agg (bt a b c A)] [ai s]:=
 h.of
theorem aie(h:ad (Pz a b q c r A [.b ((A.length:Int)==2) false,.l [] [93,92,91] [] (ar Tryz.f273 0) (dR A 0) (.exit 1) hB])):
 al 273 [.agg (bt a b c A)] [ai true]:=
 h.of
def PB(a b:Int)(q:Bool)(c:Int)(r:Bool)(A:ae)(d e:Int)(l:List O):List O:=Dh a b q c r A (.b (a==8) false::.b ((A.length:Int)==2) true::.p ((0:Int)<=0)::.p (0<(A.length:Int))::.e A 0 [I d]::.p ((0:Int)<=1)::.p (1<(A.length:Int))::.e A 1 [I e]::l)
theorem aif(h:ad (PB a b q c r A d e [.b (d==e) true])):
 al 273 [.agg (bt a b c A)] [ai false]:=
 h.of
theorem aih(h:ad (PB a b q c r A d e [.b (d==e) false,.l [] [93,92,91] [] (ar Tryz.f273 0) (dR A 0) .ret (hl s)])):
 al 273 [.agg (bt a b c A)] [ai s]:=
 h.of
theorem aii(h:ad (PB a b q c r A d e [.b (d==e) false,.l [] [93,92,91] [] (ar Tryz.f273 0) (dR A 0) (.exit 1) hB])):
 al 273 [.agg (bt a b c A)] [ai true]:=
 h.of
theorem aij(h:ad (Dh a b q c r A [.b (a==8) false,.b ((A.length:Int)==2) false,.l [] [93,92,91] [] (ar Tryz.f273 0) (dR A 0) .ret (hl s)])):
 al 273 [.agg (bt a b c A)] [ai s]:=
 h.of
theorem aik(h:ad (Dh a b q c r A [.b (a==8) false,.b ((A.length:Int)==2) false,.l [] [93,92,91] [] (ar Tryz.f273 0) (dR A 0) (.exit 1) hB])):
 al 273 [.agg (bt a b c A)] [ai true]:=
 h.of
def ZH(a b:Int)(q:Bool)(l:List O):List O:=ZE a (.r 190 [ag b,ag 0,ag 99] [ai q]::l)
theorem ail(h:ad (ZH a b q [.n q true])):
 al 273 [.agg (bt a b c A)] [ai false]:=
 h.of
def ZI(a b:Int)(q:Bool)(l:List O):List O:=ZH a b q (.n q false::l)
theorem aim(h:ad (ZI a b q [.b (c != 0) true])):
 al 273 [.agg (bt a b c A)] [ai false]:=
 h.of
def Zj(a b:Int)(q:Bool)(c:Int)(l:List O):List O:=ZI a b q (.b (c != 0) false::l)
theorem ain(h:ad (Zj a b q c [.b (decide ((A.length:Int)>2)) true])):
 al 273 [.agg (bt a b c A)] [ai false]:=
 h.of
def Dd(a b:Int)(q:Bool)(c:Int)(A:ae)(l:List O):List O:=Zj a b q c (.b (decide ((A.length:Int)>2)) false::l)
theorem aio(h:ad (Dd a b q c A [.b (a==8) true,.b (decide ((A.length:Int)>0)) true])):
 al 273 [.agg (bt a b c A)] [ai false]:=
 h.of
def Pl(a b:Int)(q:Bool)(c:Int)(A:ae)(l:List O):List O:=Dd a b q c A (.b (a==8) true::.b (decide ((A.length:Int)>0)) false::l)
def Pm(a b:Int)(q:Bool)(c:Int)(A:ae)(d e:Int)(l:List O):List O:=Pl a b q c A (.b ((A.length:Int)==2) true::.p ((0:Int)<=0)::.p (0<(A.length:Int))::.e A 0 [I d]::.p ((0:Int)<=1)::.p (1<(A.length:Int))::.e A 1 [I e]::l)
theorem aip(h:ad (Pm a b q c A d e [.b (d==e) true])):
 al 273 [.agg (bt a b c A)] [ai false]:=
 h.of
theorem aiq(h:ad (Pm a b q c A d e [.b (d==e) false,.l [] [93,92,91] [] (ar Tryz.f273 0) (dR A 0) .ret (hl r)])):
 al 273 [.agg (bt a b c A)] [ai r]:=
 h.of
theorem air(h:ad (Pm a b q c A d e [.b (d==e) false,.l [] [93,92,91] [] (ar Tryz.f273 0) (dR A 0) (.exit 1) hB])):
 al 273 [.agg (bt a b c A)] [ai true]:=
 h.of
theorem ais(h:ad (Pl a b q c A [.b ((A.length:Int)==2) false,.l [] [93,92,91] [] (ar Tryz.f273 0) (dR A 0) .ret (hl r)])):
 al 273 [.agg (bt a b c A)] [ai r]:=
 h.of
theorem ait(h:ad (Pl a b q c A [.b ((A.length:Int)==2) false,.l [] [93,92,91] [] (ar Tryz.f273 0) (dR A 0) (.exit 1) hB])):
 al 273 [.agg (bt a b c A)] [ai true]:=
 h.of
def Pn(a b:Int)(q:Bool)(c:Int)(A:ae)(d e:Int)(l:List O):List O:=Dd a b q c A (.b (a==8) false::.b ((A.length:Int)==2) true::.p ((0:Int)<=0)::.p (0<(A.length:Int))::.e A 0 [I d]::.p ((0:Int)<=1)::.p (1<(A.length:Int))::.e A 1 [I e]::l)
theorem aiu(h:ad (Pn a b q c A d e [.b (d==e) true])):
 al 273 [.agg (bt a b c A)] [ai false]:=
 h.of
theorem aiv(h:ad (Pn a b q c A d e [.b (d==e) false,.l [] [93,92,91] [] (ar Tryz.f273 0) (dR A 0) .ret (hl r)])):
 al 273 [.agg (bt a b c A)] [ai r]:=
 h.of
theorem aiw(h:ad (Pn a b q c A d e [.b (d==e) false,.l [] [93,92,91] [] (ar Tryz.f273 0) (dR A 0) (.exit 1) hB])):
 al 273 [.agg (bt a b c A)] [ai true]:=
 h.of
theorem aix(h:ad (Dd a b q c A [.b (a==8) false,.b ((A.length:Int)==2) false,.l [] [93,92,91] [] (ar Tryz.f273 0) (dR A 0) .ret (hl r)])):
 al 273 [.agg (bt a b c A)] [ai r]:=
 h.of
theorem ahX(h:ad (Dd a b q c A [.b (a==8) false,.b ((A.length:Int)==2) false,.l [] [93,92,91] [] (ar Tryz.f273 0) (dR A 0) (.exit 1) hB])):
 al 273 [.agg (bt a b c A)] [ai true]:=
 h.of
def Zo(a:Int)(l:List O):List O:=Po a (.b (a==1) true::.b (a==1) true::l)
theorem ahY(h:ad (Zo a [.b (b != 0) true])):
 al 273 [.agg (bt a b c A)] [ai false]:=
 h.of
def Zp(a b:Int)(l:List O):List O:=Zo a (.b (b != 0) false::l)
theorem ahZ(h:ad (Zp a b [.b (c != 0) true])):
 al 273 [.agg (bt a b c A)] [ai false]:=
 h.of
def Zq(a b c:Int)(l:List O):List O:=Zp a b (.b (c != 0) false::l)
theorem ah0(h:ad (Zq a b c [.b (decide ((A.length:Int)>2)) true])):
 al 273 [.agg (bt a b c A)] [ai false]:=
 h.of
def Ho(a b c:Int)(A:ae)(l:List O):List O:=Zq a b c (.b (decide ((A.length:Int)>2)) false::l)
def Zr(a b c:Int)(A:ae)(l:List O):List O:=Ho a b c A (.b (a==8) true::l)
theorem ah1(h:ad (Zr a b c A [.b (decide ((A.length:Int)>0)) true])):
 al 273 [.agg (bt a b c A)] [ai false]:=
 h.of
def Pp(a b c:Int)(A:ae)(l:List O):List O:=Zr a b c A (.b (decide ((A.length:Int)>0)) false::l)
def Pq(a b c:Int)(A:ae)(d e:Int)(l:List O):List O:=Pp a b c A (.b ((A.length:Int)==2) true::.p ((0:Int)<=0)::.p (0<(A.length:Int))::.e A 0 [I d]::.p ((0:Int)<=1)::.p (1<(A.length:Int))::.e A 1 [I e]::l)
theorem ah2(h:ad (Pq a b c A d e [.b (d==e) true])):
 al 273 [.agg (bt a b c A)] [ai false]:=
 h.of
theorem ah3(h:ad (Pq a b c A d e [.b (d==e) false,.l [] [93,92,91] [] (ar Tryz.f273 0) (dR A 0) .ret (hl q)])):
 al 273 [.agg (bt a b c A)] [ai q]:=
 h.of
theorem ah4(h:ad (Pq a b c A d e [.b (d==e) false,.l [] [93,92,91] [] (ar Tryz.f273 0) (dR A 0) (.exit 1) hB])):
 al 273 [.agg (bt a b c A)] [ai true]:=
 h.of
theorem ah5(h:ad (Pp a b c A [.b ((A.length:Int)==2) false,.l [] [93,92,91] [] (ar Tryz.f273 0) (dR A 0) .ret (hl q)])):
 al 273 [.agg (bt a b c A)] [ai q]:=
 h.of
theorem ah6(h:ad (Pp a b c A [.b ((A.length:Int)==2) false,.l [] [93,92,91] [] (ar Tryz.f273 0) (dR A 0) (.exit 1) hB])):
 al 273 [.agg (bt a b c A)] [ai true]:=
 h.of
def Pr(a b c:Int)(A:ae)(d e:Int)(l:List O):List O:=Ho a b c A (.b (a==8) false::.b ((A.length:Int)==2) true::.p ((0:Int)<=0)::.p (0<(A.length:Int))::.e A 0 [I d]::.p ((0:Int)<=1)::.p (1<(A.length:Int))::.e A 1 [I e]::l)
theorem ajy(h:ad (Pr a b c A d e [.b (d==e) true])):
 al 273 [.agg (bt a b c A)] [ai false]:=
 h.of
theorem ajz(h:ad (Pr a b c A d e [.b (d==e) false,.l [] [93,92,91] [] (ar Tryz.f273 0) (dR A 0) .ret (hl q)])):
 al 273 [.agg (bt a b c A)] [ai q]:=
 h.of
theorem ajA(h:ad (Pr a b c A d e [.b (d==e) false,.l [] [93,92,91] [] (ar Tryz.f273 0) (dR A 0) (.exit 1) hB])):
 al 273 [.agg (bt a b c A)] [ai true]:=
 h.of
theorem ajB(h:ad (Ho a b c A [.b (a==8) false,.b ((A.length:Int)==2) false,.l [] [93,92,91] [] (ar Tryz.f273 0) (dR A 0) .ret (hl q)])):
 al 273 [.agg (bt a b c A)] [ai q]:=
 h.of
theorem ajC(h:ad (Ho a b c A [.b (a==8) false,.b ((A.length:Int)==2) false,.l [] [93,92,91] [] (ar Tryz.f273 0) (dR A 0) (.exit 1) hB])):
 al 273 [.agg (bt a b c A)] [ai true]:=
 h.of
def Zs(a:Int)(l:List O):List O:=Po a (.b (a==1) false::l)
def Zt(a:Int)(l:List O):List O:=Zs a (.b (a==5) true::.b (a==5) true::l)
theorem ajD(h:ad (Zt a [.b (b != 0) true])):
 al 273 [.agg (bt a b c A)] [ai false]:=
 h.of
def Zu(a b:Int)(l:List O):List O:=Zt a (.b (b != 0) false::l)
theorem ajE(h:ad (Zu a b [.b (c != 0) true])):
 al 273 [.agg (bt a b c A)] [ai false]:=
 h.of
def Zv(a b c:Int)(l:List O):List O:=Zu a b (.b (c != 0) false::l)
theorem ajF(h:ad (Zv a b c [.b (decide ((A.length:Int)>2)) true])):
 al 273 [.agg (bt a b c A)] [ai false]:=
 h.of
def Hp(a b c:Int)(A:ae)(l:List O):List O:=Zv a b c (.b (decide ((A.length:Int)>2)) false::l)
def Zw(a b c:Int)(A:ae)(l:List O):List O:=Hp a b c A (.b (a==8) true::l)
theorem ajG(h:ad (Zw a b c A [.b (decide ((A.length:Int)>0)) true])):
 al 273 [.agg (bt a b c A)] [ai false]:=
 h.of
def Ps(a b c:Int)(A:ae)(l:List O):List O:=Zw a b c A (.b (decide ((A.length:Int)>0)) false::l)
def PD(a b c:Int)(A:ae)(d e:Int)(l:List O):List O:=Ps a b c A (.b ((A.length:Int)==2) true::.p ((0:Int)<=0)::.p (0<(A.length:Int))::.e A 0 [I d]::.p ((0:Int)<=1)::.p (1<(A.length:Int))::.e A 1 [I e]::l)
theorem ajH(h:ad (PD a b c A d e [.b (d==e) true])):
 al 273 [.agg (bt a b c A)] [ai false]:=
 h.of
theorem ajI(h:ad (PD a b c A d e [.b (d==e) false,.l [] [93,92,91] [] (ar Tryz.f273 0) (dR A 0) .ret (hl q)])):
 al 273 [.agg (bt a b c A)] [ai q]:=
 h.of
theorem ajJ(h:ad (PD a b c A d e [.b (d==e) false,.l [] [93,92,91] [] (ar Tryz.f273 0) (dR A 0) (.exit 1) hB])):
 al 273 [.agg (bt a b c A)] [ai true]:=
 h.of
theorem ajK(h:ad (Ps a b c A [.b ((A.length:Int)==2) false,.l [] [93,92,91] [] (ar Tryz.f273 0) (dR A 0) .ret (hl q)])):
 al 273 [.agg (bt a b c A)] [ai q]:=
 h.of
theorem ajL(h:ad (Ps a b c A [.b ((A.length:Int)==2) false,.l [] [93,92,91] [] (ar Tryz.f273 0) (dR A 0) (.exit 1) hB])):
 al 273 [.agg (bt a b c A)] [ai true]:=
 h.of
def PE(a b c:Int)(A:ae)(d e:Int)(l:List O):List O:=Hp a b c A (.b (a==8) false::.b ((A.length:Int)==2) true::.p ((0:Int)<=0)::.p (0<(A.length:Int))::.e A 0 [I d]::.p ((0:Int)<=1)::.p (1<(A.length:Int))::.e A 1 [I e]::l)
theorem ajM(h:ad (PE a b c A d e [.b (d==e) true])):
 al 273 [.agg (bt a b c A)] [ai false]:=
 h.of
theorem ajN(h:ad (PE a b c A d e [.b (d==e) false,.l [] [93,92,91] [] (ar Tryz.f273 0) (dR A 0) .ret (hl q)])):
 al 273 [.agg (bt a b c A)] [ai q]:=
 h.of
theorem ajO(h:ad (PE a b c A d e [.b (d==e) false,.l [] [93,92,91] [] (ar Tryz.f273 0) (dR A 0) (.exit 1) hB])):
 al 273 [.agg (bt a b c A)] [ai true]:=
 h.of
theorem ajP(h:ad (Hp a b c A [.b (a==8) false,.b ((A.length:Int)==2) false,.l [] [93,92,91] [] (ar Tryz.f273 0) (dR A 0) .ret (hl q)])):
 al 273 [.agg (bt a b c A)] [ai q]:=
 h.of
theorem ajQ(h:ad (Hp a b c A [.b (a==8) false,.b ((A.length:Int)==2) false,.l [] [93,92,91] [] (ar Tryz.f273 0) (dR A 0) (.exit 1) hB])):
 al 273 [.agg (bt a b c A)] [ai true]:=
 h.of
def ZJ(a:Int)(l:List O):List O:=Zs a (.b (a==5) false::l)
def ZK(a:Int)(l:List O):List O:=ZJ a (.b (a==6) true::.b (a==6) true::l)
theorem ajR(h:ad (ZK a [.b (b != 0) true])):
 al 273 [.agg (bt a b c A)] [ai false]:=
 h.of
def ZL(a b:Int)(l:List O):List O:=ZK a (.b (b != 0) false::l)
theorem ajS(h:ad (ZL a b [.b (c != 0) true])):
 al 273 [.agg (bt a b c A)] [ai false]:=
 h.of
def Hq(a b c:Int)(l:List O):List O:=ZL a b (.b (c != 0) false::l)
theorem ajT(h:ad (Hq a b c [.b (decide ((A.length:Int)>2)) true])):
 al 273 [.agg (bt a b c A)] [ai false]:=
 h.of
def Af(a b c:Int)(A:ae)(l:List O):List O:=Hq a b c (.b (decide ((A.length:Int)>2)) false::l)
def ZM(a b c:Int)(A:ae)(l:List O):List O:=Af a b c A (.b (a==8) true::l)
theorem ajU(h:ad (ZM a b c A [.b (decide ((A.length:Int)>0)) true])):
 al 273 [.agg (bt a b c A)] [ai false]:=
 h.of
def PF(a b c:Int)(A:ae)(l:List O):List O:=ZM a b c A (.b (decide ((A.length:Int)>0)) false::l)
def Dj(a b c:Int)(A:ae)(d e:Int)(l:List O):List O:=PF a b c A (.b ((A.length:Int)==2) true::.p ((0:Int)<=0)::.p (0<(A.length:Int))::.e A 0 [I d]::.p ((0:Int)<=1)::.p (1<(A.length:Int))::.e A 1 [I e]::l)
theorem ajV(h:ad (Dj a b c A d e [.b (d==e) true])):
 al 273 [.agg (bt a b c A)] [ai false]:=
 h.of
theorem ajW(h:ad (Dj a b c A d e [.b (d==e) false,.l [] [93,92,91] [] (ar Tryz.f273 0) (dR A 0) .ret (hl q)])):
 al 273 [.agg (bt a b c A)] [ai q]:=
 h.of
theorem ajX(h:ad (Dj a b c A d e [.b (d==e) false,.l [] [93,92,91] [] (ar Tryz.f273 0) (dR A 0) (.exit 1) hB])):
 al 273 [.agg (bt a b c A)] [ai true]:=
 h.of
theorem ai8(h:ad (PF a b c A [.b ((A.length:Int)==2) false,.l [] [93,92,91] [] (ar Tryz.f273 0) (dR A 0) .ret (hl q)])):
 al 273 [.agg (bt a b c A)] [ai q]:=
 h.of
theorem ai9(h:ad (PF a b c A [.b ((A.length:Int)==2) false,.l [] [93,92,91] [] (ar Tryz.f273 0) (dR A 0) (.exit 1) hB])):
 al 273 [.agg (bt a b c A)] [ai true]:=
 h.of
def PT(a b c:Int)(A:ae)(d e:Int)(l:List O):List O:=Af a b c A (.b (a==8) false::.b ((A.length:Int)==2) true::.p ((0:Int)<=0)::.p (0<(A.length:Int))::.e A 0 [I d]::.p ((0:Int)<=1)::.p (1<(A.length:Int))::.e A 1 [I e]::l)
theorem aja(h:ad (PT a b c A d e [.b (d==e) true])):
 al 273 [.agg (bt a b c A)] [ai false]:=
 h.of
theorem ajb(h:ad (PT a b c A d e [.b (d==e) false,.l [] [93,92,91] [] (ar Tryz.f273 0) (dR A 0) .ret (hl q)])):
 al 273 [.agg (bt a b c A)] [ai q]:=
 h.of
theorem ajc(h:ad (PT a b c A d e [.b (d==e) false,.l [] [93,92,91] [] (ar Tryz.f273 0) (dR A 0) (.exit 1) hB])):
 al 273 [.agg (bt a b c A)] [ai true]:=
 h.of
theorem ajd(h:ad (Af a b c A [.b (a==8) false,.b ((A.length:Int)==2) false,.l [] [93,92,91] [] (ar Tryz.f273 0) (dR A 0) .ret (hl q)])):
 al 273 [.agg (bt a b c A)] [ai q]:=
 h.of
theorem aje(h:ad (Af a b c A [.b (a==8) false,.b ((A.length:Int)==2) false,.l [] [93,92,91] [] (ar Tryz.f273 0) (dR A 0) (.exit 1) hB])):
 al 273 [.agg (bt a b c A)] [ai true]:=
 h.of
def ZR(a:Int)(l:List O):List O:=ZJ a (.b (a==6) false::l)
def ZS(a:Int)(l:List O):List O:=ZR a (.b (a==7) true::.b (a==7) true::l)
theorem ajf(h:ad (ZS a [.b (b != 0) true])):
 al 273 [.agg (bt a b c A)] [ai false]:=
 h.of
def ZT(a b:Int)(l:List O):List O:=ZS a (.b (b != 0) false::l)
theorem ajg(h:ad (ZT a b [.b (c != 0) true])):
 al 273 [.agg (bt a b c A)] [ai false]:=
 h.of
def ZU(a b c:Int)(l:List O):List O:=ZT a b (.b (c != 0) false::l)
theorem ajh(h:ad (ZU a b c [.b (decide ((A.length:Int)>2)) true])):
 al 273 [.agg (bt a b c A)] [ai false]:=
 h.of
def Hy(a b c:Int)(A:ae)(l:List O):List O:=ZU a b c (.b (decide ((A.length:Int)>2)) false::l)
def ZV(a b c:Int)(A:ae)(l:List O):List O:=Hy a b c A (.b (a==8) true::l)
theorem aji(h:ad (ZV a b c A [.b (decide ((A.length:Int)>0)) true])):
 al 273 [.agg (bt a b c A)] [ai false]:=
 h.of
def PU(a b c:Int)(A:ae)(l:List O):List O:=ZV a b c A (.b (decide ((A.length:Int)>0)) false::l)
def PV(a b c:Int)(A:ae)(d e:Int)(l:List O):List O:=PU a b c A (.b ((A.length:Int)==2) true::.p ((0:Int)<=0)::.p (0<(A.length:Int))::.e A 0 [I d]::.p ((0:Int)<=1)::.p (1<(A.length:Int))::.e A 1 [I e]::l)
theorem ajj(h:ad (PV a b c A d e [.b (d==e) true])):
 al 273 [.agg (bt a b c A)] [ai false]:=
 h.of
theorem ajk(h:ad (PV a b c A d e [.b (d==e) false,.l [] [93,92,91] [] (ar Tryz.f273 0) (dR A 0) .ret (hl q)])):
 al 273 [.agg (bt a b c A)] [ai q]:=
 h.of
theorem ajl(h:ad (PV a b c A d e [.b (d==e) false,.l [] [93,92,91] [] (ar Tryz.f273 0) (dR A 0) (.exit 1) hB])):
 al 273 [.agg (bt a b c A)] [ai true]:=
 h.of
theorem ajm(h:ad (PU a b c A [.b ((A.length:Int)==2) false,.l [] [93,92,91] [] (ar Tryz.f273 0) (dR A 0) .ret (hl q)])):
 al 273 [.agg (bt a b c A)] [ai q]:=
 h.of
theorem ajn(h:ad (PU a b c A [.b ((A.length:Int)==2) false,.l [] [93,92,91] [] (ar Tryz.f273 0) (dR A 0) (.exit 1) hB])):
 al 273 [.agg (bt a b c A)] [ai true]:=
 h.of
def PW(a b c:Int)(A:ae)(d e:Int)(l:List O):List O:=Hy a b c A (.b (a==8) false::.b ((A.length:Int)==2) true::.p ((0:Int)<=0)::.p (0<(A.length:Int))::.e A 0 [I d]::.p ((0:Int)<=1)::.p (1<(A.length:Int))::.e A 1 [I e]::l)
theorem ajo(h:ad (PW a b c A d e [.b (d==e) true])):
 al 273 [.agg (bt a b c A)] [ai false]:=
 h.of
theorem ajp(h:ad (PW a b c A d e [.b (d==e) false,.l [] [93,92,91] [] (ar Tryz.f273 0) (dR A 0) .ret (hl q)])):
 al 273 [.agg (bt a b c A)] [ai q]:=
 h.of
theorem ajq(h:ad (PW a b c A d e [.b (d==e) false,.l [] [93,92,91] [] (ar Tryz.f273 0) (dR A 0) (.exit 1) hB])):
 al 273 [.agg (bt a b c A)] [ai true]:=
 h.of
theorem ajr(h:ad (Hy a b c A [.b (a==8) false,.b ((A.length:Int)==2) false,.l [] [93,92,91] [] (ar Tryz.f273 0) (dR A 0) .ret (hl q)])):
 al 273 [.agg (bt a b c A)] [ai q]:=
 h.of
theorem ajs(h:ad (Hy a b c A [.b (a==8) false,.b ((A.length:Int)==2) false,.l [] [93,92,91] [] (ar Tryz.f273 0) (dR A 0) (.exit 1) hB])):
 al 273 [.agg (bt a b c A)] [ai true]:=
 h.of
def ZW(a:Int)(l:List O):List O:=ZR a (.b (a==7) false::l)
def ZX(a:Int)(l:List O):List O:=ZW a (.b (a==8) true::l)
theorem ajt(h:ad (ZX a [.b (b != 0) true])):
 al 273 [.agg (bt a b c A)] [ai false]:=
 h.of
def ZY(a b:Int)(l:List O):List O:=ZX a (.b (b != 0) false::l)
theorem aju(h:ad (ZY a b [.b (c != 0) true])):
 al 273 [.agg (bt a b c A)] [ai false]:=
 h.of
def ZZ(a b c:Int)(l:List O):List O:=ZY a b (.b (c != 0) false::l)
theorem ajv(h:ad (ZZ a b c [.b (decide ((A.length:Int)>2)) true])):
 al 273 [.agg (bt a b c A)] [ai false]:=
 h.of
def Z0(a b c:Int)(A:ae)(l:List O):List O:=ZZ a b c (.b (decide ((A.length:Int)>2)) false::.b (a==8) true::l)
theorem ajw(h:ad (Z0 a b c A [.b (decide ((A.length:Int)>0)) true])):
 al 273 [.agg (bt a b c A)] [ai false]:=
 h.of
def PX(a b c:Int)(A:ae)(l:List O):List O:=Z0 a b c A (.b (decide ((A.length:Int)>0)) false::l)
def PY(a b c:Int)(A:ae)(d e:Int)(l:List O):List O:=PX a b c A (.b ((A.length:Int)==2) true::.p ((0:Int)<=0)::.p (0<(A.length:Int))::.e A 0 [I d]::.p ((0:Int)<=1)::.p (1<(A.length:Int))::.e A 1 [I e]::l)
theorem ajx(h:ad (PY a b c A d e [.b (d==e) true])):
 al 273 [.agg (bt a b c A)] [ai false]:=
 h.of
theorem aiY(h:ad (PY a b c A d e [.b (d==e) false,.l [] [93,92,91] [] (ar Tryz.f273 0) (dR A 0) .ret (hl q)])):
 al 273 [.agg (bt a b c A)] [ai q]:=
 h.of
theorem aiZ(h:ad (PY a b c A d e [.b (d==e) false,.l [] [93,92,91] [] (ar Tryz.f273 0) (dR A 0) (.exit 1) hB])):
 al 273 [.agg (bt a b c A)] [ai true]:=
 h.of
theorem ai0(h:ad (PX a b c A [.b ((A.length:Int)==2) false,.l [] [93,92,91] [] (ar Tryz.f273 0) (dR A 0) .ret (hl q)])):
 al 273 [.agg (bt a b c A)] [ai q]:=
 h.of
theorem ai1(h:ad (PX a b c A [.b ((A.length:Int)==2) false,.l [] [93,92,91] [] (ar Tryz.f273 0) (dR A 0) (.exit 1) hB])):
 al 273 [.agg (bt a b c A)] [ai true]:=
 h.of
theorem ai2(h:ad (ZW a [.b (a==8) false])):
 al 273 [.agg (bt a b c A)] [ai false]:=
 h.of
