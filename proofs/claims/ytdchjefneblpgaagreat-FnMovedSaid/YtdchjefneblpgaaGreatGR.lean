import Derived.Test.YtdchjefneblpgaaGreatGE
set_option linter.unusedVariables false
set_option linter.unusedSimpArgs false
namespace Go.Proofs.YtdchjefneblpgaaGreat
open Go.Sx Go.RowKit
variable {a b c d e f g : Int} {A : af} {q r s t : Bool}
def Uw(a:Int)(l:List O):List O:=.b (a==2) true::l
def Ux(a b:Int)(q r:Bool)(l:List O):List O:=Uw a (.r 168 [ae b,ae 0,ae 999] [ao q]::.r 168 [ae a,ae 1,ae 8] [ao r]::l)
theorem apV(h:ad (Ux a b r q [.n q true])):
 av 243 [.agg (bk a b c A)] [ao false]:=
 h.of
def LB(a b:Int)(q r:Bool)(l:List O):List O:=Ux a b q r (.n r false::l)
theorem apW(h:ad (LB a b q r [.n q true])):
 av 243 [.agg (bk a b c A)] [ao false]:=
 h.of
theorem apX(h:ad (LB a b q r [.n q false,.b (!c==0) true])):
 av 243 [.agg (bk a b c A)] [ao false]:=
 h.of
def Uy(a b:Int)(q r:Bool)(c:Int)(l:List O):List O:=LB a b q r (.n q false::.b (!c==0) false::l)
theorem apY(h:ad (Uy a b q r c [.b (decide ((A.length:Int)>2)) true])):
 av 243 [.agg (bk a b c A)] [ao false]:=
 h.of
def A0(a b:Int)(q r:Bool)(c:Int)(A:af)(l:List O):List O:=Uy a b q r c (.b (decide ((A.length:Int)>2)) false::l)
theorem apZ(h:ad (A0 a b q r c A [.b (a==8) true,.b (decide ((A.length:Int)>0)) true])):
 av 243 [.agg (bk a b c A)] [ao false]:=
 h.of
def hE(a b c:Int)(A:af)(d:Int):aH:=bj 93 [(1,aR 1),(5,aZ d)] [(1,[aw a,aw b,aw c,.J .free 1 A])]
def p3(q:Bool):aH:=bj 93 [(2,.aJ (.one (.bc q)))] []
def LK(A:af)(a b:Int)(q:Bool)(l:List O):List O:=.i A a [I b]::.r 168 [ae b,ae 0,ae 7] [ao q]::l
theorem JE(h:ad (LK A a b q [.n q true])):
 a1 (ar Tryz.f243 0) (hE c d e A a) .ret (p3 false):=
 h.aW [2] []
def UI(A:af)(a b:Int)(q:Bool)(c d:Int)(l:List O):List O:=LK A a b q (.n q false::.b (decide (a>0)) true::.p ((0:Int)<=0)::.p (0<(A.length:Int))::.e A 0 [I c]::.p ((0:Int)<=1)::.p (1<(A.length:Int))::.e A 1 [I d]::l)
theorem ap0(h:ad (UI A a c q d b [.b (d==b) true])):
 a1 (ar Tryz.f243 0) (hE e f g A a) .ret (p3 false):=
 h.aW [2] []
theorem apa(h:ad (UI A a f q g d [.b (g==d) false,.u a])):
 a1 (ar Tryz.f243 0) (hE b c e A a) .normal (hE b c e A (a+1)):=
 h.aW [5,1] [1]
theorem QQ(h:ad (LK A a e q [.n q false,.b (decide (a>0)) false,.u a])):
 a1 (ar Tryz.f243 0) (hE b c d A a) .normal (hE b c d A (a+1)):=
 h.aW [5,1] [1]
def qQ:aH:=bj 93 [] []
theorem JF(h:ad [.f A a false]):
 a1 (ar Tryz.f243 0) (hE b c d A a) (.exit 1) qQ:=
 h.aW [] []
theorem apb(h:ad (A0 a b q r c A [.b (a==8) true,.b (decide ((A.length:Int)>0)) false,.l [] [5,1] [1] (ar Tryz.f243 0) (hE a b c A 0) .ret (p3 s)])):
 av 243 [.agg (bk a b c A)] [ao s]:=
 h.of
theorem apc(h:ad (A0 a b q r c A [.b (a==8) true,.b (decide ((A.length:Int)>0)) false,.l [] [5,1] [1] (ar Tryz.f243 0) (hE a b c A 0) (.exit 1) qQ])):
 av 243 [.agg (bk a b c A)] [ao true]:=
 h.of
theorem apd(h:ad (A0 a b q r c A [.b (a==8) false,.l [] [5,1] [1] (ar Tryz.f243 0) (hE a b c A 0) .ret (p3 s)])):
 av 243 [.agg (bk a b c A)] [ao s]:=
 h.of
theorem ape(h:ad (A0 a b q r c A [.b (a==8) false,.l [] [5,1] [1] (ar Tryz.f243 0) (hE a b c A 0) (.exit 1) qQ])):
 av 243 [.agg (bk a b c A)] [ao true]:=
 h.of
def UJ(a:Int)(l:List O):List O:=.b (a==2) false::l
def UK(a:Int)(l:List O):List O:=UJ a (.b (a==3) true::l)
def LR(a b:Int)(q:Bool)(c:Int)(r s:Bool)(l:List O):List O:=UK a (.r 168 [ae b,ae 1,ae 10] [ao q]::.a .wr::.r 168 [ae c,ae 0,ae (IntKind.i64.wrap (b-1))] [ao r]::.r 168 [ae a,ae 1,ae 8] [ao s]::l)
theorem apf(h:ad (LR a b r c s q [.n q true])):
 av 243 [.agg (bk a b c A)] [ao false]:=
 h.of
theorem apg(h:ad (LR a b q c s r [.n r false,.n q true])):
 av 243 [.agg (bk a b c A)] [ao false]:=
 h.of
def LS(a b:Int)(q:Bool)(c:Int)(r s:Bool)(l:List O):List O:=LR a b q c r s (.n s false::.n q false::l)
theorem aph(h:ad (LS a b q c r s [.n r true])):
 av 243 [.agg (bk a b c A)] [ao false]:=
 h.of
theorem api(h:ad (LS a b q c r s [.n r false,.b (decide ((A.length:Int)>2)) true])):
 av 243 [.agg (bk a b c A)] [ao false]:=
 h.of
def Ba(a b:Int)(q:Bool)(c:Int)(r s:Bool)(A:af)(l:List O):List O:=LS a b q c r s (.n r false::.b (decide ((A.length:Int)>2)) false::l)
theorem apj(h:ad (Ba a b q c r s A [.b (a==8) true,.b (decide ((A.length:Int)>0)) true])):
 av 243 [.agg (bk a b c A)] [ao false]:=
 h.of
theorem apk(h:ad (Ba a b q c r s A [.b (a==8) true,.b (decide ((A.length:Int)>0)) false,.l [] [5,1] [1] (ar Tryz.f243 0) (hE a b c A 0) .ret (p3 t)])):
 av 243 [.agg (bk a b c A)] [ao t]:=
 h.of
theorem apl(h:ad (Ba a b q c r s A [.b (a==8) true,.b (decide ((A.length:Int)>0)) false,.l [] [5,1] [1] (ar Tryz.f243 0) (hE a b c A 0) (.exit 1) qQ])):
 av 243 [.agg (bk a b c A)] [ao true]:=
 h.of
theorem apm(h:ad (Ba a b q c r s A [.b (a==8) false,.l [] [5,1] [1] (ar Tryz.f243 0) (hE a b c A 0) .ret (p3 t)])):
 av 243 [.agg (bk a b c A)] [ao t]:=
 h.of
theorem apn(h:ad (Ba a b q c r s A [.b (a==8) false,.l [] [5,1] [1] (ar Tryz.f243 0) (hE a b c A 0) (.exit 1) qQ])):
 av 243 [.agg (bk a b c A)] [ao true]:=
 h.of
def U5(a:Int)(l:List O):List O:=UJ a (.b (a==3) false::l)
def U6(a:Int)(l:List O):List O:=U5 a (.b (a==4) true::l)
def U7(a b:Int)(q r:Bool)(l:List O):List O:=U6 a (.r 168 [ae b,ae 0,ae 99] [ao q]::.r 168 [ae a,ae 1,ae 8] [ao r]::l)
theorem apo(h:ad (U7 a b r q [.n q true])):
 av 243 [.agg (bk a b c A)] [ao false]:=
 h.of
def LX(a b:Int)(q r:Bool)(l:List O):List O:=U7 a b q r (.n r false::l)
theorem apq(h:ad (LX a b q r [.n q true])):
 av 243 [.agg (bk a b c A)] [ao false]:=
 h.of
theorem apr(h:ad (LX a b q r [.n q false,.b (!c==0) true])):
 av 243 [.agg (bk a b c A)] [ao false]:=
 h.of
def U8(a b:Int)(q r:Bool)(c:Int)(l:List O):List O:=LX a b q r (.n q false::.b (!c==0) false::l)
theorem aps(h:ad (U8 a b q r c [.b (decide ((A.length:Int)>2)) true])):
 av 243 [.agg (bk a b c A)] [ao false]:=
 h.of
def Bc(a b:Int)(q r:Bool)(c:Int)(A:af)(l:List O):List O:=U8 a b q r c (.b (decide ((A.length:Int)>2)) false::l)
theorem apt(h:ad (Bc a b q r c A [.b (a==8) true,.b (decide ((A.length:Int)>0)) true])):
 av 243 [.agg (bk a b c A)] [ao false]:=
 h.of
theorem apu(h:ad (Bc a b q r c A [.b (a==8) true,.b (decide ((A.length:Int)>0)) false,.l [] [5,1] [1] (ar Tryz.f243 0) (hE a b c A 0) .ret (p3 s)])):
 av 243 [.agg (bk a b c A)] [ao s]:=
 h.of
theorem apv(h:ad (Bc a b q r c A [.b (a==8) true,.b (decide ((A.length:Int)>0)) false,.l [] [5,1] [1] (ar Tryz.f243 0) (hE a b c A 0) (.exit 1) qQ])):
 av 243 [.agg (bk a b c A)] [ao true]:=
 h.of
theorem apw(h:ad (Bc a b q r c A [.b (a==8) false,.l [] [5,1] [1] (ar Tryz.f243 0) (hE a b c A 0) .ret (p3 s)])):
 av 243 [.agg (bk a b c A)] [ao s]:=
 h.of
theorem apx(h:ad (Bc a b q r c A [.b (a==8) false,.l [] [5,1] [1] (ar Tryz.f243 0) (hE a b c A 0) (.exit 1) qQ])):
 av 243 [.agg (bk a b c A)] [ao true]:=
 h.of
def L1(a:Int)(l:List O):List O:=U5 a (.b (a==4) false::l)
def Vb(a:Int)(q:Bool)(l:List O):List O:=L1 a (.r 168 [ae a,ae 1,ae 8] [ao q]::l)
theorem apy(h:ad (Vb a q [.n q true])):
 av 243 [.agg (bk a b c A)] [ao false]:=
 h.of
def Vc(a:Int)(q:Bool)(l:List O):List O:=Vb a q (.n q false::l)
theorem apz(h:ad (Vc a q [.b (!b==0) true])):
 av 243 [.agg (bk a b c A)] [ao false]:=
 h.of
def UL(a:Int)(q:Bool)(b:Int)(l:List O):List O:=Vc a q (.b (!b==0) false::l)
theorem apA(h:ad (UL a q b [.b (!c==0) true])):
 av 243 [.agg (bk a b c A)] [ao false]:=
 h.of
def UM(a:Int)(q:Bool)(b c:Int)(l:List O):List O:=UL a q b (.b (!c==0) false::l)
theorem ao0(h:ad (UM a q b c [.b (decide ((A.length:Int)>2)) true])):
 av 243 [.agg (bk a b c A)] [ao false]:=
 h.of
def A'(a:Int)(q:Bool)(b c:Int)(A:af)(l:List O):List O:=UM a q b c (.b (decide ((A.length:Int)>2)) false::l)
theorem ao1(h:ad (A' a q b c A [.b (a==8) true,.b (decide ((A.length:Int)>0)) true])):
 av 243 [.agg (bk a b c A)] [ao false]:=
 h.of
theorem ao2(h:ad (A' a q b c A [.b (a==8) true,.b (decide ((A.length:Int)>0)) false,.l [] [5,1] [1] (ar Tryz.f243 0) (hE a b c A 0) .ret (p3 r)])):
 av 243 [.agg (bk a b c A)] [ao r]:=
 h.of
theorem ao3(h:ad (A' a q b c A [.b (a==8) true,.b (decide ((A.length:Int)>0)) false,.l [] [5,1] [1] (ar Tryz.f243 0) (hE a b c A 0) (.exit 1) qQ])):
 av 243 [.agg (bk a b c A)] [ao true]:=
 h.of
theorem ao4(h:ad (A' a q b c A [.b (a==8) false,.l [] [5,1] [1] (ar Tryz.f243 0) (hE a b c A 0) .ret (p3 r)])):
 av 243 [.agg (bk a b c A)] [ao r]:=
 h.of
theorem ao5(h:ad (A' a q b c A [.b (a==8) false,.l [] [5,1] [1] (ar Tryz.f243 0) (hE a b c A 0) (.exit 1) qQ])):
 av 243 [.agg (bk a b c A)] [ao true]:=
 h.of
def Uz(a b:Int)(q:Bool)(l:List O):List O:=Uw a (.r 190 [ae b,ae 0,ae 999] [ao q]::l)
theorem ao6(h:ad (Uz a b q [.n q true])):
 av 273 [.agg (bk a b c A)] [ao false]:=
 h.of
def ER(a b:Int)(q:Bool)(l:List O):List O:=Uz a b q (.n q false::l)
theorem ao7(h:ad (ER a b q [.b (c != 0) true])):
 av 273 [.agg (bk a b c A)] [ao false]:=
 h.of
def UH(a b:Int)(q:Bool)(c:Int)(l:List O):List O:=ER a b q (.b (c != 0) false::l)
theorem ao8(h:ad (UH a b q c [.b (decide ((A.length:Int)>2)) true])):
 av 273 [.agg (bk a b c A)] [ao false]:=
 h.of
def A7(a b:Int)(q:Bool)(c:Int)(A:af)(l:List O):List O:=UH a b q c (.b (decide ((A.length:Int)>2)) false::l)
theorem ao9(h:ad (A7 a b q c A [.b (a==8) true,.b (decide ((A.length:Int)>0)) true])):
 av 273 [.agg (bk a b c A)] [ao false]:=
 h.of
def A8(a b:Int)(q:Bool)(c:Int)(A:af)(l:List O):List O:=A7 a b q c A (.b (a==8) true::.b (decide ((A.length:Int)>0)) false::l)
def A9(a b:Int)(q:Bool)(c:Int)(A:af)(d e:Int)(l:List O):List O:=A8 a b q c A (.b ((A.length:Int)==2) true::.p ((0:Int)<=0)::.p (0<(A.length:Int))::.e A 0 [I d]::.p ((0:Int)<=1)::.p (1<(A.length:Int))::.e A 1 [I e]::l)
theorem aqB(h:ad (A9 a b q c A d e [.b (d==e) true])):
 av 273 [.agg (bk a b c A)] [ao false]:=
 h.of
def dr(A:af)(a:Int):aH:=bj 101 [(91,dJ 1 A),(92,aZ (A.length:Int)),(93,aZ a)] []
def fZ(q:Bool):aH:=bj 101 [(2,.aJ (.one (.bc q)))] []
theorem aqC(h:ad [.i A a [I b],.r 190 [ae b,ae 0,ae 7] [ao q],.n q true]):
 a1 (ar Tryz.f273 0) (dr A a) .ret (fZ false):=
 h.aW [2] []
theorem aqD(h:ad [.i A a [I b],.r 190 [ae b,ae 0,ae 7] [ao q],.n q false,.u a]):
 a1 (ar Tryz.f273 0) (dr A a) .normal (dr A (a+1)):=
 h.aW [93,92,91] []
def gk:aH:=bj 101 [] []
theorem aqE(h:ad [.f A a false]):
 a1 (ar Tryz.f273 0) (dr A a) (.exit 1) gk:=
 h.aW [] []
theorem aqF(h:ad (A9 a b q c A d e [.b (d==e) false,.l [] [93,92,91] [] (ar Tryz.f273 0) (dr A 0) .ret (fZ r)])):
 av 273 [.agg (bk a b c A)] [ao r]:=
 h.of
theorem aqG(h:ad (A9 a b q c A d e [.b (d==e) false,.l [] [93,92,91] [] (ar Tryz.f273 0) (dr A 0) (.exit 1) gk])):
 av 273 [.agg (bk a b c A)] [ao true]:=
 h.of
theorem aqH(h:ad (A8 a b q c A [.b ((A.length:Int)==2) false,.l [] [93,92,91] [] (ar Tryz.f273 0) (dr A 0) .ret (fZ r)])):
 av 273 [.agg (bk a b c A)] [ao r]:=
 h.of
theorem aqI(h:ad (A8 a b q c A [.b ((A.length:Int)==2) false,.l [] [93,92,91] [] (ar Tryz.f273 0) (dr A 0) (.exit 1) gk])):
 av 273 [.agg (bk a b c A)] [ao true]:=
 h.of
def LJ(a b:Int)(q:Bool)(c:Int)(A:af)(d e:Int)(l:List O):List O:=A7 a b q c A (.b (a==8) false::.b ((A.length:Int)==2) true::.p ((0:Int)<=0)::.p (0<(A.length:Int))::.e A 0 [I d]::.p ((0:Int)<=1)::.p (1<(A.length:Int))::.e A 1 [I e]::l)
theorem aqJ(h:ad (LJ a b q c A d e [.b (d==e) true])):
 av 273 [.agg (bk a b c A)] [ao false]:=
 h.of
theorem aqK(h:ad (LJ a b q c A d e [.b (d==e) false,.l [] [93,92,91] [] (ar Tryz.f273 0) (dr A 0) .ret (fZ r)])):
 av 273 [.agg (bk a b c A)] [ao r]:=
 h.of
theorem aqL(h:ad (LJ a b q c A d e [.b (d==e) false,.l [] [93,92,91] [] (ar Tryz.f273 0) (dr A 0) (.exit 1) gk])):
 av 273 [.agg (bk a b c A)] [ao true]:=
 h.of
theorem aqM(h:ad (A7 a b q c A [.b (a==8) false,.b ((A.length:Int)==2) false,.l [] [93,92,91] [] (ar Tryz.f273 0) (dr A 0) .ret (fZ r)])):
 av 273 [.agg (bk a b c A)] [ao r]:=
 h.of
theorem aqN(h:ad (A7 a b q c A [.b (a==8) false,.b ((A.length:Int)==2) false,.l [] [93,92,91] [] (ar Tryz.f273 0) (dr A 0) (.exit 1) gk])):
 av 273 [.agg (bk a b c A)] [ao true]:=
 h.of
def U2(a b:Int)(q:Bool)(l:List O):List O:=UK a (.r 190 [ae b,ae 1,ae 10] [ao q]::l)
theorem aqO(h:ad (U2 a b q [.n q true])):
 av 273 [.agg (bk a b c A)] [ao false]:=
 h.of
def U3(a b:Int)(q:Bool)(c:Int)(r:Bool)(l:List O):List O:=U2 a b q (.n q false::.a .wr::.r 190 [ae c,ae 0,ae (IntKind.i64.wrap (b-1))] [ao r]::l)
theorem aqP(h:ad (U3 a b q c r [.n r true])):
 av 273 [.agg (bk a b c A)] [ao false]:=
 h.of
def U4(a b:Int)(q:Bool)(c:Int)(r:Bool)(l:List O):List O:=U3 a b q c r (.n r false::l)
theorem aqQ(h:ad (U4 a b q c r [.b (decide ((A.length:Int)>2)) true])):
 av 273 [.agg (bk a b c A)] [ao false]:=
 h.of
def Bb(a b:Int)(q:Bool)(c:Int)(r:Bool)(A:af)(l:List O):List O:=U4 a b q c r (.b (decide ((A.length:Int)>2)) false::l)
theorem aqR(h:ad (Bb a b q c r A [.b (a==8) true,.b (decide ((A.length:Int)>0)) true])):
 av 273 [.agg (bk a b c A)] [ao false]:=
 h.of
def LU(a b:Int)(q:Bool)(c:Int)(r:Bool)(A:af)(l:List O):List O:=Bb a b q c r A (.b (a==8) true::.b (decide ((A.length:Int)>0)) false::l)
def LV(a b:Int)(q:Bool)(c:Int)(r:Bool)(A:af)(d e:Int)(l:List O):List O:=LU a b q c r A (.b ((A.length:Int)==2) true::.p ((0:Int)<=0)::.p (0<(A.length:Int))::.e A 0 [I d]::.p ((0:Int)<=1)::.p (1<(A.length:Int))::.e A 1 [I e]::l)
theorem aqS(h:ad (LV a b q c r A d e [.b (d==e) true])):
 av 273 [.agg (bk a b c A)] [ao false]:=
 h.of
theorem aqT(h:ad (LV a b q c r A d e [.b (d==e) false,.l [] [93,92,91] [] (ar Tryz.f273 0) (dr A 0) .ret (fZ s)])):
 av 273 [.agg (bk a b c A)] [ao s]:=
 h.of
theorem aqU(h:ad (LV a b q c r A d e [.b (d==e) false,.l [] [93,92,91] [] (ar Tryz.f273 0) (dr A 0) (.exit 1) gk])):
 av 273 [.agg (bk a b c A)] [ao true]:=
 h.of
theorem aqV(h:ad (LU a b q c r A [.b ((A.length:Int)==2) false,.l [] [93,92,91] [] (ar Tryz.f273 0) (dr A 0) .ret (fZ s)])):
 av 273 [.agg (bk a b c A)] [ao s]:=
 h.of
theorem aqW(h:ad (LU a b q c r A [.b ((A.length:Int)==2) false,.l [] [93,92,91] [] (ar Tryz.f273 0) (dr A 0) (.exit 1) gk])):
 av 273 [.agg (bk a b c A)] [ao true]:=
 h.of
def LW(a b:Int)(q:Bool)(c:Int)(r:Bool)(A:af)(d e:Int)(l:List O):List O:=Bb a b q c r A (.b (a==8) false::.b ((A.length:Int)==2) true::.p ((0:Int)<=0)::.p (0<(A.length:Int))::.e A 0 [I d]::.p ((0:Int)<=1)::.p (1<(A.length:Int))::.e A 1 [I e]::l)
theorem aqX(h:ad (LW a b q c r A d e [.b (d==e) true])):
 av 273 [.agg (bk a b c A)] [ao false]:=
 h.of
theorem aqY(h:ad (LW a b q c r A d e [.b (d==e) false,.l [] [93,92,91] [] (ar Tryz.f273 0) (dr A 0) .ret (fZ s)])):
 av 273 [.agg (bk a b c A)] [ao s]:=
 h.of
theorem aqZ(h:ad (LW a b q c r A d e [.b (d==e) false,.l [] [93,92,91] [] (ar Tryz.f273 0) (dr A 0) (.exit 1) gk])):
 av 273 [.agg (bk a b c A)] [ao true]:=
 h.of
theorem aq0(h:ad (Bb a b q c r A [.b (a==8) false,.b ((A.length:Int)==2) false,.l [] [93,92,91] [] (ar Tryz.f273 0) (dr A 0) .ret (fZ s)])):
 av 273 [.agg (bk a b c A)] [ao s]:=
 h.of
theorem aqb(h:ad (Bb a b q c r A [.b (a==8) false,.b ((A.length:Int)==2) false,.l [] [93,92,91] [] (ar Tryz.f273 0) (dr A 0) (.exit 1) gk])):
 av 273 [.agg (bk a b c A)] [ao true]:=
 h.of
def U9(a b:Int)(q:Bool)(l:List O):List O:=U6 a (.r 190 [ae b,ae 0,ae 99] [ao q]::l)
theorem aqc(h:ad (U9 a b q [.n q true])):
 av 273 [.agg (bk a b c A)] [ao false]:=
 h.of
def U'(a b:Int)(q:Bool)(l:List O):List O:=U9 a b q (.n q false::l)
theorem aqd(h:ad (U' a b q [.b (c != 0) true])):
 av 273 [.agg (bk a b c A)] [ao false]:=
 h.of
def Va(a b:Int)(q:Bool)(c:Int)(l:List O):List O:=U' a b q (.b (c != 0) false::l)
theorem aqe(h:ad (Va a b q c [.b (decide ((A.length:Int)>2)) true])):
 av 273 [.agg (bk a b c A)] [ao false]:=
 h.of
def Bd(a b:Int)(q:Bool)(c:Int)(A:af)(l:List O):List O:=Va a b q c (.b (decide ((A.length:Int)>2)) false::l)
theorem aqf(h:ad (Bd a b q c A [.b (a==8) true,.b (decide ((A.length:Int)>0)) true])):
 av 273 [.agg (bk a b c A)] [ao false]:=
 h.of
def LY(a b:Int)(q:Bool)(c:Int)(A:af)(l:List O):List O:=Bd a b q c A (.b (a==8) true::.b (decide ((A.length:Int)>0)) false::l)
def LZ(a b:Int)(q:Bool)(c:Int)(A:af)(d e:Int)(l:List O):List O:=LY a b q c A (.b ((A.length:Int)==2) true::.p ((0:Int)<=0)::.p (0<(A.length:Int))::.e A 0 [I d]::.p ((0:Int)<=1)::.p (1<(A.length:Int))::.e A 1 [I e]::l)
theorem aqg(h:ad (LZ a b q c A d e [.b (d==e) true])):
 av 273 [.agg (bk a b c A)] [ao false]:=
 h.of
theorem aqh(h:ad (LZ a b q c A d e [.b (d==e) false,.l [] [93,92,91] [] (ar Tryz.f273 0) (dr A 0) .ret (fZ r)])):
 av 273 [.agg (bk a b c A)] [ao r]:=
 h.of
theorem aqi(h:ad (LZ a b q c A d e [.b (d==e) false,.l [] [93,92,91] [] (ar Tryz.f273 0) (dr A 0) (.exit 1) gk])):
 av 273 [.agg (bk a b c A)] [ao true]:=
 h.of
theorem aqj(h:ad (LY a b q c A [.b ((A.length:Int)==2) false,.l [] [93,92,91] [] (ar Tryz.f273 0) (dr A 0) .ret (fZ r)])):
 av 273 [.agg (bk a b c A)] [ao r]:=
 h.of
theorem aqk(h:ad (LY a b q c A [.b ((A.length:Int)==2) false,.l [] [93,92,91] [] (ar Tryz.f273 0) (dr A 0) (.exit 1) gk])):
 av 273 [.agg (bk a b c A)] [ao true]:=
 h.of
def L0(a b:Int)(q:Bool)(c:Int)(A:af)(d e:Int)(l:List O):List O:=Bd a b q c A (.b (a==8) false::.b ((A.length:Int)==2) true::.p ((0:Int)<=0)::.p (0<(A.length:Int))::.e A 0 [I d]::.p ((0:Int)<=1)::.p (1<(A.length:Int))::.e A 1 [I e]::l)
theorem aql(h:ad (L0 a b q c A d e [.b (d==e) true])):
 av 273 [.agg (bk a b c A)] [ao false]:=
 h.of
theorem aqm(h:ad (L0 a b q c A d e [.b (d==e) false,.l [] [93,92,91] [] (ar Tryz.f273 0) (dr A 0) .ret (fZ r)])):
 av 273 [.agg (bk a b c A)] [ao r]:=
 h.of
theorem aqn(h:ad (L0 a b q c A d e [.b (d==e) false,.l [] [93,92,91] [] (ar Tryz.f273 0) (dr A 0) (.exit 1) gk])):
 av 273 [.agg (bk a b c A)] [ao true]:=
 h.of
theorem aqo(h:ad (Bd a b q c A [.b (a==8) false,.b ((A.length:Int)==2) false,.l [] [93,92,91] [] (ar Tryz.f273 0) (dr A 0) .ret (fZ r)])):
 av 273 [.agg (bk a b c A)] [ao r]:=
 h.of
theorem aqp(h:ad (Bd a b q c A [.b (a==8) false,.b ((A.length:Int)==2) false,.l [] [93,92,91] [] (ar Tryz.f273 0) (dr A 0) (.exit 1) gk])):
 av 273 [.agg (bk a b c A)] [ao true]:=
 h.of
def UN(a:Int)(l:List O):List O:=L1 a (.b (a==1) true::.b (a==1) true::l)
theorem aqq(h:ad (UN a [.b (b != 0) true])):
 av 273 [.agg (bk a b c A)] [ao false]:=
 h.of
def UO(a b:Int)(l:List O):List O:=UN a (.b (b != 0) false::l)
theorem aqr(h:ad (UO a b [.b (c != 0) true])):
 av 273 [.agg (bk a b c A)] [ao false]:=
 h.of
def UP(a b c:Int)(l:List O):List O:=UO a b (.b (c != 0) false::l)
theorem aqs(h:ad (UP a b c [.b (decide ((A.length:Int)>2)) true])):
 av 273 [.agg (bk a b c A)] [ao false]:=
 h.of
def ES(a b c:Int)(A:af)(l:List O):List O:=UP a b c (.b (decide ((A.length:Int)>2)) false::l)
def UQ(a b c:Int)(A:af)(l:List O):List O:=ES a b c A (.b (a==8) true::l)
theorem aqt(h:ad (UQ a b c A [.b (decide ((A.length:Int)>0)) true])):
 av 273 [.agg (bk a b c A)] [ao false]:=
 h.of
def LL(a b c:Int)(A:af)(l:List O):List O:=UQ a b c A (.b (decide ((A.length:Int)>0)) false::l)
def LM(a b c:Int)(A:af)(d e:Int)(l:List O):List O:=LL a b c A (.b ((A.length:Int)==2) true::.p ((0:Int)<=0)::.p (0<(A.length:Int))::.e A 0 [I d]::.p ((0:Int)<=1)::.p (1<(A.length:Int))::.e A 1 [I e]::l)
theorem aqu(h:ad (LM a b c A d e [.b (d==e) true])):
 av 273 [.agg (bk a b c A)] [ao false]:=
 h.of
theorem aqv(h:ad (LM a b c A d e [.b (d==e) false,.l [] [93,92,91] [] (ar Tryz.f273 0) (dr A 0) .ret (fZ q)])):
 av 273 [.agg (bk a b c A)] [ao q]:=
 h.of
theorem aqw(h:ad (LM a b c A d e [.b (d==e) false,.l [] [93,92,91] [] (ar Tryz.f273 0) (dr A 0) (.exit 1) gk])):
 av 273 [.agg (bk a b c A)] [ao true]:=
 h.of
theorem aqx(h:ad (LL a b c A [.b ((A.length:Int)==2) false,.l [] [93,92,91] [] (ar Tryz.f273 0) (dr A 0) .ret (fZ q)])):
 av 273 [.agg (bk a b c A)] [ao q]:=
 h.of
theorem aqy(h:ad (LL a b c A [.b ((A.length:Int)==2) false,.l [] [93,92,91] [] (ar Tryz.f273 0) (dr A 0) (.exit 1) gk])):
 av 273 [.agg (bk a b c A)] [ao true]:=
 h.of
def LN(a b c:Int)(A:af)(d e:Int)(l:List O):List O:=ES a b c A (.b (a==8) false::.b ((A.length:Int)==2) true::.p ((0:Int)<=0)::.p (0<(A.length:Int))::.e A 0 [I d]::.p ((0:Int)<=1)::.p (1<(A.length:Int))::.e A 1 [I e]::l)
theorem aqz(h:ad (LN a b c A d e [.b (d==e) true])):
 av 273 [.agg (bk a b c A)] [ao false]:=
 h.of
theorem aqA(h:ad (LN a b c A d e [.b (d==e) false,.l [] [93,92,91] [] (ar Tryz.f273 0) (dr A 0) .ret (fZ q)])):
 av 273 [.agg (bk a b c A)] [ao q]:=
 h.of
theorem ap1(h:ad (LN a b c A d e [.b (d==e) false,.l [] [93,92,91] [] (ar Tryz.f273 0) (dr A 0) (.exit 1) gk])):
 av 273 [.agg (bk a b c A)] [ao true]:=
 h.of
theorem ap2(h:ad (ES a b c A [.b (a==8) false,.b ((A.length:Int)==2) false,.l [] [93,92,91] [] (ar Tryz.f273 0) (dr A 0) .ret (fZ q)])):
 av 273 [.agg (bk a b c A)] [ao q]:=
 h.of
theorem ap3(h:ad (ES a b c A [.b (a==8) false,.b ((A.length:Int)==2) false,.l [] [93,92,91] [] (ar Tryz.f273 0) (dr A 0) (.exit 1) gk])):
 av 273 [.agg (bk a b c A)] [ao true]:=
 h.of
def UR(a:Int)(l:List O):List O:=L1 a (.b (a==1) false::l)
def US(a:Int)(l:List O):List O:=UR a (.b (a==5) true::.b (a==5) true::l)
theorem ap4(h:ad (US a [.b (b != 0) true])):
 av 273 [.agg (bk a b c A)] [ao false]:=
 h.of
def UT(a b:Int)(l:List O):List O:=US a (.b (b != 0) false::l)
theorem ap5(h:ad (UT a b [.b (c != 0) true])):
 av 273 [.agg (bk a b c A)] [ao false]:=
 h.of
def UU(a b c:Int)(l:List O):List O:=UT a b (.b (c != 0) false::l)
theorem ap6(h:ad (UU a b c [.b (decide ((A.length:Int)>2)) true])):
 av 273 [.agg (bk a b c A)] [ao false]:=
 h.of
def ET(a b c:Int)(A:af)(l:List O):List O:=UU a b c (.b (decide ((A.length:Int)>2)) false::l)
def UW(a b c:Int)(A:af)(l:List O):List O:=ET a b c A (.b (a==8) true::l)
theorem ap7(h:ad (UW a b c A [.b (decide ((A.length:Int)>0)) true])):
 av 273 [.agg (bk a b c A)] [ao false]:=
 h.of
def LO(a b c:Int)(A:af)(l:List O):List O:=UW a b c A (.b (decide ((A.length:Int)>0)) false::l)
def LP(a b c:Int)(A:af)(d e:Int)(l:List O):List O:=LO a b c A (.b ((A.length:Int)==2) true::.p ((0:Int)<=0)::.p (0<(A.length:Int))::.e A 0 [I d]::.p ((0:Int)<=1)::.p (1<(A.length:Int))::.e A 1 [I e]::l)
theorem ap8(h:ad (LP a b c A d e [.b (d==e) true])):
 av 273 [.agg (bk a b c A)] [ao false]:=
 h.of
theorem ap9(h:ad (LP a b c A d e [.b (d==e) false,.l [] [93,92,91] [] (ar Tryz.f273 0) (dr A 0) .ret (fZ q)])):
 av 273 [.agg (bk a b c A)] [ao q]:=
 h.of
theorem aqa(h:ad (LP a b c A d e [.b (d==e) false,.l [] [93,92,91] [] (ar Tryz.f273 0) (dr A 0) (.exit 1) gk])):
 av 273 [.agg (bk a b c A)] [ao true]:=
 h.of
theorem arE(h:ad (LO a b c A [.b ((A.length:Int)==2) false,.l [] [93,92,91] [] (ar Tryz.f273 0) (dr A 0) .ret (fZ q)])):
 av 273 [.agg (bk a b c A)] [ao q]:=
 h.of
theorem arF(h:ad (LO a b c A [.b ((A.length:Int)==2) false,.l [] [93,92,91] [] (ar Tryz.f273 0) (dr A 0) (.exit 1) gk])):
 av 273 [.agg (bk a b c A)] [ao true]:=
 h.of
def LQ(a b c:Int)(A:af)(d e:Int)(l:List O):List O:=ET a b c A (.b (a==8) false::.b ((A.length:Int)==2) true::.p ((0:Int)<=0)::.p (0<(A.length:Int))::.e A 0 [I d]::.p ((0:Int)<=1)::.p (1<(A.length:Int))::.e A 1 [I e]::l)
theorem arG(h:ad (LQ a b c A d e [.b (d==e) true])):
 av 273 [.agg (bk a b c A)] [ao false]:=
 h.of
theorem arH(h:ad (LQ a b c A d e [.b (d==e) false,.l [] [93,92,91] [] (ar Tryz.f273 0) (dr A 0) .ret (fZ q)])):
 av 273 [.agg (bk a b c A)] [ao q]:=
 h.of
theorem arI(h:ad (LQ a b c A d e [.b (d==e) false,.l [] [93,92,91] [] (ar Tryz.f273 0) (dr A 0) (.exit 1) gk])):
 av 273 [.agg (bk a b c A)] [ao true]:=
 h.of
theorem arJ(h:ad (ET a b c A [.b (a==8) false,.b ((A.length:Int)==2) false,.l [] [93,92,91] [] (ar Tryz.f273 0) (dr A 0) .ret (fZ q)])):
 av 273 [.agg (bk a b c A)] [ao q]:=
 h.of
theorem arK(h:ad (ET a b c A [.b (a==8) false,.b ((A.length:Int)==2) false,.l [] [93,92,91] [] (ar Tryz.f273 0) (dr A 0) (.exit 1) gk])):
 av 273 [.agg (bk a b c A)] [ao true]:=
 h.of
def UX(a:Int)(l:List O):List O:=UR a (.b (a==5) false::l)
def UY(a:Int)(l:List O):List O:=UX a (.b (a==6) true::.b (a==6) true::l)
theorem arL(h:ad (UY a [.b (b != 0) true])):
 av 273 [.agg (bk a b c A)] [ao false]:=
 h.of
def UZ(a b:Int)(l:List O):List O:=UY a (.b (b != 0) false::l)
theorem arM(h:ad (UZ a b [.b (c != 0) true])):
 av 273 [.agg (bk a b c A)] [ao false]:=
 h.of
def U0(a b c:Int)(l:List O):List O:=UZ a b (.b (c != 0) false::l)
theorem arN(h:ad (U0 a b c [.b (decide ((A.length:Int)>2)) true])):
 av 273 [.agg (bk a b c A)] [ao false]:=
 h.of
def EU(a b c:Int)(A:af)(l:List O):List O:=U0 a b c (.b (decide ((A.length:Int)>2)) false::l)
def U1(a b c:Int)(A:af)(l:List O):List O:=EU a b c A (.b (a==8) true::l)
theorem arO(h:ad (U1 a b c A [.b (decide ((A.length:Int)>0)) true])):
 av 273 [.agg (bk a b c A)] [ao false]:=
 h.of
def L2(a b c:Int)(A:af)(l:List O):List O:=U1 a b c A (.b (decide ((A.length:Int)>0)) false::l)
def L3(a b c:Int)(A:af)(d e:Int)(l:List O):List O:=L2 a b c A (.b ((A.length:Int)==2) true::.p ((0:Int)<=0)::.p (0<(A.length:Int))::.e A 0 [I d]::.p ((0:Int)<=1)::.p (1<(A.length:Int))::.e A 1 [I e]::l)
theorem arP(h:ad (L3 a b c A d e [.b (d==e) true])):
 av 273 [.agg (bk a b c A)] [ao false]:=
 h.of
theorem arQ(h:ad (L3 a b c A d e [.b (d==e) false,.l [] [93,92,91] [] (ar Tryz.f273 0) (dr A 0) .ret (fZ q)])):
 av 273 [.agg (bk a b c A)] [ao q]:=
 h.of
theorem arR(h:ad (L3 a b c A d e [.b (d==e) false,.l [] [93,92,91] [] (ar Tryz.f273 0) (dr A 0) (.exit 1) gk])):
 av 273 [.agg (bk a b c A)] [ao true]:=
 h.of
theorem arS(h:ad (L2 a b c A [.b ((A.length:Int)==2) false,.l [] [93,92,91] [] (ar Tryz.f273 0) (dr A 0) .ret (fZ q)])):
 av 273 [.agg (bk a b c A)] [ao q]:=
 h.of
theorem arT(h:ad (L2 a b c A [.b ((A.length:Int)==2) false,.l [] [93,92,91] [] (ar Tryz.f273 0) (dr A 0) (.exit 1) gk])):
 av 273 [.agg (bk a b c A)] [ao true]:=
 h.of
def L4(a b c:Int)(A:af)(d e:Int)(l:List O):List O:=EU a b c A (.b (a==8) false::.b ((A.length:Int)==2) true::.p ((0:Int)<=0)::.p (0<(A.length:Int))::.e A 0 [I d]::.p ((0:Int)<=1)::.p (1<(A.length:Int))::.e A 1 [I e]::l)
theorem arU(h:ad (L4 a b c A d e [.b (d==e) true])):
 av 273 [.agg (bk a b c A)] [ao false]:=
 h.of
theorem arV(h:ad (L4 a b c A d e [.b (d==e) false,.l [] [93,92,91] [] (ar Tryz.f273 0) (dr A 0) .ret (fZ q)])):
 av 273 [.agg (bk a b c A)] [ao q]:=
 h.of
theorem arW(h:ad (L4 a b c A d e [.b (d==e) false,.l [] [93,92,91] [] (ar Tryz.f273 0) (dr A 0) (.exit 1) gk])):
 av 273 [.agg (bk a b c A)] [ao true]:=
 h.of
theorem arX(h:ad (EU a b c A [.b (a==8) false,.b ((A.length:Int)==2) false,.l [] [93,92,91] [] (ar Tryz.f273 0) (dr A 0) .ret (fZ q)])):
 av 273 [.agg (bk a b c A)] [ao q]:=
 h.of
theorem arY(h:ad (EU a b c A [.b (a==8) false,.b ((A.length:Int)==2) false,.l [] [93,92,91] [] (ar Tryz.f273 0) (dr A 0) (.exit 1) gk])):
 av 273 [.agg (bk a b c A)] [ao true]:=
 h.of
def Vd(a:Int)(l:List O):List O:=UX a (.b (a==6) false::l)
def Ve(a:Int)(l:List O):List O:=Vd a (.b (a==7) true::.b (a==7) true::l)
theorem arZ(h:ad (Ve a [.b (b != 0) true])):
 av 273 [.agg (bk a b c A)] [ao false]:=
 h.of
def EV(a b:Int)(l:List O):List O:=Ve a (.b (b != 0) false::l)
theorem ar0(h:ad (EV a b [.b (c != 0) true])):
 av 273 [.agg (bk a b c A)] [ao false]:=
 h.of
def EW(a b c:Int)(l:List O):List O:=EV a b (.b (c != 0) false::l)
theorem ar1(h:ad (EW a b c [.b (decide ((A.length:Int)>2)) true])):
 av 273 [.agg (bk a b c A)] [ao false]:=
 h.of
def EX(a b c:Int)(A:af)(l:List O):List O:=EW a b c (.b (decide ((A.length:Int)>2)) false::l)
def Vf(a b c:Int)(A:af)(l:List O):List O:=EX a b c A (.b (a==8) true::l)
theorem ar2(h:ad (Vf a b c A [.b (decide ((A.length:Int)>0)) true])):
 av 273 [.agg (bk a b c A)] [ao false]:=
 h.of
def Be(a b c:Int)(A:af)(l:List O):List O:=Vf a b c A (.b (decide ((A.length:Int)>0)) false::l)
def Mc(a b c:Int)(A:af)(d e:Int)(l:List O):List O:=Be a b c A (.b ((A.length:Int)==2) true::.p ((0:Int)<=0)::.p (0<(A.length:Int))::.e A 0 [I d]::.p ((0:Int)<=1)::.p (1<(A.length:Int))::.e A 1 [I e]::l)
theorem ar3(h:ad (Mc a b c A d e [.b (d==e) true])):
 av 273 [.agg (bk a b c A)] [ao false]:=
 h.of
theorem arb(h:ad (Mc a b c A d e [.b (d==e) false,.l [] [93,92,91] [] (ar Tryz.f273 0) (dr A 0) .ret (fZ q)])):
 av 273 [.agg (bk a b c A)] [ao q]:=
 h.of
theorem arc(h:ad (Mc a b c A d e [.b (d==e) false,.l [] [93,92,91] [] (ar Tryz.f273 0) (dr A 0) (.exit 1) gk])):
 av 273 [.agg (bk a b c A)] [ao true]:=
 h.of
theorem ard(h:ad (Be a b c A [.b ((A.length:Int)==2) false,.l [] [93,92,91] [] (ar Tryz.f273 0) (dr A 0) .ret (fZ q)])):
 av 273 [.agg (bk a b c A)] [ao q]:=
 h.of
theorem arf(h:ad (Be a b c A [.b ((A.length:Int)==2) false,.l [] [93,92,91] [] (ar Tryz.f273 0) (dr A 0) (.exit 1) gk])):
 av 273 [.agg (bk a b c A)] [ao true]:=
 h.of
def Md(a b c:Int)(A:af)(d e:Int)(l:List O):List O:=EX a b c A (.b (a==8) false::.b ((A.length:Int)==2) true::.p ((0:Int)<=0)::.p (0<(A.length:Int))::.e A 0 [I d]::.p ((0:Int)<=1)::.p (1<(A.length:Int))::.e A 1 [I e]::l)
theorem arh(h:ad (Md a b c A d e [.b (d==e) true])):
 av 273 [.agg (bk a b c A)] [ao false]:=
 h.of
theorem ari(h:ad (Md a b c A d e [.b (d==e) false,.l [] [93,92,91] [] (ar Tryz.f273 0) (dr A 0) .ret (fZ q)])):
 av 273 [.agg (bk a b c A)] [ao q]:=
 h.of
theorem arj(h:ad (Md a b c A d e [.b (d==e) false,.l [] [93,92,91] [] (ar Tryz.f273 0) (dr A 0) (.exit 1) gk])):
 av 273 [.agg (bk a b c A)] [ao true]:=
 h.of
theorem ark(h:ad (EX a b c A [.b (a==8) false,.b ((A.length:Int)==2) false,.l [] [93,92,91] [] (ar Tryz.f273 0) (dr A 0) .ret (fZ q)])):
 av 273 [.agg (bk a b c A)] [ao q]:=
 h.of
theorem arl(h:ad (EX a b c A [.b (a==8) false,.b ((A.length:Int)==2) false,.l [] [93,92,91] [] (ar Tryz.f273 0) (dr A 0) (.exit 1) gk])):
 av 273 [.agg (bk a b c A)] [ao true]:=
 h.of
def Vx(a:Int)(l:List O):List O:=Vd a (.b (a==7) false::l)
def Vy(a:Int)(l:List O):List O:=Vx a (.b (a==8) true::l)
theorem arm(h:ad (Vy a [.b (b != 0) true])):
 av 273 [.agg (bk a b c A)] [ao false]:=
 h.of
def Vz(a b:Int)(l:List O):List O:=Vy a (.b (b != 0) false::l)
theorem arn(h:ad (Vz a b [.b (c != 0) true])):
 av 273 [.agg (bk a b c A)] [ao false]:=
 h.of
def VA(a b c:Int)(l:List O):List O:=Vz a b (.b (c != 0) false::l)
theorem aro(h:ad (VA a b c [.b (decide ((A.length:Int)>2)) true])):
 av 273 [.agg (bk a b c A)] [ao false]:=
 h.of
def VB(a b c:Int)(A:af)(l:List O):List O:=VA a b c (.b (decide ((A.length:Int)>2)) false::.b (a==8) true::l)
theorem arp(h:ad (VB a b c A [.b (decide ((A.length:Int)>0)) true])):
 av 273 [.agg (bk a b c A)] [ao false]:=
 h.of
def Me(a b c:Int)(A:af)(l:List O):List O:=VB a b c A (.b (decide ((A.length:Int)>0)) false::l)
def Mf(a b c:Int)(A:af)(d e:Int)(l:List O):List O:=Me a b c A (.b ((A.length:Int)==2) true::.p ((0:Int)<=0)::.p (0<(A.length:Int))::.e A 0 [I d]::.p ((0:Int)<=1)::.p (1<(A.length:Int))::.e A 1 [I e]::l)
theorem arq(h:ad (Mf a b c A d e [.b (d==e) true])):
 av 273 [.agg (bk a b c A)] [ao false]:=
 h.of
theorem ars(h:ad (Mf a b c A d e [.b (d==e) false,.l [] [93,92,91] [] (ar Tryz.f273 0) (dr A 0) .ret (fZ q)])):
 av 273 [.agg (bk a b c A)] [ao q]:=
 h.of
theorem art(h:ad (Mf a b c A d e [.b (d==e) false,.l [] [93,92,91] [] (ar Tryz.f273 0) (dr A 0) (.exit 1) gk])):
 av 273 [.agg (bk a b c A)] [ao true]:=
 h.of
theorem aru(h:ad (Me a b c A [.b ((A.length:Int)==2) false,.l [] [93,92,91] [] (ar Tryz.f273 0) (dr A 0) .ret (fZ q)])):
 av 273 [.agg (bk a b c A)] [ao q]:=
 h.of
theorem arv(h:ad (Me a b c A [.b ((A.length:Int)==2) false,.l [] [93,92,91] [] (ar Tryz.f273 0) (dr A 0) (.exit 1) gk])):
 av 273 [.agg (bk a b c A)] [ao true]:=
 h.of
theorem arw(h:ad (Vx a [.b (a==8) false])):
 av 273 [.agg (bk a b c A)] [ao false]:=
 h.of
