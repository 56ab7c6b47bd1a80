import Derived.Test.YtdchjefneblpgaaGreatGE
set_option linter.unusedVariables false
set_option linter.unusedSimpArgs false
namespace Go.Proofs.YtdchjefneblpgaaGreat
open Go.Sx Go.RowKit
variable {a b c d e f g : Int} {A : ah} {q r s t : Bool}
def aaj(a:Int)(l:List O):List O:=.b (a==2) true::l
def aak(a b:Int)(q r:Bool)(l:List O):List O:=aaj a (.r 168 [ag b,ag 0,ag 999] [ak q]::.r 168 [ag a,ag 1,ag 8] [ak r]::l)
theorem ah2(h:af (aak a b r q [.n q true])):
 av 243 [.agg (bj a b c A)] [ak false]:=
 h.of
def Qo(a b:Int)(q r:Bool)(l:List O):List O:=aak a b q r (.n r false::l)
theorem ah3(h:af (Qo a b q r [.n q true])):
 av 243 [.agg (bj a b c A)] [ak false]:=
 h.of
theorem ah4(h:af (Qo a b q r [.n q false,.b (!c==0) true])):
 av 243 [.agg (bj a b c A)] [ak false]:=
 h.of
def aal(a b:Int)(q r:Bool)(c:Int)(l:List O):List O:=Qo a b q r (.n q false::.b (!c==0) false::l)
theorem ah5(h:af (aal a b q r c [.b (decide ((A.length:Int)>2)) true])):
 av 243 [.agg (bj a b c A)] [ak false]:=
 h.of
def Eu(a b:Int)(q r:Bool)(c:Int)(A:ah)(l:List O):List O:=aal a b q r c (.b (decide ((A.length:Int)>2)) false::l)
theorem ahg(h:af (Eu a b q r c A [.b (a==8) true,.b (decide ((A.length:Int)>0)) true])):
 av 243 [.agg (bj a b c A)] [ak false]:=
 h.of
def iH(a b c:Int)(A:ah)(d:Int):aD:=ba 93 [(1,a1 1),(5,aY d)] [(1,[az a,az b,az c,.J .free 1 A])]
def rY(q:Bool):aD:=ba 93 [(2,.aR (.one (.bR q)))] []
def Ez(A:ah)(a b:Int)(q:Bool)(l:List O):List O:=.i A a [I b]::.r 168 [ag b,ag 0,ag 7] [ak q]::l
theorem NY(h:af (Ez A a b q [.n q true])):
 aT (ap Tryz.f243 0) (iH c d e A a) .ret (rY false):=
 h.aQ [2] []
def aax(A:ah)(a b:Int)(q:Bool)(c d:Int)(l:List O):List O:=Ez A a b q (.n q false::.b (decide (a>0)) true::.p ((0:Int)<=0)::.p (0<(A.length:Int))::.e A 0 [I c]::.p ((0:Int)<=1)::.p (1<(A.length:Int))::.e A 1 [I d]::l)
theorem ahh(h:af (aax A a c q d b [.b (d==b) true])):
 aT (ap Tryz.f243 0) (iH e f g A a) .ret (rY false):=
 h.aQ [2] []
theorem ahi(h:af (aax A a f q g d [.b (g==d) false,.u a])):
 aT (ap Tryz.f243 0) (iH b c e A a) .normal (iH b c e A (a+1)):=
 h.aQ [5,1] [1]
theorem VU(h:af (Ez A a e q [.n q false,.b (decide (a>0)) false,.u a])):
 aT (ap Tryz.f243 0) (iH b c d A a) .normal (iH b c d A (a+1)):=
 h.aQ [5,1] [1]
def s7:aD:=ba 93 [] []
theorem NZ(h:af [.f A a false]):
 aT (ap Tryz.f243 0) (iH b c d A a) (.exit 1) s7:=
 h.aQ [] []
theorem ahj(h:af (Eu a b q r c A [.b (a==8) true,.b (decide ((A.length:Int)>0)) false,.l [] [5,1] [1] (ap Tryz.f243 0) (iH a b c A 0) .ret (rY s)])):
 av 243 [.agg (bj a b c A)] [ak s]:=
 h.of
theorem ahk(h:af (Eu a b q r c A [.b (a==8) true,.b (decide ((A.length:Int)>0)) false,.l [] [5,1] [1] (ap Tryz.f243 0) (iH a b c A 0) (.exit 1) s7])):
 av 243 [.agg (bj a b c A)] [ak true]:=
 h.of
theorem ahl(h:af (Eu a b q r c A [.b (a==8) false,.l [] [5,1] [1] (ap Tryz.f243 0) (iH a b c A 0) .ret (rY s)])):
 av 243 [.agg (bj a b c A)] [ak s]:=
 h.of
theorem ahm(h:af (Eu a b q r c A [.b (a==8) false,.l [] [5,1] [1] (ap Tryz.f243 0) (iH a b c A 0) (.exit 1) s7])):
 av 243 [.agg (bj a b c A)] [ak true]:=
 h.of
def aay(a:Int)(l:List O):List O:=.b (a==2) false::l
def I0(a:Int)(l:List O):List O:=aay a (.b (a==3) true::l)
def EA(a b:Int)(q:Bool)(c:Int)(r s:Bool)(l:List O):List O:=I0 a (.r 168 [ag b,ag 1,ag 10] [ak q]::.a .wr::.r 168 [ag c,ag 0,ag (IntKind.i64.wrap (b-1))] [ak r]::.r 168 [ag a,ag 1,ag 8] [ak s]::l)
theorem ahn(h:af (EA a b r c s q [.n q true])):
 av 243 [.agg (bj a b c A)] [ak false]:=
 h.of
theorem aho(h:af (EA a b q c s r [.n r false,.n q true])):
 av 243 [.agg (bj a b c A)] [ak false]:=
 h.of
def QA(a b:Int)(q:Bool)(c:Int)(r s:Bool)(l:List O):List O:=EA a b q c r s (.n s false::.n q false::l)
theorem ahp(h:af (QA a b q c r s [.n r true])):
 av 243 [.agg (bj a b c A)] [ak false]:=
 h.of
theorem ahq(h:af (QA a b q c r s [.n r false,.b (decide ((A.length:Int)>2)) true])):
 av 243 [.agg (bj a b c A)] [ak false]:=
 h.of
def EB(a b:Int)(q:Bool)(c:Int)(r s:Bool)(A:ah)(l:List O):List O:=QA a b q c r s (.n r false::.b (decide ((A.length:Int)>2)) false::l)
theorem ahr(h:af (EB a b q c r s A [.b (a==8) true,.b (decide ((A.length:Int)>0)) true])):
 av 243 [.agg (bj a b c A)] [ak false]:=
 h.of
theorem ahs(h:af (EB a b q c r s A [.b (a==8) true,.b (decide ((A.length:Int)>0)) false,.l [] [5,1] [1] (ap Tryz.f243 0) (iH a b c A 0) .ret (rY t)])):
 av 243 [.agg (bj a b c A)] [ak t]:=
 h.of
theorem aht(h:af (EB a b q c r s A [.b (a==8) true,.b (decide ((A.length:Int)>0)) false,.l [] [5,1] [1] (ap Tryz.f243 0) (iH a b c A 0) (.exit 1) s7])):
 av 243 [.agg (bj a b c A)] [ak true]:=
 h.of
theorem ahu(h:af (EB a b q c r s A [.b (a==8) false,.l [] [5,1] [1] (ap Tryz.f243 0) (iH a b c A 0) .ret (rY t)])):
 av 243 [.agg (bj a b c A)] [ak t]:=
 h.of
theorem ahv(h:af (EB a b q c r s A [.b (a==8) false,.l [] [5,1] [1] (ap Tryz.f243 0) (iH a b c A 0) (.exit 1) s7])):
 av 243 [.agg (bj a b c A)] [ak true]:=
 h.of
def aaQ(a:Int)(l:List O):List O:=aay a (.b (a==3) false::l)
def aaR(a:Int)(l:List O):List O:=aaQ a (.b (a==4) true::l)
def aaS(a b:Int)(q r:Bool)(l:List O):List O:=aaR a (.r 168 [ag b,ag 0,ag 99] [ak q]::.r 168 [ag a,ag 1,ag 8] [ak r]::l)
theorem ahw(h:af (aaS a b r q [.n q true])):
 av 243 [.agg (bj a b c A)] [ak false]:=
 h.of
def QN(a b:Int)(q r:Bool)(l:List O):List O:=aaS a b q r (.n r false::l)
theorem ahx(h:af (QN a b q r [.n q true])):
 av 243 [.agg (bj a b c A)] [ak false]:=
 h.of
theorem ahy(h:af (QN a b q r [.n q false,.b (!c==0) true])):
 av 243 [.agg (bj a b c A)] [ak false]:=
 h.of
def aaT(a b:Int)(q r:Bool)(c:Int)(l:List O):List O:=QN a b q r (.n q false::.b (!c==0) false::l)
theorem ahz(h:af (aaT a b q r c [.b (decide ((A.length:Int)>2)) true])):
 av 243 [.agg (bj a b c A)] [ak false]:=
 h.of
def ED(a b:Int)(q r:Bool)(c:Int)(A:ah)(l:List O):List O:=aaT a b q r c (.b (decide ((A.length:Int)>2)) false::l)
theorem ahA(h:af (ED a b q r c A [.b (a==8) true,.b (decide ((A.length:Int)>0)) true])):
 av 243 [.agg (bj a b c A)] [ak false]:=
 h.of
theorem ahB(h:af (ED a b q r c A [.b (a==8) true,.b (decide ((A.length:Int)>0)) false,.l [] [5,1] [1] (ap Tryz.f243 0) (iH a b c A 0) .ret (rY s)])):
 av 243 [.agg (bj a b c A)] [ak s]:=
 h.of
theorem ahC(h:af (ED a b q r c A [.b (a==8) true,.b (decide ((A.length:Int)>0)) false,.l [] [5,1] [1] (ap Tryz.f243 0) (iH a b c A 0) (.exit 1) s7])):
 av 243 [.agg (bj a b c A)] [ak true]:=
 h.of
theorem ahD(h:af (ED a b q r c A [.b (a==8) false,.l [] [5,1] [1] (ap Tryz.f243 0) (iH a b c A 0) .ret (rY s)])):
 av 243 [.agg (bj a b c A)] [ak s]:=
 h.of
theorem ahE(h:af (ED a b q r c A [.b (a==8) false,.l [] [5,1] [1] (ap Tryz.f243 0) (iH a b c A 0) (.exit 1) s7])):
 av 243 [.agg (bj a b c A)] [ak true]:=
 h.of
def QR(a:Int)(l:List O):List O:=aaQ a (.b (a==4) false::l)
def aaX(a:Int)(q:Bool)(l:List O):List O:=QR a (.r 168 [ag a,ag 1,ag 8] [ak q]::l)
theorem ahF(h:af (aaX a q [.n q true])):
 av 243 [.agg (bj a b c A)] [ak false]:=
 h.of
def aaY(a:Int)(q:Bool)(l:List O):List O:=aaX a q (.n q false::l)
theorem ag6(h:af (aaY a q [.b (!b==0) true])):
 av 243 [.agg (bj a b c A)] [ak false]:=
 h.of
def aaZ(a:Int)(q:Bool)(b:Int)(l:List O):List O:=aaY a q (.b (!b==0) false::l)
theorem ag7(h:af (aaZ a q b [.b (!c==0) true])):
 av 243 [.agg (bj a b c A)] [ak false]:=
 h.of
def aa0(a:Int)(q:Bool)(b c:Int)(l:List O):List O:=aaZ a q b (.b (!c==0) false::l)
theorem ag8(h:af (aa0 a q b c [.b (decide ((A.length:Int)>2)) true])):
 av 243 [.agg (bj a b c A)] [ak false]:=
 h.of
def EF(a:Int)(q:Bool)(b c:Int)(A:ah)(l:List O):List O:=aa0 a q b c (.b (decide ((A.length:Int)>2)) false::l)
theorem ag9(h:af (EF a q b c A [.b (a==8) true,.b (decide ((A.length:Int)>0)) true])):
 av 243 [.agg (bj a b c A)] [ak false]:=
 h.of
theorem aha(h:af (EF a q b c A [.b (a==8) true,.b (decide ((A.length:Int)>0)) false,.l [] [5,1] [1] (ap Tryz.f243 0) (iH a b c A 0) .ret (rY r)])):
 av 243 [.agg (bj a b c A)] [ak r]:=
 h.of
theorem ahb(h:af (EF a q b c A [.b (a==8) true,.b (decide ((A.length:Int)>0)) false,.l [] [5,1] [1] (ap Tryz.f243 0) (iH a b c A 0) (.exit 1) s7])):
 av 243 [.agg (bj a b c A)] [ak true]:=
 h.of
theorem ahc(h:af (EF a q b c A [.b (a==8) false,.l [] [5,1] [1] (ap Tryz.f243 0) (iH a b c A 0) .ret (rY r)])):
 av 243 [.agg (bj a b c A)] [ak r]:=
 h.of
theorem ahd(h:af (EF a q b c A [.b (a==8) false,.l [] [5,1] [1] (ap Tryz.f243 0) (iH a b c A 0) (.exit 1) s7])):
 av 243 [.agg (bj a b c A)] [ak true]:=
 h.of
def aam(a b:Int)(q:Bool)(l:List O):List O:=aaj a (.r 190 [ag b,ag 0,ag 999] [ak q]::l)
theorem ahe(h:af (aam a b q [.n q true])):
 av 273 [.agg (bj a b c A)] [ak false]:=
 h.of
def aan(a b:Int)(q:Bool)(l:List O):List O:=aam a b q (.n q false::l)
theorem ahf(h:af (aan a b q [.b (c != 0) true])):
 av 273 [.agg (bj a b c A)] [ak false]:=
 h.of
def aao(a b:Int)(q:Bool)(c:Int)(l:List O):List O:=aan a b q (.b (c != 0) false::l)
theorem aiH(h:af (aao a b q c [.b (decide ((A.length:Int)>2)) true])):
 av 273 [.agg (bj a b c A)] [ak false]:=
 h.of
def Ev(a b:Int)(q:Bool)(c:Int)(A:ah)(l:List O):List O:=aao a b q c (.b (decide ((A.length:Int)>2)) false::l)
theorem aiI(h:af (Ev a b q c A [.b (a==8) true,.b (decide ((A.length:Int)>0)) true])):
 av 273 [.agg (bj a b c A)] [ak false]:=
 h.of
def Qp(a b:Int)(q:Bool)(c:Int)(A:ah)(l:List O):List O:=Ev a b q c A (.b (a==8) true::.b (decide ((A.length:Int)>0)) false::l)
def Qq(a b:Int)(q:Bool)(c:Int)(A:ah)(d e:Int)(l:List O):List O:=Qp a b q c A (.b ((A.length:Int)==2) true::.p ((0:Int)<=0)::.p (0<(A.length:Int))::.e A 0 [I d]::.p ((0:Int)<=1)::.p (1<(A.length:Int))::.e A 1 [I e]::l)
theorem aiJ(h:af (Qq a b q c A d e [.b (d==e) true])):
 av 273 [.agg (bj a b c A)] [ak false]:=
 h.of
def dP(A:ah)(a:Int):aD:=ba 101 [(91,c6 1 A),(92,aY (A.length:Int)),(93,aY a)] []
def hg(q:Bool):aD:=ba 101 [(2,.aR (.one (.bR q)))] []
theorem aiK(h:af [.i A a [I b],.r 190 [ag b,ag 0,ag 7] [ak q],.n q true]):
 aT (ap Tryz.f273 0) (dP A a) .ret (hg false):=
 h.aQ [2] []
theorem aiL(h:af [.i A a [I b],.r 190 [ag b,ag 0,ag 7] [ak q],.n q false,.u a]):
 aT (ap Tryz.f273 0) (dP A a) .normal (dP A (a+1)):=
 h.aQ [93,92,91] []
def hy:aD:=ba 101 [] []
theorem aiM(h:af [.f A a false]):
 aT (ap Tryz.f273 0) (dP A a) (.exit 1) hy:=
 h.aQ [] []
theorem aiN(h:af (Qq a b q c A d e [.b (d==e) false,.l [] [93,92,91] [] (ap Tryz.f273 0) (dP A 0) .ret (hg r)])):
 av 273 [.agg (bj a b c A)] [ak r]:=
 h.of
theorem aiO(h:af (Qq a b q c A d e [.b (d==e) false,.l [] [93,92,91] [] (ap Tryz.f273 0) (dP A 0) (.exit 1) hy])):
 av 273 [.agg (bj a b c A)] [ak true]:=
 h.of
theorem aiP(h:af (Qp a b q c A [.b ((A.length:Int)==2) false,.l [] [93,92,91] [] (ap Tryz.f273 0) (dP A 0) .ret (hg r)])):
 av 273 [.agg (bj a b c A)] [ak r]:=
 h.of
theorem aiQ(h:af (Qp a b q c A [.b ((A.length:Int)==2) false,.l [] [93,92,91] [] (ap Tryz.f273 0) (dP A 0) (.exit 1) hy])):
 av 273 [.agg (bj a b c A)] [ak true]:=
 h.of
def Qr(a b:Int)(q:Bool)(c:Int)(A:ah)(d e:Int)(l:List O):List O:=Ev a b q c A (.b (a==8) false::.b ((A.length:Int)==2) true::.p ((0:Int)<=0)::.p (0<(A.length:Int))::.e A 0 [I d]::.p ((0:Int)<=1)::.p (1<(A.length:Int))::.e A 1 [I e]::l)
theorem aiR(h:af (Qr a b q c A d e [.b (d==e) true])):
 av 273 [.agg (bj a b c A)] [ak false]:=
 h.of
theorem aiS(h:af (Qr a b q c A d e [.b (d==e) false,.l [] [93,92,91] [] (ap Tryz.f273 0) (dP A 0) .ret (hg r)])):
 av 273 [.agg (bj a b c A)] [ak r]:=
 h.of
theorem aiT(h:af (Qr a b q c A d e [.b (d==e) false,.l [] [93,92,91] [] (ap Tryz.f273 0) (dP A 0) (.exit 1) hy])):
 av 273 [.agg (bj a b c A)] [ak true]:=
 h.of
theorem aiU(h:af (Ev a b q c A [.b (a==8) false,.b ((A.length:Int)==2) false,.l [] [93,92,91] [] (ap Tryz.f273 0) (dP A 0) .ret (hg r)])):
 av 273 [.agg (bj a b c A)] [ak r]:=
 h.of
theorem aiV(h:af (Ev a b q c A [.b (a==8) false,.b ((A.length:Int)==2) false,.l [] [93,92,91] [] (ap Tryz.f273 0) (dP A 0) (.exit 1) hy])):
 av 273 [.agg (bj a b c A)] [ak true]:=
 h.of
def aaz(a b:Int)(q:Bool)(l:List O):List O:=I0 a (.r 190 [ag b,ag 1,ag 10] [ak q]::l)
theorem aiW(h:af (aaz a b q [.n q true])):
 av 273 [.agg (bj a b c A)] [ak false]:=
 h.of
def aaA(a b:Int)(q:Bool)(c:Int)(r:Bool)(l:List O):List O:=aaz a b q (.n q false::.a .wr::.r 190 [ag c,ag 0,ag (IntKind.i64.wrap (b-1))] [ak r]::l)
theorem aiX(h:af (aaA a b q c r [.n r true])):
 av 273 [.agg (bj a b c A)] [ak false]:=
 h.of
def aaB(a b:Int)(q:Bool)(c:Int)(r:Bool)(l:List O):List O:=aaA a b q c r (.n r false::l)
theorem aiY(h:af (aaB a b q c r [.b (decide ((A.length:Int)>2)) true])):
 av 273 [.agg (bj a b c A)] [ak false]:=
 h.of
def EC(a b:Int)(q:Bool)(c:Int)(r:Bool)(A:ah)(l:List O):List O:=aaB a b q c r (.b (decide ((A.length:Int)>2)) false::l)
theorem aiZ(h:af (EC a b q c r A [.b (a==8) true,.b (decide ((A.length:Int)>0)) true])):
 av 273 [.agg (bj a b c A)] [ak false]:=
 h.of
def QK(a b:Int)(q:Bool)(c:Int)(r:Bool)(A:ah)(l:List O):List O:=EC a b q c r A (.b (a==8) true::.b (decide ((A.length:Int)>0)) false::l)
def QL(a b:Int)(q:Bool)(c:Int)(r:Bool)(A:ah)(d e:Int)(l:List O):List O:=QK a b q c r A (.b ((A.length:Int)==2) true::.p ((0:Int)<=0)::.p (0<(A.length:Int))::.e A 0 [I d]::.p ((0:Int)<=1)::.p (1<(A.length:Int))::.e A 1 [I e]::l)
theorem ai0(h:af (QL a b q c r A d e [.b (d==e) true])):
 av 273 [.agg (bj a b c A)] [ak false]:=
 h.of
theorem ai1(h:af (QL a b q c r A d e [.b (d==e) false,.l [] [93,92,91] [] (ap Tryz.f273 0) (dP A 0) .ret (hg s)])):
 av 273 [.agg (bj a b c A)] [ak s]:=
 h.of
theorem ai2(h:af (QL a b q c r A d e [.b (d==e) false,.l [] [93,92,91] [] (ap Tryz.f273 0) (dP A 0) (.exit 1) hy])):
 av 273 [.agg (bj a b c A)] [ak true]:=
 h.of
theorem ai3(h:af (QK a b q c r A [.b ((A.length:Int)==2) false,.l [] [93,92,91] [] (ap Tryz.f273 0) (dP A 0) .ret (hg s)])):
 av 273 [.agg (bj a b c A)] [ak s]:=
 h.of
theorem ai4(h:af (QK a b q c r A [.b ((A.length:Int)==2) false,.l [] [93,92,91] [] (ap Tryz.f273 0) (dP A 0) (.exit 1) hy])):
 av 273 [.agg (bj a b c A)] [ak true]:=
 h.of
def QM(a b:Int)(q:Bool)(c:Int)(r:Bool)(A:ah)(d e:Int)(l:List O):List O:=EC a b q c r A (.b (a==8) false::.b ((A.length:Int)==2) true::.p ((0:Int)<=0)::.p (0<(A.length:Int))::.e A 0 [I d]::.p ((0:Int)<=1)::.p (1<(A.length:Int))::.e A 1 [I e]::l)
theorem ai5(h:af (QM a b q c r A d e [.b (d==e) true])):
 av 273 [.agg (bj a b c A)] [ak false]:=
 h.of
theorem ai6(h:af (QM a b q c r A d e [.b (d==e) false,.l [] [93,92,91] [] (ap Tryz.f273 0) (dP A 0) .ret (hg s)])):
 av 273 [.agg (bj a b c A)] [ak s]:=
 h.of
theorem aih(h:af (QM a b q c r A d e [.b (d==e) false,.l [] [93,92,91] [] (ap Tryz.f273 0) (dP A 0) (.exit 1) hy])):
 av 273 [.agg (bj a b c A)] [ak true]:=
 h.of
theorem aii(h:af (EC a b q c r A [.b (a==8) false,.b ((A.length:Int)==2) false,.l [] [93,92,91] [] (ap Tryz.f273 0) (dP A 0) .ret (hg s)])):
 av 273 [.agg (bj a b c A)] [ak s]:=
 h.of
theorem aij(h:af (EC a b q c r A [.b (a==8) false,.b ((A.length:Int)==2) false,.l [] [93,92,91] [] (ap Tryz.f273 0) (dP A 0) (.exit 1) hy])):
 av 273 [.agg (bj a b c A)] [ak true]:=
 h.of
def aaU(a b:Int)(q:Bool)(l:List O):List O:=aaR a (.r 190 [ag b,ag 0,ag 99] [ak q]::l)
theorem aik(h:af (aaU a b q [.n q true])):
 av 273 [.agg (bj a b c A)] [ak false]:=
 h.of
def aaV(a b:Int)(q:Bool)(l:List O):List O:=aaU a b q (.n q false::l)
theorem ail(h:af (aaV a b q [.b (c != 0) true])):
 av 273 [.agg (bj a b c A)] [ak false]:=
 h.of
def aaW(a b:Int)(q:Bool)(c:Int)(l:List O):List O:=aaV a b q (.b (c != 0) false::l)
theorem aim(h:af (aaW a b q c [.b (decide ((A.length:Int)>2)) true])):
 av 273 [.agg (bj a b c A)] [ak false]:=
 h.of
def EE(a b:Int)(q:Bool)(c:Int)(A:ah)(l:List O):List O:=aaW a b q c (.b (decide ((A.length:Int)>2)) false::l)
theorem ain(h:af (EE a b q c A [.b (a==8) true,.b (decide ((A.length:Int)>0)) true])):
 av 273 [.agg (bj a b c A)] [ak false]:=
 h.of
def QO(a b:Int)(q:Bool)(c:Int)(A:ah)(l:List O):List O:=EE a b q c A (.b (a==8) true::.b (decide ((A.length:Int)>0)) false::l)
def QP(a b:Int)(q:Bool)(c:Int)(A:ah)(d e:Int)(l:List O):List O:=QO a b q c A (.b ((A.length:Int)==2) true::.p ((0:Int)<=0)::.p (0<(A.length:Int))::.e A 0 [I d]::.p ((0:Int)<=1)::.p (1<(A.length:Int))::.e A 1 [I e]::l)
theorem aio(h:af (QP a b q c A d e [.b (d==e) true])):
 av 273 [.agg (bj a b c A)] [ak false]:=
 h.of
theorem aip(h:af (QP a b q c A d e [.b (d==e) false,.l [] [93,92,91] [] (ap Tryz.f273 0) (dP A 0) .ret (hg r)])):
 av 273 [.agg (bj a b c A)] [ak r]:=
 h.of
theorem aiq(h:af (QP a b q c A d e [.b (d==e) false,.l [] [93,92,91] [] (ap Tryz.f273 0) (dP A 0) (.exit 1) hy])):
 av 273 [.agg (bj a b c A)] [ak true]:=
 h.of
theorem air(h:af (QO a b q c A [.b ((A.length:Int)==2) false,.l [] [93,92,91] [] (ap Tryz.f273 0) (dP A 0) .ret (hg r)])):
 av 273 [.agg (bj a b c A)] [ak r]:=
 h.of
theorem ais(h:af (QO a b q c A [.b ((A.length:Int)==2) false,.l [] [93,92,91] [] (ap Tryz.f273 0) (dP A 0) (.exit 1) hy])):
 av 273 [.agg (bj a b c A)] [ak true]:=
 h.of
def QQ(a b:Int)(q:Bool)(c:Int)(A:ah)(d e:Int)(l:List O):List O:=EE a b q c A (.b (a==8) false::.b ((A.length:Int)==2) true::.p ((0:Int)<=0)::.p (0<(A.length:Int))::.e A 0 [I d]::.p ((0:Int)<=1)::.p (1<(A.length:Int))::.e A 1 [I e]::l)
theorem ait(h:af (QQ a b q c A d e [.b (d==e) true])):
 av 273 [.agg (bj a b c A)] [ak false]:=
 h.of
theorem aiu(h:af (QQ a b q c A d e [.b (d==e) false,.l [] [93,92,91] [] (ap Tryz.f273 0) (dP A 0) .ret (hg r)])):
 av 273 [.agg (bj a b c A)] [ak r]:=
 h.of
theorem aiv(h:af (QQ a b q c A d e [.b (d==e) false,.l [] [93,92,91] [] (ap Tryz.f273 0) (dP A 0) (.exit 1) hy])):
 av 273 [.agg (bj a b c A)] [ak true]:=
 h.of
theorem aiw(h:af (EE a b q c A [.b (a==8) false,.b ((A.length:Int)==2) false,.l [] [93,92,91] [] (ap Tryz.f273 0) (dP A 0) .ret (hg r)])):
 av 273 [.agg (bj a b c A)] [ak r]:=
 h.of
theorem aix(h:af (EE a b q c A [.b (a==8) false,.b ((A.length:Int)==2) false,.l [] [93,92,91] [] (ap Tryz.f273 0) (dP A 0) (.exit 1) hy])):
 av 273 [.agg (bj a b c A)] [ak true]:=
 h.of
def aa1(a:Int)(l:List O):List O:=QR a (.b (a==1) true::.b (a==1) true::l)
theorem aiy(h:af (aa1 a [.b (b != 0) true])):
 av 273 [.agg (bj a b c A)] [ak false]:=
 h.of
def aa2(a b:Int)(l:List O):List O:=aa1 a (.b (b != 0) false::l)
theorem aiz(h:af (aa2 a b [.b (c != 0) true])):
 av 273 [.agg (bj a b c A)] [ak false]:=
 h.of
def aa3(a b c:Int)(l:List O):List O:=aa2 a b (.b (c != 0) false::l)
theorem aiA(h:af (aa3 a b c [.b (decide ((A.length:Int)>2)) true])):
 av 273 [.agg (bj a b c A)] [ak false]:=
 h.of
def I1(a b c:Int)(A:ah)(l:List O):List O:=aa3 a b c (.b (decide ((A.length:Int)>2)) false::l)
def aaC(a b c:Int)(A:ah)(l:List O):List O:=I1 a b c A (.b (a==8) true::l)
theorem aiB(h:af (aaC a b c A [.b (decide ((A.length:Int)>0)) true])):
 av 273 [.agg (bj a b c A)] [ak false]:=
 h.of
def QB(a b c:Int)(A:ah)(l:List O):List O:=aaC a b c A (.b (decide ((A.length:Int)>0)) false::l)
def QC(a b c:Int)(A:ah)(d e:Int)(l:List O):List O:=QB a b c A (.b ((A.length:Int)==2) true::.p ((0:Int)<=0)::.p (0<(A.length:Int))::.e A 0 [I d]::.p ((0:Int)<=1)::.p (1<(A.length:Int))::.e A 1 [I e]::l)
theorem aiC(h:af (QC a b c A d e [.b (d==e) true])):
 av 273 [.agg (bj a b c A)] [ak false]:=
 h.of
theorem aiD(h:af (QC a b c A d e [.b (d==e) false,.l [] [93,92,91] [] (ap Tryz.f273 0) (dP A 0) .ret (hg q)])):
 av 273 [.agg (bj a b c A)] [ak q]:=
 h.of
theorem aiE(h:af (QC a b c A d e [.b (d==e) false,.l [] [93,92,91] [] (ap Tryz.f273 0) (dP A 0) (.exit 1) hy])):
 av 273 [.agg (bj a b c A)] [ak true]:=
 h.of
theorem aiF(h:af (QB a b c A [.b ((A.length:Int)==2) false,.l [] [93,92,91] [] (ap Tryz.f273 0) (dP A 0) .ret (hg q)])):
 av 273 [.agg (bj a b c A)] [ak q]:=
 h.of
theorem aiG(h:af (QB a b c A [.b ((A.length:Int)==2) false,.l [] [93,92,91] [] (ap Tryz.f273 0) (dP A 0) (.exit 1) hy])):
 av 273 [.agg (bj a b c A)] [ak true]:=
 h.of
def QD(a b c:Int)(A:ah)(d e:Int)(l:List O):List O:=I1 a b c A (.b (a==8) false::.b ((A.length:Int)==2) true::.p ((0:Int)<=0)::.p (0<(A.length:Int))::.e A 0 [I d]::.p ((0:Int)<=1)::.p (1<(A.length:Int))::.e A 1 [I e]::l)
theorem ah6(h:af (QD a b c A d e [.b (d==e) true])):
 av 273 [.agg (bj a b c A)] [ak false]:=
 h.of
theorem ah7(h:af (QD a b c A d e [.b (d==e) false,.l [] [93,92,91] [] (ap Tryz.f273 0) (dP A 0) .ret (hg q)])):
 av 273 [.agg (bj a b c A)] [ak q]:=
 h.of
theorem ah8(h:af (QD a b c A d e [.b (d==e) false,.l [] [93,92,91] [] (ap Tryz.f273 0) (dP A 0) (.exit 1) hy])):
 av 273 [.agg (bj a b c A)] [ak true]:=
 h.of
theorem ah9(h:af (I1 a b c A [.b (a==8) false,.b ((A.length:Int)==2) false,.l [] [93,92,91] [] (ap Tryz.f273 0) (dP A 0) .ret (hg q)])):
 av 273 [.agg (bj a b c A)] [ak q]:=
 h.of
theorem aia(h:af (I1 a b c A [.b (a==8) false,.b ((A.length:Int)==2) false,.l [] [93,92,91] [] (ap Tryz.f273 0) (dP A 0) (.exit 1) hy])):
 av 273 [.agg (bj a b c A)] [ak true]:=
 h.of
def aaD(a:Int)(l:List O):List O:=QR a (.b (a==1) false::l)
def aaE(a:Int)(l:List O):List O:=aaD a (.b (a==5) true::.b (a==5) true::l)
theorem aib(h:af (aaE a [.b (b != 0) true])):
 av 273 [.agg (bj a b c A)] [ak false]:=
 h.of
def aaF(a b:Int)(l:List O):List O:=aaE a (.b (b != 0) false::l)
theorem aic(h:af (aaF a b [.b (c != 0) true])):
 av 273 [.agg (bj a b c A)] [ak false]:=
 h.of
def aaG(a b c:Int)(l:List O):List O:=aaF a b (.b (c != 0) false::l)
theorem aid(h:af (aaG a b c [.b (decide ((A.length:Int)>2)) true])):
 av 273 [.agg (bj a b c A)] [ak false]:=
 h.of
def I2(a b c:Int)(A:ah)(l:List O):List O:=aaG a b c (.b (decide ((A.length:Int)>2)) false::l)
def aaH(a b c:Int)(A:ah)(l:List O):List O:=I2 a b c A (.b (a==8) true::l)
theorem aie(h:af (aaH a b c A [.b (decide ((A.length:Int)>0)) true])):
 av 273 [.agg (bj a b c A)] [ak false]:=
 h.of
def QE(a b c:Int)(A:ah)(l:List O):List O:=aaH a b c A (.b (decide ((A.length:Int)>0)) false::l)
def QF(a b c:Int)(A:ah)(d e:Int)(l:List O):List O:=QE a b c A (.b ((A.length:Int)==2) true::.p ((0:Int)<=0)::.p (0<(A.length:Int))::.e A 0 [I d]::.p ((0:Int)<=1)::.p (1<(A.length:Int))::.e A 1 [I e]::l)
theorem aif(h:af (QF a b c A d e [.b (d==e) true])):
 av 273 [.agg (bj a b c A)] [ak false]:=
 h.of
theorem ajH(h:af (QF a b c A d e [.b (d==e) false,.l [] [93,92,91] [] (ap Tryz.f273 0) (dP A 0) .ret (hg q)])):
 av 273 [.agg (bj a b c A)] [ak q]:=
 h.of
theorem ajI(h:af (QF a b c A d e [.b (d==e) false,.l [] [93,92,91] [] (ap Tryz.f273 0) (dP A 0) (.exit 1) hy])):
 av 273 [.agg (bj a b c A)] [ak true]:=
 h.of
theorem ajJ(h:af (QE a b c A [.b ((A.length:Int)==2) false,.l [] [93,92,91] [] (ap Tryz.f273 0) (dP A 0) .ret (hg q)])):
 av 273 [.agg (bj a b c A)] [ak q]:=
 h.of
theorem ajK(h:af (QE a b c A [.b ((A.length:Int)==2) false,.l [] [93,92,91] [] (ap Tryz.f273 0) (dP A 0) (.exit 1) hy])):
 av 273 [.agg (bj a b c A)] [ak true]:=
 h.of
def QG(a b c:Int)(A:ah)(d e:Int)(l:List O):List O:=I2 a b c A (.b (a==8) false::.b ((A.length:Int)==2) true::.p ((0:Int)<=0)::.p (0<(A.length:Int))::.e A 0 [I d]::.p ((0:Int)<=1)::.p (1<(A.length:Int))::.e A 1 [I e]::l)
theorem ajL(h:af (QG a b c A d e [.b (d==e) true])):
 av 273 [.agg (bj a b c A)] [ak false]:=
 h.of
theorem ajM(h:af (QG a b c A d e [.b (d==e) false,.l [] [93,92,91] [] (ap Tryz.f273 0) (dP A 0) .ret (hg q)])):
 av 273 [.agg (bj a b c A)] [ak q]:=
 h.of
theorem ajN(h:af (QG a b c A d e [.b (d==e) false,.l [] [93,92,91] [] (ap Tryz.f273 0) (dP A 0) (.exit 1) hy])):
 av 273 [.agg (bj a b c A)] [ak true]:=
 h.of
theorem ajO(h:af (I2 a b c A [.b (a==8) false,.b ((A.length:Int)==2) false,.l [] [93,92,91] [] (ap Tryz.f273 0) (dP A 0) .ret (hg q)])):
 av 273 [.agg (bj a b c A)] [ak q]:=
 h.of
theorem ajP(h:af (I2 a b c A [.b (a==8) false,.b ((A.length:Int)==2) false,.l [] [93,92,91] [] (ap Tryz.f273 0) (dP A 0) (.exit 1) hy])):
 av 273 [.agg (bj a b c A)] [ak true]:=
 h.of
def aaI(a:Int)(l:List O):List O:=aaD a (.b (a==5) false::l)
def aaJ(a:Int)(l:List O):List O:=aaI a (.b (a==6) true::.b (a==6) true::l)
theorem ajQ(h:af (aaJ a [.b (b != 0) true])):
 av 273 [.agg (bj a b c A)] [ak false]:=
 h.of
def aaK(a b:Int)(l:List O):List O:=aaJ a (.b (b != 0) false::l)
theorem ajR(h:af (aaK a b [.b (c != 0) true])):
 av 273 [.agg (bj a b c A)] [ak false]:=
 h.of
def aaL(a b c:Int)(l:List O):List O:=aaK a b (.b (c != 0) false::l)
theorem ajS(h:af (aaL a b c [.b (decide ((A.length:Int)>2)) true])):
 av 273 [.agg (bj a b c A)] [ak false]:=
 h.of
def I3(a b c:Int)(A:ah)(l:List O):List O:=aaL a b c (.b (decide ((A.length:Int)>2)) false::l)
def aaM(a b c:Int)(A:ah)(l:List O):List O:=I3 a b c A (.b (a==8) true::l)
theorem ajT(h:af (aaM a b c A [.b (decide ((A.length:Int)>0)) true])):
 av 273 [.agg (bj a b c A)] [ak false]:=
 h.of
def QH(a b c:Int)(A:ah)(l:List O):List O:=aaM a b c A (.b (decide ((A.length:Int)>0)) false::l)
def QI(a b c:Int)(A:ah)(d e:Int)(l:List O):List O:=QH a b c A (.b ((A.length:Int)==2) true::.p ((0:Int)<=0)::.p (0<(A.length:Int))::.e A 0 [I d]::.p ((0:Int)<=1)::.p (1<(A.length:Int))::.e A 1 [I e]::l)
theorem ajU(h:af (QI a b c A d e [.b (d==e) true])):
 av 273 [.agg (bj a b c A)] [ak false]:=
 h.of
theorem ajV(h:af (QI a b c A d e [.b (d==e) false,.l [] [93,92,91] [] (ap Tryz.f273 0) (dP A 0) .ret (hg q)])):
 av 273 [.agg (bj a b c A)] [ak q]:=
 h.of
theorem ajW(h:af (QI a b c A d e [.b (d==e) false,.l [] [93,92,91] [] (ap Tryz.f273 0) (dP A 0) (.exit 1) hy])):
 av 273 [.agg (bj a b c A)] [ak true]:=
 h.of
theorem ajX(h:af (QH a b c A [.b ((A.length:Int)==2) false,.l [] [93,92,91] [] (ap Tryz.f273 0) (dP A 0) .ret (hg q)])):
 av 273 [.agg (bj a b c A)] [ak q]:=
 h.of
theorem ajY(h:af (QH a b c A [.b ((A.length:Int)==2) false,.l [] [93,92,91] [] (ap Tryz.f273 0) (dP A 0) (.exit 1) hy])):
 av 273 [.agg (bj a b c A)] [ak true]:=
 h.of
def QJ(a b c:Int)(A:ah)(d e:Int)(l:List O):List O:=I3 a b c A (.b (a==8) false::.b ((A.length:Int)==2) true::.p ((0:Int)<=0)::.p (0<(A.length:Int))::.e A 0 [I d]::.p ((0:Int)<=1)::.p (1<(A.length:Int))::.e A 1 [I e]::l)
theorem ajZ(h:af (QJ a b c A d e [.b (d==e) true])):
 av 273 [.agg (bj a b c A)] [ak false]:=
 h.of
theorem aj0(h:af (QJ a b c A d e [.b (d==e) false,.l [] [93,92,91] [] (ap Tryz.f273 0) (dP A 0) .ret (hg q)])):
 av 273 [.agg (bj a b c A)] [ak q]:=
 h.of
theorem aj1(h:af (QJ a b c A d e [.b (d==e) false,.l [] [93,92,91] [] (ap Tryz.f273 0) (dP A 0) (.exit 1) hy])):
 av 273 [.agg (bj a b c A)] [ak true]:=
 h.of
theorem aj2(h:af (I3 a b c A [.b (a==8) false,.b ((A.length:Int)==2) false,.l [] [93,92,91] [] (ap Tryz.f273 0) (dP A 0) .ret (hg q)])):
 av 273 [.agg (bj a b c A)] [ak q]:=
 h.of
theorem aj3(h:af (I3 a b c A [.b (a==8) false,.b ((A.length:Int)==2) false,.l [] [93,92,91] [] (ap Tryz.f273 0) (dP A 0) (.exit 1) hy])):
 av 273 [.agg (bj a b c A)] [ak true]:=
 h.of
def aaN(a:Int)(l:List O):List O:=aaI a (.b (a==6) false::l)
def aaO(a:Int)(l:List O):List O:=aaN a (.b (a==7) true::.b (a==7) true::l)
theorem aj4(h:af (aaO a [.b (b != 0) true])):
 av 273 [.agg (bj a b c A)] [ak false]:=
 h.of
def aaP(a b:Int)(l:List O):List O:=aaO a (.b (b != 0) false::l)
theorem aj5(h:af (aaP a b [.b (c != 0) true])):
 av 273 [.agg (bj a b c A)] [ak false]:=
 h.of
def aa4(a b c:Int)(l:List O):List O:=aaP a b (.b (c != 0) false::l)
theorem aj6(h:af (aa4 a b c [.b (decide ((A.length:Int)>2)) true])):
 av 273 [.agg (bj a b c A)] [ak false]:=
 h.of
def I4(a b c:Int)(A:ah)(l:List O):List O:=aa4 a b c (.b (decide ((A.length:Int)>2)) false::l)
def aa5(a b c:Int)(A:ah)(l:List O):List O:=I4 a b c A (.b (a==8) true::l)
theorem ajh(h:af (aa5 a b c A [.b (decide ((A.length:Int)>0)) true])):
 av 273 [.agg (bj a b c A)] [ak false]:=
 h.of
def QS(a b c:Int)(A:ah)(l:List O):List O:=aa5 a b c A (.b (decide ((A.length:Int)>0)) false::l)
def QT(a b c:Int)(A:ah)(d e:Int)(l:List O):List O:=QS a b c A (.b ((A.length:Int)==2) true::.p ((0:Int)<=0)::.p (0<(A.length:Int))::.e A 0 [I d]::.p ((0:Int)<=1)::.p (1<(A.length:Int))::.e A 1 [I e]::l)
theorem aji(h:af (QT a b c A d e [.b (d==e) true])):
 av 273 [.agg (bj a b c A)] [ak false]:=
 h.of
theorem ajj(h:af (QT a b c A d e [.b (d==e) false,.l [] [93,92,91] [] (ap Tryz.f273 0) (dP A 0) .ret (hg q)])):
 av 273 [.agg (bj a b c A)] [ak q]:=
 h.of
theorem ajk(h:af (QT a b c A d e [.b (d==e) false,.l [] [93,92,91] [] (ap Tryz.f273 0) (dP A 0) (.exit 1) hy])):
 av 273 [.agg (bj a b c A)] [ak true]:=
 h.of
theorem ajl(h:af (QS a b c A [.b ((A.length:Int)==2) false,.l [] [93,92,91] [] (ap Tryz.f273 0) (dP A 0) .ret (hg q)])):
 av 273 [.agg (bj a b c A)] [ak q]:=
 h.of
theorem ajm(h:af (QS a b c A [.b ((A.length:Int)==2) false,.l [] [93,92,91] [] (ap Tryz.f273 0) (dP A 0) (.exit 1) hy])):
 av 273 [.agg (bj a b c A)] [ak true]:=
 h.of
def EG(a b c:Int)(A:ah)(d e:Int)(l:List O):List O:=I4 a b c A (.b (a==8) false::.b ((A.length:Int)==2) true::.p ((0:Int)<=0)::.p (0<(A.length:Int))::.e A 0 [I d]::.p ((0:Int)<=1)::.p (1<(A.length:Int))::.e A 1 [I e]::l)
theorem ajn(h:af (EG a b c A d e [.b (d==e) true])):
 av 273 [.agg (bj a b c A)] [ak false]:=
 h.of
theorem ajo(h:af (EG a b c A d e [.b (d==e) false,.l [] [93,92,91] [] (ap Tryz.f273 0) (dP A 0) .ret (hg q)])):
 av 273 [.agg (bj a b c A)] [ak q]:=
 h.of
theorem ajp(h:af (EG a b c A d e [.b (d==e) false,.l [] [93,92,91] [] (ap Tryz.f273 0) (dP A 0) (.exit 1) hy])):
 av 273 [.agg (bj a b c A)] [ak true]:=
 h.of
theorem ajq(h:af (I4 a b c A [.b (a==8) false,.b ((A.length:Int)==2) false,.l [] [93,92,91] [] (ap Tryz.f273 0) (dP A 0) .ret (hg q)])):
 av 273 [.agg (bj a b c A)] [ak q]:=
 h.of
theorem ajr(h:af (I4 a b c A [.b (a==8) false,.b ((A.length:Int)==2) false,.l [] [93,92,91] [] (ap Tryz.f273 0) (dP A 0) (.exit 1) hy])):
 av 273 [.agg (bj a b c A)] [ak true]:=
 h.of
def I5(a:Int)(l:List O):List O:=aaN a (.b (a==7) false::l)
def aa6(a:Int)(l:List O):List O:=I5 a (.b (a==8) true::l)
theorem ajs(h:af (aa6 a [.b (b != 0) true])):
 av 273 [.agg (bj a b c A)] [ak false]:=
 h.of
def aa7(a b:Int)(l:List O):List O:=aa6 a (.b (b != 0) false::l)
theorem ajt(h:af (aa7 a b [.b (c != 0) true])):
 av 273 [.agg (bj a b c A)] [ak false]:=
 h.of
def I6(a b c:Int)(l:List O):List O:=aa7 a b (.b (c != 0) false::l)
theorem aju(h:af (I6 a b c [.b (decide ((A.length:Int)>2)) true])):
 av 273 [.agg (bj a b c A)] [ak false]:=
 h.of
def abq(a b c:Int)(A:ah)(l:List O):List O:=I6 a b c (.b (decide ((A.length:Int)>2)) false::.b (a==8) true::l)
theorem ajv(h:af (abq a b c A [.b (decide ((A.length:Int)>0)) true])):
 av 273 [.agg (bj a b c A)] [ak false]:=
 h.of
def Q1(a b c:Int)(A:ah)(l:List O):List O:=abq a b c A (.b (decide ((A.length:Int)>0)) false::l)
def Q2(a b c:Int)(A:ah)(d e:Int)(l:List O):List O:=Q1 a b c A (.b ((A.length:Int)==2) true::.p ((0:Int)<=0)::.p (0<(A.length:Int))::.e A 0 [I d]::.p ((0:Int)<=1)::.p (1<(A.length:Int))::.e A 1 [I e]::l)
theorem ajw(h:af (Q2 a b c A d e [.b (d==e) true])):
 av 273 [.agg (bj a b c A)] [ak false]:=
 h.of
theorem ajx(h:af (Q2 a b c A d e [.b (d==e) false,.l [] [93,92,91] [] (ap Tryz.f273 0) (dP A 0) .ret (hg q)])):
 av 273 [.agg (bj a b c A)] [ak q]:=
 h.of
theorem ajy(h:af (Q2 a b c A d e [.b (d==e) false,.l [] [93,92,91] [] (ap Tryz.f273 0) (dP A 0) (.exit 1) hy])):
 av 273 [.agg (bj a b c A)] [ak true]:=
 h.of
theorem ajz(h:af (Q1 a b c A [.b ((A.length:Int)==2) false,.l [] [93,92,91] [] (ap Tryz.f273 0) (dP A 0) .ret (hg q)])):
 av 273 [.agg (bj a b c A)] [ak q]:=
 h.of
theorem ajA(h:af (Q1 a b c A [.b ((A.length:Int)==2) false,.l [] [93,92,91] [] (ap Tryz.f273 0) (dP A 0) (.exit 1) hy])):
 av 273 [.agg (bj a b c A)] [ak true]:=
 h.of
theorem ajB(h:af (I5 a [.b (a==8) false])):
 av 273 [.agg (bj a b c A)] [ak false]:=
 h.of
