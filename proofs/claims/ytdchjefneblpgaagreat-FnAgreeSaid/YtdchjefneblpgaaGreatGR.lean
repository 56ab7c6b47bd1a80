import Derived.Test.YtdchjefneblpgaaGreatGE
set_option linter.unusedVariables false
set_option linter.unusedSimpArgs false
namespace Go.Proofs.YtdchjefneblpgaaGreat
open Go.Sx Go.RowKit
variable {a b c d e f g : Int} {A : ak} {q r s t : Bool}
def WH(a:Int)(l:List O):List O:=.b (a==2) true::l
def WI(a b:Int)(q r:Bool)(l:List O):List O:=WH a (.r 168 [ag b,ag 0,ag 999] [al q]::.r 168 [ag a,ag 1,ag 8] [al r]::l)
theorem atI(h:ah (WI a b r q [.n q true])):
 aw 243 [.agg (bF a b c A)] [al false]:=
 h.of
def NJ(a b:Int)(q r:Bool)(l:List O):List O:=WI a b q r (.n r false::l)
theorem atJ(h:ah (NJ a b q r [.n q true])):
 aw 243 [.agg (bF a b c A)] [al false]:=
 h.of
theorem atK(h:ah (NJ a b q r [.n q false,.b (!c==0) true])):
 aw 243 [.agg (bF a b c A)] [al false]:=
 h.of
def Wo(a b:Int)(q r:Bool)(c:Int)(l:List O):List O:=NJ a b q r (.n q false::.b (!c==0) false::l)
theorem atL(h:ah (Wo a b q r c [.b (decide ((A.length:Int)>2)) true])):
 aw 243 [.agg (bF a b c A)] [al false]:=
 h.of
def CX(a b:Int)(q r:Bool)(c:Int)(A:ak)(l:List O):List O:=Wo a b q r c (.b (decide ((A.length:Int)>2)) false::l)
theorem atM(h:ah (CX a b q r c A [.b (a==8) true,.b (decide ((A.length:Int)>0)) true])):
 aw 243 [.agg (bF a b c A)] [al false]:=
 h.of
def iA(a b c:Int)(A:ak)(d:Int):aG:=bp 93 [(1,bE 1),(5,bf d)] [(1,[aM a,aM b,aM c,.J .free 1 A])]
def rp(q:Bool):aG:=bp 93 [(2,.bd (.one (.cg q)))] []
def Nz(A:ak)(a b:Int)(q:Bool)(l:List O):List O:=.i A a [I b]::.r 168 [ag b,ag 0,ag 7] [al q]::l
theorem Mx(h:ah (Nz A a b q [.n q true])):
 aY (av Tryz.f243 0) (iA c d e A a) .ret (rp false):=
 h.aR [2] []
def Ws(A:ak)(a b:Int)(q:Bool)(c d:Int)(l:List O):List O:=Nz A a b q (.n q false::.b (decide (a>0)) true::.p ((0:Int)<=0)::.p (0<(A.length:Int))::.e A 0 [I c]::.p ((0:Int)<=1)::.p (1<(A.length:Int))::.e A 1 [I d]::l)
theorem atN(h:ah (Ws A a c q d b [.b (d==b) true])):
 aY (av Tryz.f243 0) (iA e f g A a) .ret (rp false):=
 h.aR [2] []
theorem atO(h:ah (Ws A a f q g d [.b (g==d) false,.u a])):
 aY (av Tryz.f243 0) (iA b c e A a) .normal (iA b c e A (a+1)):=
 h.aR [5,1] [1]
theorem TD(h:ah (Nz A a e q [.n q false,.b (decide (a>0)) false,.u a])):
 aY (av Tryz.f243 0) (iA b c d A a) .normal (iA b c d A (a+1)):=
 h.aR [5,1] [1]
def sw:aG:=bp 93 [] []
theorem My(h:ah [.f A a false]):
 aY (av Tryz.f243 0) (iA b c d A a) (.exit 1) sw:=
 h.aR [] []
theorem atP(h:ah (CX a b q r c A [.b (a==8) true,.b (decide ((A.length:Int)>0)) false,.l [] [5,1] [1] (av Tryz.f243 0) (iA a b c A 0) .ret (rp s)])):
 aw 243 [.agg (bF a b c A)] [al s]:=
 h.of
theorem atQ(h:ah (CX a b q r c A [.b (a==8) true,.b (decide ((A.length:Int)>0)) false,.l [] [5,1] [1] (av Tryz.f243 0) (iA a b c A 0) (.exit 1) sw])):
 aw 243 [.agg (bF a b c A)] [al true]:=
 h.of
theorem atS(h:ah (CX a b q r c A [.b (a==8) false,.l [] [5,1] [1] (av Tryz.f243 0) (iA a b c A 0) .ret (rp s)])):
 aw 243 [.agg (bF a b c A)] [al s]:=
 h.of
theorem atT(h:ah (CX a b q r c A [.b (a==8) false,.l [] [5,1] [1] (av Tryz.f243 0) (iA a b c A 0) (.exit 1) sw])):
 aw 243 [.agg (bF a b c A)] [al true]:=
 h.of
def Wt(a:Int)(l:List O):List O:=.b (a==2) false::l
def Wu(a:Int)(l:List O):List O:=Wt a (.b (a==3) true::l)
def NA(a b:Int)(q:Bool)(c:Int)(r s:Bool)(l:List O):List O:=Wu a (.r 168 [ag b,ag 1,ag 10] [al q]::.a .wr::.r 168 [ag c,ag 0,ag (IntKind.i64.wrap (b-1))] [al r]::.r 168 [ag a,ag 1,ag 8] [al s]::l)
theorem atU(h:ah (NA a b r c s q [.n q true])):
 aw 243 [.agg (bF a b c A)] [al false]:=
 h.of
theorem atV(h:ah (NA a b q c s r [.n r false,.n q true])):
 aw 243 [.agg (bF a b c A)] [al false]:=
 h.of
def NB(a b:Int)(q:Bool)(c:Int)(r s:Bool)(l:List O):List O:=NA a b q c r s (.n s false::.n q false::l)
theorem atW(h:ah (NB a b q c r s [.n r true])):
 aw 243 [.agg (bF a b c A)] [al false]:=
 h.of
theorem atX(h:ah (NB a b q c r s [.n r false,.b (decide ((A.length:Int)>2)) true])):
 aw 243 [.agg (bF a b c A)] [al false]:=
 h.of
def CZ(a b:Int)(q:Bool)(c:Int)(r s:Bool)(A:ak)(l:List O):List O:=NB a b q c r s (.n r false::.b (decide ((A.length:Int)>2)) false::l)
theorem atY(h:ah (CZ a b q c r s A [.b (a==8) true,.b (decide ((A.length:Int)>0)) true])):
 aw 243 [.agg (bF a b c A)] [al false]:=
 h.of
theorem atZ(h:ah (CZ a b q c r s A [.b (a==8) true,.b (decide ((A.length:Int)>0)) false,.l [] [5,1] [1] (av Tryz.f243 0) (iA a b c A 0) .ret (rp t)])):
 aw 243 [.agg (bF a b c A)] [al t]:=
 h.of
theorem at0(h:ah (CZ a b q c r s A [.b (a==8) true,.b (decide ((A.length:Int)>0)) false,.l [] [5,1] [1] (av Tryz.f243 0) (iA a b c A 0) (.exit 1) sw])):
 aw 243 [.agg (bF a b c A)] [al true]:=
 h.of
theorem at1(h:ah (CZ a b q c r s A [.b (a==8) false,.l [] [5,1] [1] (av Tryz.f243 0) (iA a b c A 0) .ret (rp t)])):
 aw 243 [.agg (bF a b c A)] [al t]:=
 h.of
theorem at2(h:ah (CZ a b q c r s A [.b (a==8) false,.l [] [5,1] [1] (av Tryz.f243 0) (iA a b c A 0) (.exit 1) sw])):
 aw 243 [.agg (bF a b c A)] [al true]:=
 h.of
def Wy(a:Int)(l:List O):List O:=Wt a (.b (a==3) false::l)
def Wz(a:Int)(l:List O):List O:=Wy a (.b (a==4) true::l)
def WA(a b:Int)(q r:Bool)(l:List O):List O:=Wz a (.r 168 [ag b,ag 0,ag 99] [al q]::.r 168 [ag a,ag 1,ag 8] [al r]::l)
theorem at3(h:ah (WA a b r q [.n q true])):
 aw 243 [.agg (bF a b c A)] [al false]:=
 h.of
def C6(a b:Int)(q r:Bool)(l:List O):List O:=WA a b q r (.n r false::l)
theorem at4(h:ah (C6 a b q r [.n q true])):
 aw 243 [.agg (bF a b c A)] [al false]:=
 h.of
theorem at5(h:ah (C6 a b q r [.n q false,.b (!c==0) true])):
 aw 243 [.agg (bF a b c A)] [al false]:=
 h.of
def WJ(a b:Int)(q r:Bool)(c:Int)(l:List O):List O:=C6 a b q r (.n q false::.b (!c==0) false::l)
theorem at6(h:ah (WJ a b q r c [.b (decide ((A.length:Int)>2)) true])):
 aw 243 [.agg (bF a b c A)] [al false]:=
 h.of
def C7(a b:Int)(q r:Bool)(c:Int)(A:ak)(l:List O):List O:=WJ a b q r c (.b (decide ((A.length:Int)>2)) false::l)
theorem at7(h:ah (C7 a b q r c A [.b (a==8) true,.b (decide ((A.length:Int)>0)) true])):
 aw 243 [.agg (bF a b c A)] [al false]:=
 h.of
theorem at8(h:ah (C7 a b q r c A [.b (a==8) true,.b (decide ((A.length:Int)>0)) false,.l [] [5,1] [1] (av Tryz.f243 0) (iA a b c A 0) .ret (rp s)])):
 aw 243 [.agg (bF a b c A)] [al s]:=
 h.of
theorem ati(h:ah (C7 a b q r c A [.b (a==8) true,.b (decide ((A.length:Int)>0)) false,.l [] [5,1] [1] (av Tryz.f243 0) (iA a b c A 0) (.exit 1) sw])):
 aw 243 [.agg (bF a b c A)] [al true]:=
 h.of
theorem atj(h:ah (C7 a b q r c A [.b (a==8) false,.l [] [5,1] [1] (av Tryz.f243 0) (iA a b c A 0) .ret (rp s)])):
 aw 243 [.agg (bF a b c A)] [al s]:=
 h.of
theorem atk(h:ah (C7 a b q r c A [.b (a==8) false,.l [] [5,1] [1] (av Tryz.f243 0) (iA a b c A 0) (.exit 1) sw])):
 aw 243 [.agg (bF a b c A)] [al true]:=
 h.of
def NV(a:Int)(l:List O):List O:=Wy a (.b (a==4) false::l)
def W1(a:Int)(q:Bool)(l:List O):List O:=NV a (.r 168 [ag a,ag 1,ag 8] [al q]::l)
theorem atl(h:ah (W1 a q [.n q true])):
 aw 243 [.agg (bF a b c A)] [al false]:=
 h.of
def W2(a:Int)(q:Bool)(l:List O):List O:=W1 a q (.n q false::l)
theorem atm(h:ah (W2 a q [.b (!b==0) true])):
 aw 243 [.agg (bF a b c A)] [al false]:=
 h.of
def W3(a:Int)(q:Bool)(b:Int)(l:List O):List O:=W2 a q (.b (!b==0) false::l)
theorem atn(h:ah (W3 a q b [.b (!c==0) true])):
 aw 243 [.agg (bF a b c A)] [al false]:=
 h.of
def W4(a:Int)(q:Bool)(b c:Int)(l:List O):List O:=W3 a q b (.b (!c==0) false::l)
theorem ato(h:ah (W4 a q b c [.b (decide ((A.length:Int)>2)) true])):
 aw 243 [.agg (bF a b c A)] [al false]:=
 h.of
def C'(a:Int)(q:Bool)(b c:Int)(A:ak)(l:List O):List O:=W4 a q b c (.b (decide ((A.length:Int)>2)) false::l)
theorem atp(h:ah (C' a q b c A [.b (a==8) true,.b (decide ((A.length:Int)>0)) true])):
 aw 243 [.agg (bF a b c A)] [al false]:=
 h.of
theorem atq(h:ah (C' a q b c A [.b (a==8) true,.b (decide ((A.length:Int)>0)) false,.l [] [5,1] [1] (av Tryz.f243 0) (iA a b c A 0) .ret (rp r)])):
 aw 243 [.agg (bF a b c A)] [al r]:=
 h.of
theorem atr(h:ah (C' a q b c A [.b (a==8) true,.b (decide ((A.length:Int)>0)) false,.l [] [5,1] [1] (av Tryz.f243 0) (iA a b c A 0) (.exit 1) sw])):
 aw 243 [.agg (bF a b c A)] [al true]:=
 h.of
theorem ats(h:ah (C' a q b c A [.b (a==8) false,.l [] [5,1] [1] (av Tryz.f243 0) (iA a b c A 0) .ret (rp r)])):
 aw 243 [.agg (bF a b c A)] [al r]:=
 h.of
theorem att(h:ah (C' a q b c A [.b (a==8) false,.l [] [5,1] [1] (av Tryz.f243 0) (iA a b c A 0) (.exit 1) sw])):
 aw 243 [.agg (bF a b c A)] [al true]:=
 h.of
def Wp(a b:Int)(q:Bool)(l:List O):List O:=WH a (.r 190 [ag b,ag 0,ag 999] [al q]::l)
theorem atu(h:ah (Wp a b q [.n q true])):
 aw 273 [.agg (bF a b c A)] [al false]:=
 h.of
def Wq(a b:Int)(q:Bool)(l:List O):List O:=Wp a b q (.n q false::l)
theorem atv(h:ah (Wq a b q [.b (c != 0) true])):
 aw 273 [.agg (bF a b c A)] [al false]:=
 h.of
def Wr(a b:Int)(q:Bool)(c:Int)(l:List O):List O:=Wq a b q (.b (c != 0) false::l)
theorem atw(h:ah (Wr a b q c [.b (decide ((A.length:Int)>2)) true])):
 aw 273 [.agg (bF a b c A)] [al false]:=
 h.of
def CY(a b:Int)(q:Bool)(c:Int)(A:ak)(l:List O):List O:=Wr a b q c (.b (decide ((A.length:Int)>2)) false::l)
theorem atx(h:ah (CY a b q c A [.b (a==8) true,.b (decide ((A.length:Int)>0)) true])):
 aw 273 [.agg (bF a b c A)] [al false]:=
 h.of
def Nw(a b:Int)(q:Bool)(c:Int)(A:ak)(l:List O):List O:=CY a b q c A (.b (a==8) true::.b (decide ((A.length:Int)>0)) false::l)
def Nx(a b:Int)(q:Bool)(c:Int)(A:ak)(d e:Int)(l:List O):List O:=Nw a b q c A (.b ((A.length:Int)==2) true::.p ((0:Int)<=0)::.p (0<(A.length:Int))::.e A 0 [I d]::.p ((0:Int)<=1)::.p (1<(A.length:Int))::.e A 1 [I e]::l)
theorem aty(h:ah (Nx a b q c A d e [.b (d==e) true])):
 aw 273 [.agg (bF a b c A)] [al false]:=
 h.of
def dL(A:ak)(a:Int):aG:=bp 101 [(91,eP 1 A),(92,bf (A.length:Int)),(93,bf a)] []
def ha(q:Bool):aG:=bp 101 [(2,.bd (.one (.cg q)))] []
theorem atz(h:ah [.i A a [I b],.r 190 [ag b,ag 0,ag 7] [al q],.n q true]):
 aY (av Tryz.f273 0) (dL A a) .ret (ha false):=
 h.aR [2] []
theorem atA(h:ah [.i A a [I b],.r 190 [ag b,ag 0,ag 7] [al q],.n q false,.u a]):
 aY (av Tryz.f273 0) (dL A a) .normal (dL A (a+1)):=
 h.aR [93,92,91] []
def hx:aG:=bp 101 [] []
theorem atB(h:ah [.f A a false]):
 aY (av Tryz.f273 0) (dL A a) (.exit 1) hx:=
 h.aR [] []
theorem atC(h:ah (Nx a b q c A d e [.b (d==e) false,.l [] [93,92,91] [] (av Tryz.f273 0) (dL A 0) .ret (ha r)])):
 aw 273 [.agg (bF a b c A)] [al r]:=
 h.of
theorem atD(h:ah (Nx a b q c A d e [.b (d==e) false,.l [] [93,92,91] [] (av Tryz.f273 0) (dL A 0) (.exit 1) hx])):
 aw 273 [.agg (bF a b c A)] [al true]:=
 h.of
theorem atE(h:ah (Nw a b q c A [.b ((A.length:Int)==2) false,.l [] [93,92,91] [] (av Tryz.f273 0) (dL A 0) .ret (ha r)])):
 aw 273 [.agg (bF a b c A)] [al r]:=
 h.of
theorem atF(h:ah (Nw a b q c A [.b ((A.length:Int)==2) false,.l [] [93,92,91] [] (av Tryz.f273 0) (dL A 0) (.exit 1) hx])):
 aw 273 [.agg (bF a b c A)] [al true]:=
 h.of
def Ny(a b:Int)(q:Bool)(c:Int)(A:ak)(d e:Int)(l:List O):List O:=CY a b q c A (.b (a==8) false::.b ((A.length:Int)==2) true::.p ((0:Int)<=0)::.p (0<(A.length:Int))::.e A 0 [I d]::.p ((0:Int)<=1)::.p (1<(A.length:Int))::.e A 1 [I e]::l)
theorem atG(h:ah (Ny a b q c A d e [.b (d==e) true])):
 aw 273 [.agg (bF a b c A)] [al false]:=
 h.of
theorem atH(h:ah (Ny a b q c A d e [.b (d==e) false,.l [] [93,92,91] [] (av Tryz.f273 0) (dL A 0) .ret (ha r)])):
 aw 273 [.agg (bF a b c A)] [al r]:=
 h.of
theorem as8(h:ah (Ny a b q c A d e [.b (d==e) false,.l [] [93,92,91] [] (av Tryz.f273 0) (dL A 0) (.exit 1) hx])):
 aw 273 [.agg (bF a b c A)] [al true]:=
 h.of
theorem as9(h:ah (CY a b q c A [.b (a==8) false,.b ((A.length:Int)==2) false,.l [] [93,92,91] [] (av Tryz.f273 0) (dL A 0) .ret (ha r)])):
 aw 273 [.agg (bF a b c A)] [al r]:=
 h.of
theorem ata(h:ah (CY a b q c A [.b (a==8) false,.b ((A.length:Int)==2) false,.l [] [93,92,91] [] (av Tryz.f273 0) (dL A 0) (.exit 1) hx])):
 aw 273 [.agg (bF a b c A)] [al true]:=
 h.of
def Wv(a b:Int)(q:Bool)(l:List O):List O:=Wu a (.r 190 [ag b,ag 1,ag 10] [al q]::l)
theorem atb(h:ah (Wv a b q [.n q true])):
 aw 273 [.agg (bF a b c A)] [al false]:=
 h.of
def Ww(a b:Int)(q:Bool)(c:Int)(r:Bool)(l:List O):List O:=Wv a b q (.n q false::.a .wr::.r 190 [ag c,ag 0,ag (IntKind.i64.wrap (b-1))] [al r]::l)
theorem atc(h:ah (Ww a b q c r [.n r true])):
 aw 273 [.agg (bF a b c A)] [al false]:=
 h.of
def Wx(a b:Int)(q:Bool)(c:Int)(r:Bool)(l:List O):List O:=Ww a b q c r (.n r false::l)
theorem atd(h:ah (Wx a b q c r [.b (decide ((A.length:Int)>2)) true])):
 aw 273 [.agg (bF a b c A)] [al false]:=
 h.of
def C0(a b:Int)(q:Bool)(c:Int)(r:Bool)(A:ak)(l:List O):List O:=Wx a b q c r (.b (decide ((A.length:Int)>2)) false::l)
theorem ate(h:ah (C0 a b q c r A [.b (a==8) true,.b (decide ((A.length:Int)>0)) true])):
 aw 273 [.agg (bF a b c A)] [al false]:=
 h.of
def NC(a b:Int)(q:Bool)(c:Int)(r:Bool)(A:ak)(l:List O):List O:=C0 a b q c r A (.b (a==8) true::.b (decide ((A.length:Int)>0)) false::l)
def ND(a b:Int)(q:Bool)(c:Int)(r:Bool)(A:ak)(d e:Int)(l:List O):List O:=NC a b q c r A (.b ((A.length:Int)==2) true::.p ((0:Int)<=0)::.p (0<(A.length:Int))::.e A 0 [I d]::.p ((0:Int)<=1)::.p (1<(A.length:Int))::.e A 1 [I e]::l)
theorem atf(h:ah (ND a b q c r A d e [.b (d==e) true])):
 aw 273 [.agg (bF a b c A)] [al false]:=
 h.of
theorem atg(h:ah (ND a b q c r A d e [.b (d==e) false,.l [] [93,92,91] [] (av Tryz.f273 0) (dL A 0) .ret (ha s)])):
 aw 273 [.agg (bF a b c A)] [al s]:=
 h.of
theorem ath(h:ah (ND a b q c r A d e [.b (d==e) false,.l [] [93,92,91] [] (av Tryz.f273 0) (dL A 0) (.exit 1) hx])):
 aw 273 [.agg (bF a b c A)] [al true]:=
 h.of
theorem auK(h:ah (NC a b q c r A [.b ((A.length:Int)==2) false,.l [] [93,92,91] [] (av Tryz.f273 0) (dL A 0) .ret (ha s)])):
 aw 273 [.agg (bF a b c A)] [al s]:=
 h.of
theorem auL(h:ah (NC a b q c r A [.b ((A.length:Int)==2) false,.l [] [93,92,91] [] (av Tryz.f273 0) (dL A 0) (.exit 1) hx])):
 aw 273 [.agg (bF a b c A)] [al true]:=
 h.of
def NE(a b:Int)(q:Bool)(c:Int)(r:Bool)(A:ak)(d e:Int)(l:List O):List O:=C0 a b q c r A (.b (a==8) false::.b ((A.length:Int)==2) true::.p ((0:Int)<=0)::.p (0<(A.length:Int))::.e A 0 [I d]::.p ((0:Int)<=1)::.p (1<(A.length:Int))::.e A 1 [I e]::l)
theorem auM(h:ah (NE a b q c r A d e [.b (d==e) true])):
 aw 273 [.agg (bF a b c A)] [al false]:=
 h.of
theorem auN(h:ah (NE a b q c r A d e [.b (d==e) false,.l [] [93,92,91] [] (av Tryz.f273 0) (dL A 0) .ret (ha s)])):
 aw 273 [.agg (bF a b c A)] [al s]:=
 h.of
theorem auO(h:ah (NE a b q c r A d e [.b (d==e) false,.l [] [93,92,91] [] (av Tryz.f273 0) (dL A 0) (.exit 1) hx])):
 aw 273 [.agg (bF a b c A)] [al true]:=
 h.of
theorem auP(h:ah (C0 a b q c r A [.b (a==8) false,.b ((A.length:Int)==2) false,.l [] [93,92,91] [] (av Tryz.f273 0) (dL A 0) .ret (ha s)])):
 aw 273 [.agg (bF a b c A)] [al s]:=
 h.of
theorem auQ(h:ah (C0 a b q c r A [.b (a==8) false,.b ((A.length:Int)==2) false,.l [] [93,92,91] [] (av Tryz.f273 0) (dL A 0) (.exit 1) hx])):
 aw 273 [.agg (bF a b c A)] [al true]:=
 h.of
def G7(a b:Int)(q:Bool)(l:List O):List O:=Wz a (.r 190 [ag b,ag 0,ag 99] [al q]::l)
theorem auR(h:ah (G7 a b q [.n q true])):
 aw 273 [.agg (bF a b c A)] [al false]:=
 h.of
def G8(a b:Int)(q:Bool)(l:List O):List O:=G7 a b q (.n q false::l)
theorem auS(h:ah (G8 a b q [.b (c != 0) true])):
 aw 273 [.agg (bF a b c A)] [al false]:=
 h.of
def WK(a b:Int)(q:Bool)(c:Int)(l:List O):List O:=G8 a b q (.b (c != 0) false::l)
theorem auT(h:ah (WK a b q c [.b (decide ((A.length:Int)>2)) true])):
 aw 273 [.agg (bF a b c A)] [al false]:=
 h.of
def C8(a b:Int)(q:Bool)(c:Int)(A:ak)(l:List O):List O:=WK a b q c (.b (decide ((A.length:Int)>2)) false::l)
theorem auU(h:ah (C8 a b q c A [.b (a==8) true,.b (decide ((A.length:Int)>0)) true])):
 aw 273 [.agg (bF a b c A)] [al false]:=
 h.of
def NK(a b:Int)(q:Bool)(c:Int)(A:ak)(l:List O):List O:=C8 a b q c A (.b (a==8) true::.b (decide ((A.length:Int)>0)) false::l)
def NL(a b:Int)(q:Bool)(c:Int)(A:ak)(d e:Int)(l:List O):List O:=NK a b q c A (.b ((A.length:Int)==2) true::.p ((0:Int)<=0)::.p (0<(A.length:Int))::.e A 0 [I d]::.p ((0:Int)<=1)::.p (1<(A.length:Int))::.e A 1 [I e]::l)
theorem auV(h:ah (NL a b q c A d e [.b (d==e) true])):
 aw 273 [.agg (bF a b c A)] [al false]:=
 h.of
theorem auW(h:ah (NL a b q c A d e [.b (d==e) false,.l [] [93,92,91] [] (av Tryz.f273 0) (dL A 0) .ret (ha r)])):
 aw 273 [.agg (bF a b c A)] [al r]:=
 h.of
theorem auX(h:ah (NL a b q c A d e [.b (d==e) false,.l [] [93,92,91] [] (av Tryz.f273 0) (dL A 0) (.exit 1) hx])):
 aw 273 [.agg (bF a b c A)] [al true]:=
 h.of
theorem auY(h:ah (NK a b q c A [.b ((A.length:Int)==2) false,.l [] [93,92,91] [] (av Tryz.f273 0) (dL A 0) .ret (ha r)])):
 aw 273 [.agg (bF a b c A)] [al r]:=
 h.of
theorem auZ(h:ah (NK a b q c A [.b ((A.length:Int)==2) false,.l [] [93,92,91] [] (av Tryz.f273 0) (dL A 0) (.exit 1) hx])):
 aw 273 [.agg (bF a b c A)] [al true]:=
 h.of
def NM(a b:Int)(q:Bool)(c:Int)(A:ak)(d e:Int)(l:List O):List O:=C8 a b q c A (.b (a==8) false::.b ((A.length:Int)==2) true::.p ((0:Int)<=0)::.p (0<(A.length:Int))::.e A 0 [I d]::.p ((0:Int)<=1)::.p (1<(A.length:Int))::.e A 1 [I e]::l)
theorem au0(h:ah (NM a b q c A d e [.b (d==e) true])):
 aw 273 [.agg (bF a b c A)] [al false]:=
 h.of
theorem au1(h:ah (NM a b q c A d e [.b (d==e) false,.l [] [93,92,91] [] (av Tryz.f273 0) (dL A 0) .ret (ha r)])):
 aw 273 [.agg (bF a b c A)] [al r]:=
 h.of
theorem au2(h:ah (NM a b q c A d e [.b (d==e) false,.l [] [93,92,91] [] (av Tryz.f273 0) (dL A 0) (.exit 1) hx])):
 aw 273 [.agg (bF a b c A)] [al true]:=
 h.of
theorem au3(h:ah (C8 a b q c A [.b (a==8) false,.b ((A.length:Int)==2) false,.l [] [93,92,91] [] (av Tryz.f273 0) (dL A 0) .ret (ha r)])):
 aw 273 [.agg (bF a b c A)] [al r]:=
 h.of
theorem au4(h:ah (C8 a b q c A [.b (a==8) false,.b ((A.length:Int)==2) false,.l [] [93,92,91] [] (av Tryz.f273 0) (dL A 0) (.exit 1) hx])):
 aw 273 [.agg (bF a b c A)] [al true]:=
 h.of
def W5(a:Int)(l:List O):List O:=NV a (.b (a==1) true::.b (a==1) true::l)
theorem au5(h:ah (W5 a [.b (b != 0) true])):
 aw 273 [.agg (bF a b c A)] [al false]:=
 h.of
def W6(a b:Int)(l:List O):List O:=W5 a (.b (b != 0) false::l)
theorem au6(h:ah (W6 a b [.b (c != 0) true])):
 aw 273 [.agg (bF a b c A)] [al false]:=
 h.of
def W7(a b c:Int)(l:List O):List O:=W6 a b (.b (c != 0) false::l)
theorem au7(h:ah (W7 a b c [.b (decide ((A.length:Int)>2)) true])):
 aw 273 [.agg (bF a b c A)] [al false]:=
 h.of
def Ha(a b c:Int)(A:ak)(l:List O):List O:=W7 a b c (.b (decide ((A.length:Int)>2)) false::l)
def W8(a b c:Int)(A:ak)(l:List O):List O:=Ha a b c A (.b (a==8) true::l)
theorem au8(h:ah (W8 a b c A [.b (decide ((A.length:Int)>0)) true])):
 aw 273 [.agg (bF a b c A)] [al false]:=
 h.of
def NW(a b c:Int)(A:ak)(l:List O):List O:=W8 a b c A (.b (decide ((A.length:Int)>0)) false::l)
def NY(a b c:Int)(A:ak)(d e:Int)(l:List O):List O:=NW a b c A (.b ((A.length:Int)==2) true::.p ((0:Int)<=0)::.p (0<(A.length:Int))::.e A 0 [I d]::.p ((0:Int)<=1)::.p (1<(A.length:Int))::.e A 1 [I e]::l)
theorem au9(h:ah (NY a b c A d e [.b (d==e) true])):
 aw 273 [.agg (bF a b c A)] [al false]:=
 h.of
theorem auj(h:ah (NY a b c A d e [.b (d==e) false,.l [] [93,92,91] [] (av Tryz.f273 0) (dL A 0) .ret (ha q)])):
 aw 273 [.agg (bF a b c A)] [al q]:=
 h.of
theorem auk(h:ah (NY a b c A d e [.b (d==e) false,.l [] [93,92,91] [] (av Tryz.f273 0) (dL A 0) (.exit 1) hx])):
 aw 273 [.agg (bF a b c A)] [al true]:=
 h.of
theorem aul(h:ah (NW a b c A [.b ((A.length:Int)==2) false,.l [] [93,92,91] [] (av Tryz.f273 0) (dL A 0) .ret (ha q)])):
 aw 273 [.agg (bF a b c A)] [al q]:=
 h.of
theorem aum(h:ah (NW a b c A [.b ((A.length:Int)==2) false,.l [] [93,92,91] [] (av Tryz.f273 0) (dL A 0) (.exit 1) hx])):
 aw 273 [.agg (bF a b c A)] [al true]:=
 h.of
def NZ(a b c:Int)(A:ak)(d e:Int)(l:List O):List O:=Ha a b c A (.b (a==8) false::.b ((A.length:Int)==2) true::.p ((0:Int)<=0)::.p (0<(A.length:Int))::.e A 0 [I d]::.p ((0:Int)<=1)::.p (1<(A.length:Int))::.e A 1 [I e]::l)
theorem aun(h:ah (NZ a b c A d e [.b (d==e) true])):
 aw 273 [.agg (bF a b c A)] [al false]:=
 h.of
theorem auo(h:ah (NZ a b c A d e [.b (d==e) false,.l [] [93,92,91] [] (av Tryz.f273 0) (dL A 0) .ret (ha q)])):
 aw 273 [.agg (bF a b c A)] [al q]:=
 h.of
theorem aup(h:ah (NZ a b c A d e [.b (d==e) false,.l [] [93,92,91] [] (av Tryz.f273 0) (dL A 0) (.exit 1) hx])):
 aw 273 [.agg (bF a b c A)] [al true]:=
 h.of
theorem auq(h:ah (Ha a b c A [.b (a==8) false,.b ((A.length:Int)==2) false,.l [] [93,92,91] [] (av Tryz.f273 0) (dL A 0) .ret (ha q)])):
 aw 273 [.agg (bF a b c A)] [al q]:=
 h.of
theorem aur(h:ah (Ha a b c A [.b (a==8) false,.b ((A.length:Int)==2) false,.l [] [93,92,91] [] (av Tryz.f273 0) (dL A 0) (.exit 1) hx])):
 aw 273 [.agg (bF a b c A)] [al true]:=
 h.of
def W9(a:Int)(l:List O):List O:=NV a (.b (a==1) false::l)
def W'(a:Int)(l:List O):List O:=W9 a (.b (a==5) true::.b (a==5) true::l)
theorem aus(h:ah (W' a [.b (b != 0) true])):
 aw 273 [.agg (bF a b c A)] [al false]:=
 h.of
def Xa(a b:Int)(l:List O):List O:=W' a (.b (b != 0) false::l)
theorem aut(h:ah (Xa a b [.b (c != 0) true])):
 aw 273 [.agg (bF a b c A)] [al false]:=
 h.of
def Xb(a b c:Int)(l:List O):List O:=Xa a b (.b (c != 0) false::l)
theorem auu(h:ah (Xb a b c [.b (decide ((A.length:Int)>2)) true])):
 aw 273 [.agg (bF a b c A)] [al false]:=
 h.of
def Hb(a b c:Int)(A:ak)(l:List O):List O:=Xb a b c (.b (decide ((A.length:Int)>2)) false::l)
def Xc(a b c:Int)(A:ak)(l:List O):List O:=Hb a b c A (.b (a==8) true::l)
theorem auv(h:ah (Xc a b c A [.b (decide ((A.length:Int)>0)) true])):
 aw 273 [.agg (bF a b c A)] [al false]:=
 h.of
def N0(a b c:Int)(A:ak)(l:List O):List O:=Xc a b c A (.b (decide ((A.length:Int)>0)) false::l)
def N1(a b c:Int)(A:ak)(d e:Int)(l:List O):List O:=N0 a b c A (.b ((A.length:Int)==2) true::.p ((0:Int)<=0)::.p (0<(A.length:Int))::.e A 0 [I d]::.p ((0:Int)<=1)::.p (1<(A.length:Int))::.e A 1 [I e]::l)
theorem auw(h:ah (N1 a b c A d e [.b (d==e) true])):
 aw 273 [.agg (bF a b c A)] [al false]:=
 h.of
theorem auy(h:ah (N1 a b c A d e [.b (d==e) false,.l [] [93,92,91] [] (av Tryz.f273 0) (dL A 0) .ret (ha q)])):
 aw 273 [.agg (bF a b c A)] [al q]:=
 h.of
theorem auz(h:ah (N1 a b c A d e [.b (d==e) false,.l [] [93,92,91] [] (av Tryz.f273 0) (dL A 0) (.exit 1) hx])):
 aw 273 [.agg (bF a b c A)] [al true]:=
 h.of
theorem auA(h:ah (N0 a b c A [.b ((A.length:Int)==2) false,.l [] [93,92,91] [] (av Tryz.f273 0) (dL A 0) .ret (ha q)])):
 aw 273 [.agg (bF a b c A)] [al q]:=
 h.of
theorem auB(h:ah (N0 a b c A [.b ((A.length:Int)==2) false,.l [] [93,92,91] [] (av Tryz.f273 0) (dL A 0) (.exit 1) hx])):
 aw 273 [.agg (bF a b c A)] [al true]:=
 h.of
def N2(a b c:Int)(A:ak)(d e:Int)(l:List O):List O:=Hb a b c A (.b (a==8) false::.b ((A.length:Int)==2) true::.p ((0:Int)<=0)::.p (0<(A.length:Int))::.e A 0 [I d]::.p ((0:Int)<=1)::.p (1<(A.length:Int))::.e A 1 [I e]::l)
theorem auC(h:ah (N2 a b c A d e [.b (d==e) true])):
 aw 273 [.agg (bF a b c A)] [al false]:=
 h.of
theorem auD(h:ah (N2 a b c A d e [.b (d==e) false,.l [] [93,92,91] [] (av Tryz.f273 0) (dL A 0) .ret (ha q)])):
 aw 273 [.agg (bF a b c A)] [al q]:=
 h.of
theorem auE(h:ah (N2 a b c A d e [.b (d==e) false,.l [] [93,92,91] [] (av Tryz.f273 0) (dL A 0) (.exit 1) hx])):
 aw 273 [.agg (bF a b c A)] [al true]:=
 h.of
theorem auF(h:ah (Hb a b c A [.b (a==8) false,.b ((A.length:Int)==2) false,.l [] [93,92,91] [] (av Tryz.f273 0) (dL A 0) .ret (ha q)])):
 aw 273 [.agg (bF a b c A)] [al q]:=
 h.of
theorem auG(h:ah (Hb a b c A [.b (a==8) false,.b ((A.length:Int)==2) false,.l [] [93,92,91] [] (av Tryz.f273 0) (dL A 0) (.exit 1) hx])):
 aw 273 [.agg (bF a b c A)] [al true]:=
 h.of
def Xd(a:Int)(l:List O):List O:=W9 a (.b (a==5) false::l)
def Xe(a:Int)(l:List O):List O:=Xd a (.b (a==6) true::.b (a==6) true::l)
theorem auH(h:ah (Xe a [.b (b != 0) true])):
 aw 273 [.agg (bF a b c A)] [al false]:=
 h.of
def Xf(a b:Int)(l:List O):List O:=Xe a (.b (b != 0) false::l)
theorem auI(h:ah (Xf a b [.b (c != 0) true])):
 aw 273 [.agg (bF a b c A)] [al false]:=
 h.of
def WL(a b c:Int)(l:List O):List O:=Xf a b (.b (c != 0) false::l)
theorem auJ(h:ah (WL a b c [.b (decide ((A.length:Int)>2)) true])):
 aw 273 [.agg (bF a b c A)] [al false]:=
 h.of
def G9(a b c:Int)(A:ak)(l:List O):List O:=WL a b c (.b (decide ((A.length:Int)>2)) false::l)
def WM(a b c:Int)(A:ak)(l:List O):List O:=G9 a b c A (.b (a==8) true::l)
theorem at9(h:ah (WM a b c A [.b (decide ((A.length:Int)>0)) true])):
 aw 273 [.agg (bF a b c A)] [al false]:=
 h.of
def NN(a b c:Int)(A:ak)(l:List O):List O:=WM a b c A (.b (decide ((A.length:Int)>0)) false::l)
def NO(a b c:Int)(A:ak)(d e:Int)(l:List O):List O:=NN a b c A (.b ((A.length:Int)==2) true::.p ((0:Int)<=0)::.p (0<(A.length:Int))::.e A 0 [I d]::.p ((0:Int)<=1)::.p (1<(A.length:Int))::.e A 1 [I e]::l)
theorem aua(h:ah (NO a b c A d e [.b (d==e) true])):
 aw 273 [.agg (bF a b c A)] [al false]:=
 h.of
theorem aub(h:ah (NO a b c A d e [.b (d==e) false,.l [] [93,92,91] [] (av Tryz.f273 0) (dL A 0) .ret (ha q)])):
 aw 273 [.agg (bF a b c A)] [al q]:=
 h.of
theorem auc(h:ah (NO a b c A d e [.b (d==e) false,.l [] [93,92,91] [] (av Tryz.f273 0) (dL A 0) (.exit 1) hx])):
 aw 273 [.agg (bF a b c A)] [al true]:=
 h.of
theorem aud(h:ah (NN a b c A [.b ((A.length:Int)==2) false,.l [] [93,92,91] [] (av Tryz.f273 0) (dL A 0) .ret (ha q)])):
 aw 273 [.agg (bF a b c A)] [al q]:=
 h.of
theorem aue(h:ah (NN a b c A [.b ((A.length:Int)==2) false,.l [] [93,92,91] [] (av Tryz.f273 0) (dL A 0) (.exit 1) hx])):
 aw 273 [.agg (bF a b c A)] [al true]:=
 h.of
def NP(a b c:Int)(A:ak)(d e:Int)(l:List O):List O:=G9 a b c A (.b (a==8) false::.b ((A.length:Int)==2) true::.p ((0:Int)<=0)::.p (0<(A.length:Int))::.e A 0 [I d]::.p ((0:Int)<=1)::.p (1<(A.length:Int))::.e A 1 [I e]::l)
theorem auf(h:ah (NP a b c A d e [.b (d==e) true])):
 aw 273 [.agg (bF a b c A)] [al false]:=
 h.of
theorem aug(h:ah (NP a b c A d e [.b (d==e) false,.l [] [93,92,91] [] (av Tryz.f273 0) (dL A 0) .ret (ha q)])):
 aw 273 [.agg (bF a b c A)] [al q]:=
 h.of
theorem auh(h:ah (NP a b c A d e [.b (d==e) false,.l [] [93,92,91] [] (av Tryz.f273 0) (dL A 0) (.exit 1) hx])):
 aw 273 [.agg (bF a b c A)] [al true]:=
 h.of
theorem aui(h:ah (G9 a b c A [.b (a==8) false,.b ((A.length:Int)==2) false,.l [] [93,92,91] [] (av Tryz.f273 0) (dL A 0) .ret (ha q)])):
 aw 273 [.agg (bF a b c A)] [al q]:=
 h.of
theorem abN(h:ah (G9 a b c A [.b (a==8) false,.b ((A.length:Int)==2) false,.l [] [93,92,91] [] (av Tryz.f273 0) (dL A 0) (.exit 1) hx])):
 aw 273 [.agg (bF a b c A)] [al true]:=
 h.of
def WN(a:Int)(l:List O):List O:=Xd a (.b (a==6) false::l)
def WO(a:Int)(l:List O):List O:=WN a (.b (a==7) true::.b (a==7) true::l)
theorem abO(h:ah (WO a [.b (b != 0) true])):
 aw 273 [.agg (bF a b c A)] [al false]:=
 h.of
def WQ(a b:Int)(l:List O):List O:=WO a (.b (b != 0) false::l)
theorem abP(h:ah (WQ a b [.b (c != 0) true])):
 aw 273 [.agg (bF a b c A)] [al false]:=
 h.of
def WR(a b c:Int)(l:List O):List O:=WQ a b (.b (c != 0) false::l)
theorem abQ(h:ah (WR a b c [.b (decide ((A.length:Int)>2)) true])):
 aw 273 [.agg (bF a b c A)] [al false]:=
 h.of
def G'(a b c:Int)(A:ak)(l:List O):List O:=WR a b c (.b (decide ((A.length:Int)>2)) false::l)
def WS(a b c:Int)(A:ak)(l:List O):List O:=G' a b c A (.b (a==8) true::l)
theorem abR(h:ah (WS a b c A [.b (decide ((A.length:Int)>0)) true])):
 aw 273 [.agg (bF a b c A)] [al false]:=
 h.of
def NQ(a b c:Int)(A:ak)(l:List O):List O:=WS a b c A (.b (decide ((A.length:Int)>0)) false::l)
def NR(a b c:Int)(A:ak)(d e:Int)(l:List O):List O:=NQ a b c A (.b ((A.length:Int)==2) true::.p ((0:Int)<=0)::.p (0<(A.length:Int))::.e A 0 [I d]::.p ((0:Int)<=1)::.p (1<(A.length:Int))::.e A 1 [I e]::l)
theorem abS(h:ah (NR a b c A d e [.b (d==e) true])):
 aw 273 [.agg (bF a b c A)] [al false]:=
 h.of
theorem abT(h:ah (NR a b c A d e [.b (d==e) false,.l [] [93,92,91] [] (av Tryz.f273 0) (dL A 0) .ret (ha q)])):
 aw 273 [.agg (bF a b c A)] [al q]:=
 h.of
theorem abU(h:ah (NR a b c A d e [.b (d==e) false,.l [] [93,92,91] [] (av Tryz.f273 0) (dL A 0) (.exit 1) hx])):
 aw 273 [.agg (bF a b c A)] [al true]:=
 h.of
theorem abV(h:ah (NQ a b c A [.b ((A.length:Int)==2) false,.l [] [93,92,91] [] (av Tryz.f273 0) (dL A 0) .ret (ha q)])):
 aw 273 [.agg (bF a b c A)] [al q]:=
 h.of
theorem abW(h:ah (NQ a b c A [.b ((A.length:Int)==2) false,.l [] [93,92,91] [] (av Tryz.f273 0) (dL A 0) (.exit 1) hx])):
 aw 273 [.agg (bF a b c A)] [al true]:=
 h.of
def NS(a b c:Int)(A:ak)(d e:Int)(l:List O):List O:=G' a b c A (.b (a==8) false::.b ((A.length:Int)==2) true::.p ((0:Int)<=0)::.p (0<(A.length:Int))::.e A 0 [I d]::.p ((0:Int)<=1)::.p (1<(A.length:Int))::.e A 1 [I e]::l)
theorem abX(h:ah (NS a b c A d e [.b (d==e) true])):
 aw 273 [.agg (bF a b c A)] [al false]:=
 h.of
theorem abY(h:ah (NS a b c A d e [.b (d==e) false,.l [] [93,92,91] [] (av Tryz.f273 0) (dL A 0) .ret (ha q)])):
 aw 273 [.agg (bF a b c A)] [al q]:=
 h.of
theorem abZ(h:ah (NS a b c A d e [.b (d==e) false,.l [] [93,92,91] [] (av Tryz.f273 0) (dL A 0) (.exit 1) hx])):
 aw 273 [.agg (bF a b c A)] [al true]:=
 h.of
theorem ab0(h:ah (G' a b c A [.b (a==8) false,.b ((A.length:Int)==2) false,.l [] [93,92,91] [] (av Tryz.f273 0) (dL A 0) .ret (ha q)])):
 aw 273 [.agg (bF a b c A)] [al q]:=
 h.of
theorem ab1(h:ah (G' a b c A [.b (a==8) false,.b ((A.length:Int)==2) false,.l [] [93,92,91] [] (av Tryz.f273 0) (dL A 0) (.exit 1) hx])):
 aw 273 [.agg (bF a b c A)] [al true]:=
 h.of
def WT(a:Int)(l:List O):List O:=WN a (.b (a==7) false::l)
def WU(a:Int)(l:List O):List O:=WT a (.b (a==8) true::l)
theorem ab2(h:ah (WU a [.b (b != 0) true])):
 aw 273 [.agg (bF a b c A)] [al false]:=
 h.of
def WV(a b:Int)(l:List O):List O:=WU a (.b (b != 0) false::l)
theorem ab3(h:ah (WV a b [.b (c != 0) true])):
 aw 273 [.agg (bF a b c A)] [al false]:=
 h.of
def WW(a b c:Int)(l:List O):List O:=WV a b (.b (c != 0) false::l)
theorem ab4(h:ah (WW a b c [.b (decide ((A.length:Int)>2)) true])):
 aw 273 [.agg (bF a b c A)] [al false]:=
 h.of
def WX(a b c:Int)(A:ak)(l:List O):List O:=WW a b c (.b (decide ((A.length:Int)>2)) false::.b (a==8) true::l)
theorem ab5(h:ah (WX a b c A [.b (decide ((A.length:Int)>0)) true])):
 aw 273 [.agg (bF a b c A)] [al false]:=
 h.of
def NT(a b c:Int)(A:ak)(l:List O):List O:=WX a b c A (.b (decide ((A.length:Int)>0)) false::l)
def NU(a b c:Int)(A:ak)(d e:Int)(l:List O):List O:=NT a b c A (.b ((A.length:Int)==2) true::.p ((0:Int)<=0)::.p (0<(A.length:Int))::.e A 0 [I d]::.p ((0:Int)<=1)::.p (1<(A.length:Int))::.e A 1 [I e]::l)
theorem ab6(h:ah (NU a b c A d e [.b (d==e) true])):
 aw 273 [.agg (bF a b c A)] [al false]:=
 h.of
theorem ab7(h:ah (NU a b c A d e [.b (d==e) false,.l [] [93,92,91] [] (av Tryz.f273 0) (dL A 0) .ret (ha q)])):
 aw 273 [.agg (bF a b c A)] [al q]:=
 h.of
theorem ab8(h:ah (NU a b c A d e [.b (d==e) false,.l [] [93,92,91] [] (av Tryz.f273 0) (dL A 0) (.exit 1) hx])):
 aw 273 [.agg (bF a b c A)] [al true]:=
 h.of
theorem ab9(h:ah (NT a b c A [.b ((A.length:Int)==2) false,.l [] [93,92,91] [] (av Tryz.f273 0) (dL A 0) .ret (ha q)])):
 aw 273 [.agg (bF a b c A)] [al q]:=
 h.of
theorem aca(h:ah (NT a b c A [.b ((A.length:Int)==2) false,.l [] [93,92,91] [] (av Tryz.f273 0) (dL A 0) (.exit 1) hx])):
 aw 273 [.agg (bF a b c A)] [al true]:=
 h.of
theorem acb(h:ah (WT a [.b (a==8) false])):
 aw 273 [.agg (bF a b c A)] [al false]:=
 h.of
