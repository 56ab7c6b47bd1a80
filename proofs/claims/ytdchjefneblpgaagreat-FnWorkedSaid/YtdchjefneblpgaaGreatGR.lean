import Derived.Test.YtdchjefneblpgaaGreatGE
namespace Go.Proofs.YtdchjefneblpgaaGreat
open Go.Sx Go.RowKit
variable {a b c d e f g : Int} {A : ae} {q r s t : Bool}
def TZ(a:Int)(l:List O):List O:=.b (a==2) true::l
def T0(a b:Int)(q r:Bool)(l:List O):List O:=TZ a (.r 168 [af b,af 0,af 999] [ah q]::.r 168 [af a,af 1,af 8] [ah r]::l)
theorem apr(h:ad (T0 a b r q [.n q true])):
ar 243 [.agg (bf a b c A)] [ah false]:=
h.of
def Lf(a b:Int)(q r:Bool)(l:List O):List O:=T0 a b q r (.n r false::l)
theorem aps(h:ad (Lf a b q r [.n q true])):
ar 243 [.agg (bf a b c A)] [ah false]:=
h.of
theorem apt(h:ad (Lf a b q r [.n q false,.b (!c==0) true])):
ar 243 [.agg (bf a b c A)] [ah false]:=
h.of
def T1(a b:Int)(q r:Bool)(c:Int)(l:List O):List O:=Lf a b q r (.n q false::.b (!c==0) false::l)
theorem apu(h:ad (T1 a b q r c [.b (decide ((A.length:Int)>2)) true])):
ar 243 [.agg (bf a b c A)] [ah false]:=
h.of
def Au(a b:Int)(q r:Bool)(c:Int)(A:ae)(l:List O):List O:=T1 a b q r c (.b (decide ((A.length:Int)>2)) false::l)
theorem apv(h:ad (Au a b q r c A [.b (a==8) true,.b (decide ((A.length:Int)>0)) true])):
ar 243 [.agg (bf a b c A)] [ah false]:=
h.of
def hb(a b c:Int)(A:ae)(d:Int):aD:=bd 93 [(1,aQ 1),(5,aW d)] [(1,[au a,au b,au c,.J .free 1 A])]
def pA(q:Bool):aD:=bd 93 [(2,.aF (.one (.a' q)))] []
def Lo(A:ae)(a b:Int)(q:Bool)(l:List O):List O:=.i A a [I b]::.r 168 [af b,af 0,af 7] [ah q]::l
theorem J9(h:ad (Lo A a b q [.n q true])):
aY (ao Tryz.f243 0) (hb c d e A a) .ret (pA false):=
h.aV [2] []
def T9(A:ae)(a b:Int)(q:Bool)(c d:Int)(l:List O):List O:=Lo A a b q (.n q false::.b (decide (a>0)) true::.p ((0:Int)<=0)::.p (0<(A.length:Int))::.e A 0 [I c]::.p ((0:Int)<=1)::.p (1<(A.length:Int))::.e A 1 [I d]::l)
theorem apw(h:ad (T9 A a c q d b [.b (d==b) true])):
aY (ao Tryz.f243 0) (hb e f g A a) .ret (pA false):=
h.aV [2] []
theorem apx(h:ad (T9 A a f q g d [.b (g==d) false,.u a])):
aY (ao Tryz.f243 0) (hb b c e A a) .normal (hb b c e A (a+1)):=
h.aV [5,1] [1]
theorem Qx(h:ad (Lo A a e q [.n q false,.b (decide (a>0)) false,.u a])):
aY (ao Tryz.f243 0) (hb b c d A a) .normal (hb b c d A (a+1)):=
h.aV [5,1] [1]
def qj:aD:=bd 93 [] []
theorem J'(h:ad [.f A a false]):
aY (ao Tryz.f243 0) (hb b c d A a) (.exit 1) qj:=
h.aV [] []
theorem apy(h:ad (Au a b q r c A [.b (a==8) true,.b (decide ((A.length:Int)>0)) false,.l [] [5,1] [1] (ao Tryz.f243 0) (hb a b c A 0) .ret (pA s)])):
ar 243 [.agg (bf a b c A)] [ah s]:=
h.of
theorem apz(h:ad (Au a b q r c A [.b (a==8) true,.b (decide ((A.length:Int)>0)) false,.l [] [5,1] [1] (ao Tryz.f243 0) (hb a b c A 0) (.exit 1) qj])):
ar 243 [.agg (bf a b c A)] [ah true]:=
h.of
theorem apA(h:ad (Au a b q r c A [.b (a==8) false,.l [] [5,1] [1] (ao Tryz.f243 0) (hb a b c A 0) .ret (pA s)])):
ar 243 [.agg (bf a b c A)] [ah s]:=
h.of
theorem apB(h:ad (Au a b q r c A [.b (a==8) false,.l [] [5,1] [1] (ao Tryz.f243 0) (hb a b c A 0) (.exit 1) qj])):
ar 243 [.agg (bf a b c A)] [ah true]:=
h.of
def T'(a:Int)(l:List O):List O:=.b (a==2) false::l
def Ua(a:Int)(l:List O):List O:=T' a (.b (a==3) true::l)
def Lv(a b:Int)(q:Bool)(c:Int)(r s:Bool)(l:List O):List O:=Ua a (.r 168 [af b,af 1,af 10] [ah q]::.a .wr::.r 168 [af c,af 0,af (IntKind.i64.wrap (b-1))] [ah r]::.r 168 [af a,af 1,af 8] [ah s]::l)
theorem apC(h:ad (Lv a b r c s q [.n q true])):
ar 243 [.agg (bf a b c A)] [ah false]:=
h.of
theorem apD(h:ad (Lv a b q c s r [.n r false,.n q true])):
ar 243 [.agg (bf a b c A)] [ah false]:=
h.of
def Lw(a b:Int)(q:Bool)(c:Int)(r s:Bool)(l:List O):List O:=Lv a b q c r s (.n s false::.n q false::l)
theorem apE(h:ad (Lw a b q c r s [.n r true])):
ar 243 [.agg (bf a b c A)] [ah false]:=
h.of
theorem apF(h:ad (Lw a b q c r s [.n r false,.b (decide ((A.length:Int)>2)) true])):
ar 243 [.agg (bf a b c A)] [ah false]:=
h.of
def AG(a b:Int)(q:Bool)(c:Int)(r s:Bool)(A:ae)(l:List O):List O:=Lw a b q c r s (.n r false::.b (decide ((A.length:Int)>2)) false::l)
theorem apG(h:ad (AG a b q c r s A [.b (a==8) true,.b (decide ((A.length:Int)>0)) true])):
ar 243 [.agg (bf a b c A)] [ah false]:=
h.of
theorem ao6(h:ad (AG a b q c r s A [.b (a==8) true,.b (decide ((A.length:Int)>0)) false,.l [] [5,1] [1] (ao Tryz.f243 0) (hb a b c A 0) .ret (pA t)])):
ar 243 [.agg (bf a b c A)] [ah t]:=
h.of
theorem ao7(h:ad (AG a b q c r s A [.b (a==8) true,.b (decide ((A.length:Int)>0)) false,.l [] [5,1] [1] (ao Tryz.f243 0) (hb a b c A 0) (.exit 1) qj])):
ar 243 [.agg (bf a b c A)] [ah true]:=
h.of
theorem ao8(h:ad (AG a b q c r s A [.b (a==8) false,.l [] [5,1] [1] (ao Tryz.f243 0) (hb a b c A 0) .ret (pA t)])):
ar 243 [.agg (bf a b c A)] [ah t]:=
h.of
theorem ao9(h:ad (AG a b q c r s A [.b (a==8) false,.l [] [5,1] [1] (ao Tryz.f243 0) (hb a b c A 0) (.exit 1) qj])):
ar 243 [.agg (bf a b c A)] [ah true]:=
h.of
def Uu(a:Int)(l:List O):List O:=T' a (.b (a==3) false::l)
def Uv(a:Int)(l:List O):List O:=Uu a (.b (a==4) true::l)
def Uw(a b:Int)(q r:Bool)(l:List O):List O:=Uv a (.r 168 [af b,af 0,af 99] [ah q]::.r 168 [af a,af 1,af 8] [ah r]::l)
theorem apa(h:ad (Uw a b r q [.n q true])):
ar 243 [.agg (bf a b c A)] [ah false]:=
h.of
def LB(a b:Int)(q r:Bool)(l:List O):List O:=Uw a b q r (.n r false::l)
theorem apb(h:ad (LB a b q r [.n q true])):
ar 243 [.agg (bf a b c A)] [ah false]:=
h.of
theorem apc(h:ad (LB a b q r [.n q false,.b (!c==0) true])):
ar 243 [.agg (bf a b c A)] [ah false]:=
h.of
def Ux(a b:Int)(q r:Bool)(c:Int)(l:List O):List O:=LB a b q r (.n q false::.b (!c==0) false::l)
theorem apd(h:ad (Ux a b q r c [.b (decide ((A.length:Int)>2)) true])):
ar 243 [.agg (bf a b c A)] [ah false]:=
h.of
def AI(a b:Int)(q r:Bool)(c:Int)(A:ae)(l:List O):List O:=Ux a b q r c (.b (decide ((A.length:Int)>2)) false::l)
theorem ape(h:ad (AI a b q r c A [.b (a==8) true,.b (decide ((A.length:Int)>0)) true])):
ar 243 [.agg (bf a b c A)] [ah false]:=
h.of
theorem apf(h:ad (AI a b q r c A [.b (a==8) true,.b (decide ((A.length:Int)>0)) false,.l [] [5,1] [1] (ao Tryz.f243 0) (hb a b c A 0) .ret (pA s)])):
ar 243 [.agg (bf a b c A)] [ah s]:=
h.of
theorem aqH(h:ad (AI a b q r c A [.b (a==8) true,.b (decide ((A.length:Int)>0)) false,.l [] [5,1] [1] (ao Tryz.f243 0) (hb a b c A 0) (.exit 1) qj])):
ar 243 [.agg (bf a b c A)] [ah true]:=
h.of
theorem aqI(h:ad (AI a b q r c A [.b (a==8) false,.l [] [5,1] [1] (ao Tryz.f243 0) (hb a b c A 0) .ret (pA s)])):
ar 243 [.agg (bf a b c A)] [ah s]:=
h.of
theorem aqJ(h:ad (AI a b q r c A [.b (a==8) false,.l [] [5,1] [1] (ao Tryz.f243 0) (hb a b c A 0) (.exit 1) qj])):
ar 243 [.agg (bf a b c A)] [ah true]:=
h.of
def LG(a:Int)(l:List O):List O:=Uu a (.b (a==4) false::l)
def UB(a:Int)(q:Bool)(l:List O):List O:=LG a (.r 168 [af a,af 1,af 8] [ah q]::l)
theorem aqK(h:ad (UB a q [.n q true])):
ar 243 [.agg (bf a b c A)] [ah false]:=
h.of
def UC(a:Int)(q:Bool)(l:List O):List O:=UB a q (.n q false::l)
theorem aqL(h:ad (UC a q [.b (!b==0) true])):
ar 243 [.agg (bf a b c A)] [ah false]:=
h.of
def Ub(a:Int)(q:Bool)(b:Int)(l:List O):List O:=UC a q (.b (!b==0) false::l)
theorem aqM(h:ad (Ub a q b [.b (!c==0) true])):
ar 243 [.agg (bf a b c A)] [ah false]:=
h.of
def Uc(a:Int)(q:Bool)(b c:Int)(l:List O):List O:=Ub a q b (.b (!c==0) false::l)
theorem aqN(h:ad (Uc a q b c [.b (decide ((A.length:Int)>2)) true])):
ar 243 [.agg (bf a b c A)] [ah false]:=
h.of
def AF(a:Int)(q:Bool)(b c:Int)(A:ae)(l:List O):List O:=Uc a q b c (.b (decide ((A.length:Int)>2)) false::l)
theorem aqO(h:ad (AF a q b c A [.b (a==8) true,.b (decide ((A.length:Int)>0)) true])):
ar 243 [.agg (bf a b c A)] [ah false]:=
h.of
theorem aqP(h:ad (AF a q b c A [.b (a==8) true,.b (decide ((A.length:Int)>0)) false,.l [] [5,1] [1] (ao Tryz.f243 0) (hb a b c A 0) .ret (pA r)])):
ar 243 [.agg (bf a b c A)] [ah r]:=
h.of
theorem aqQ(h:ad (AF a q b c A [.b (a==8) true,.b (decide ((A.length:Int)>0)) false,.l [] [5,1] [1] (ao Tryz.f243 0) (hb a b c A 0) (.exit 1) qj])):
ar 243 [.agg (bf a b c A)] [ah true]:=
h.of
theorem aqR(h:ad (AF a q b c A [.b (a==8) false,.l [] [5,1] [1] (ao Tryz.f243 0) (hb a b c A 0) .ret (pA r)])):
ar 243 [.agg (bf a b c A)] [ah r]:=
h.of
theorem aqS(h:ad (AF a q b c A [.b (a==8) false,.l [] [5,1] [1] (ao Tryz.f243 0) (hb a b c A 0) (.exit 1) qj])):
ar 243 [.agg (bf a b c A)] [ah true]:=
h.of
def T2(a b:Int)(q:Bool)(l:List O):List O:=TZ a (.r 190 [af b,af 0,af 999] [ah q]::l)
theorem aqT(h:ad (T2 a b q [.n q true])):
ar 273 [.agg (bf a b c A)] [ah false]:=
h.of
def Eh(a b:Int)(q:Bool)(l:List O):List O:=T2 a b q (.n q false::l)
theorem aqU(h:ad (Eh a b q [.b (c != 0) true])):
ar 273 [.agg (bf a b c A)] [ah false]:=
h.of
def T8(a b:Int)(q:Bool)(c:Int)(l:List O):List O:=Eh a b q (.b (c != 0) false::l)
theorem aqV(h:ad (T8 a b q c [.b (decide ((A.length:Int)>2)) true])):
ar 273 [.agg (bf a b c A)] [ah false]:=
h.of
def AB(a b:Int)(q:Bool)(c:Int)(A:ae)(l:List O):List O:=T8 a b q c (.b (decide ((A.length:Int)>2)) false::l)
theorem aqW(h:ad (AB a b q c A [.b (a==8) true,.b (decide ((A.length:Int)>0)) true])):
ar 273 [.agg (bf a b c A)] [ah false]:=
h.of
def AD(a b:Int)(q:Bool)(c:Int)(A:ae)(l:List O):List O:=AB a b q c A (.b (a==8) true::.b (decide ((A.length:Int)>0)) false::l)
def AE(a b:Int)(q:Bool)(c:Int)(A:ae)(d e:Int)(l:List O):List O:=AD a b q c A (.b ((A.length:Int)==2) true::.p ((0:Int)<=0)::.p (0<(A.length:Int))::.e A 0 [I d]::.p ((0:Int)<=1)::.p (1<(A.length:Int))::.e A 1 [I e]::l)
theorem aqX(h:ad (AE a b q c A d e [.b (d==e) true])):
ar 273 [.agg (bf a b c A)] [ah false]:=
h.of
def di(A:ae)(a:Int):aD:=bd 101 [(91,dj 1 A),(92,aW (A.length:Int)),(93,aW a)] []
def fM(q:Bool):aD:=bd 101 [(2,.aF (.one (.a' q)))] []
theorem aqY(h:ad [.i A a [I b],.r 190 [af b,af 0,af 7] [ah q],.n q true]):
aY (ao Tryz.f273 0) (di A a) .ret (fM false):=
h.aV [2] []
theorem aqZ(h:ad [.i A a [I b],.r 190 [af b,af 0,af 7] [ah q],.n q false,.u a]):
aY (ao Tryz.f273 0) (di A a) .normal (di A (a+1)):=
h.aV [93,92,91] []
def fW:aD:=bd 101 [] []
theorem aq0(h:ad [.f A a false]):
aY (ao Tryz.f273 0) (di A a) (.exit 1) fW:=
h.aV [] []
theorem aq1(h:ad (AE a b q c A d e [.b (d==e) false,.l [] [93,92,91] [] (ao Tryz.f273 0) (di A 0) .ret (fM r)])):
ar 273 [.agg (bf a b c A)] [ah r]:=
h.of
theorem aq2(h:ad (AE a b q c A d e [.b (d==e) false,.l [] [93,92,91] [] (ao Tryz.f273 0) (di A 0) (.exit 1) fW])):
ar 273 [.agg (bf a b c A)] [ah true]:=
h.of
theorem aq3(h:ad (AD a b q c A [.b ((A.length:Int)==2) false,.l [] [93,92,91] [] (ao Tryz.f273 0) (di A 0) .ret (fM r)])):
ar 273 [.agg (bf a b c A)] [ah r]:=
h.of
theorem aq4(h:ad (AD a b q c A [.b ((A.length:Int)==2) false,.l [] [93,92,91] [] (ao Tryz.f273 0) (di A 0) (.exit 1) fW])):
ar 273 [.agg (bf a b c A)] [ah true]:=
h.of
def Ln(a b:Int)(q:Bool)(c:Int)(A:ae)(d e:Int)(l:List O):List O:=AB a b q c A (.b (a==8) false::.b ((A.length:Int)==2) true::.p ((0:Int)<=0)::.p (0<(A.length:Int))::.e A 0 [I d]::.p ((0:Int)<=1)::.p (1<(A.length:Int))::.e A 1 [I e]::l)
theorem aq5(h:ad (Ln a b q c A d e [.b (d==e) true])):
ar 273 [.agg (bf a b c A)] [ah false]:=
h.of
theorem aq6(h:ad (Ln a b q c A d e [.b (d==e) false,.l [] [93,92,91] [] (ao Tryz.f273 0) (di A 0) .ret (fM r)])):
ar 273 [.agg (bf a b c A)] [ah r]:=
h.of
theorem aqh(h:ad (Ln a b q c A d e [.b (d==e) false,.l [] [93,92,91] [] (ao Tryz.f273 0) (di A 0) (.exit 1) fW])):
ar 273 [.agg (bf a b c A)] [ah true]:=
h.of
theorem aqi(h:ad (AB a b q c A [.b (a==8) false,.b ((A.length:Int)==2) false,.l [] [93,92,91] [] (ao Tryz.f273 0) (di A 0) .ret (fM r)])):
ar 273 [.agg (bf a b c A)] [ah r]:=
h.of
theorem aqj(h:ad (AB a b q c A [.b (a==8) false,.b ((A.length:Int)==2) false,.l [] [93,92,91] [] (ao Tryz.f273 0) (di A 0) (.exit 1) fW])):
ar 273 [.agg (bf a b c A)] [ah true]:=
h.of
def Ur(a b:Int)(q:Bool)(l:List O):List O:=Ua a (.r 190 [af b,af 1,af 10] [ah q]::l)
theorem aqk(h:ad (Ur a b q [.n q true])):
ar 273 [.agg (bf a b c A)] [ah false]:=
h.of
def Us(a b:Int)(q:Bool)(c:Int)(r:Bool)(l:List O):List O:=Ur a b q (.n q false::.a .wr::.r 190 [af c,af 0,af (IntKind.i64.wrap (b-1))] [ah r]::l)
theorem aql(h:ad (Us a b q c r [.n r true])):
ar 273 [.agg (bf a b c A)] [ah false]:=
h.of
def Ut(a b:Int)(q:Bool)(c:Int)(r:Bool)(l:List O):List O:=Us a b q c r (.n r false::l)
theorem aqm(h:ad (Ut a b q c r [.b (decide ((A.length:Int)>2)) true])):
ar 273 [.agg (bf a b c A)] [ah false]:=
h.of
def AH(a b:Int)(q:Bool)(c:Int)(r:Bool)(A:ae)(l:List O):List O:=Ut a b q c r (.b (decide ((A.length:Int)>2)) false::l)
theorem aqn(h:ad (AH a b q c r A [.b (a==8) true,.b (decide ((A.length:Int)>0)) true])):
ar 273 [.agg (bf a b c A)] [ah false]:=
h.of
def Lx(a b:Int)(q:Bool)(c:Int)(r:Bool)(A:ae)(l:List O):List O:=AH a b q c r A (.b (a==8) true::.b (decide ((A.length:Int)>0)) false::l)
def Ly(a b:Int)(q:Bool)(c:Int)(r:Bool)(A:ae)(d e:Int)(l:List O):List O:=Lx a b q c r A (.b ((A.length:Int)==2) true::.p ((0:Int)<=0)::.p (0<(A.length:Int))::.e A 0 [I d]::.p ((0:Int)<=1)::.p (1<(A.length:Int))::.e A 1 [I e]::l)
theorem aqo(h:ad (Ly a b q c r A d e [.b (d==e) true])):
ar 273 [.agg (bf a b c A)] [ah false]:=
h.of
theorem aqp(h:ad (Ly a b q c r A d e [.b (d==e) false,.l [] [93,92,91] [] (ao Tryz.f273 0) (di A 0) .ret (fM s)])):
ar 273 [.agg (bf a b c A)] [ah s]:=
h.of
theorem aqq(h:ad (Ly a b q c r A d e [.b (d==e) false,.l [] [93,92,91] [] (ao Tryz.f273 0) (di A 0) (.exit 1) fW])):
ar 273 [.agg (bf a b c A)] [ah true]:=
h.of
theorem aqr(h:ad (Lx a b q c r A [.b ((A.length:Int)==2) false,.l [] [93,92,91] [] (ao Tryz.f273 0) (di A 0) .ret (fM s)])):
ar 273 [.agg (bf a b c A)] [ah s]:=
h.of
theorem aqs(h:ad (Lx a b q c r A [.b ((A.length:Int)==2) false,.l [] [93,92,91] [] (ao Tryz.f273 0) (di A 0) (.exit 1) fW])):
ar 273 [.agg (bf a b c A)] [ah true]:=
h.of
def LA(a b:Int)(q:Bool)(c:Int)(r:Bool)(A:ae)(d e:Int)(l:List O):List O:=AH a b q c r A (.b (a==8) false::.b ((A.length:Int)==2) true::.p ((0:Int)<=0)::.p (0<(A.length:Int))::.e A 0 [I d]::.p ((0:Int)<=1)::.p (1<(A.length:Int))::.e A 1 [I e]::l)
theorem aqt(h:ad (LA a b q c r A d e [.b (d==e) true])):
ar 273 [.agg (bf a b c A)] [ah false]:=
h.of
theorem aqu(h:ad (LA a b q c r A d e [.b (d==e) false,.l [] [93,92,91] [] (ao Tryz.f273 0) (di A 0) .ret (fM s)])):
ar 273 [.agg (bf a b c A)] [ah s]:=
h.of
theorem aqv(h:ad (LA a b q c r A d e [.b (d==e) false,.l [] [93,92,91] [] (ao Tryz.f273 0) (di A 0) (.exit 1) fW])):
ar 273 [.agg (bf a b c A)] [ah true]:=
h.of
theorem aqw(h:ad (AH a b q c r A [.b (a==8) false,.b ((A.length:Int)==2) false,.l [] [93,92,91] [] (ao Tryz.f273 0) (di A 0) .ret (fM s)])):
ar 273 [.agg (bf a b c A)] [ah s]:=
h.of
theorem aqx(h:ad (AH a b q c r A [.b (a==8) false,.b ((A.length:Int)==2) false,.l [] [93,92,91] [] (ao Tryz.f273 0) (di A 0) (.exit 1) fW])):
ar 273 [.agg (bf a b c A)] [ah true]:=
h.of
def Uy(a b:Int)(q:Bool)(l:List O):List O:=Uv a (.r 190 [af b,af 0,af 99] [ah q]::l)
theorem aqy(h:ad (Uy a b q [.n q true])):
ar 273 [.agg (bf a b c A)] [ah false]:=
h.of
def Uz(a b:Int)(q:Bool)(l:List O):List O:=Uy a b q (.n q false::l)
theorem aqz(h:ad (Uz a b q [.b (c != 0) true])):
ar 273 [.agg (bf a b c A)] [ah false]:=
h.of
def UA(a b:Int)(q:Bool)(c:Int)(l:List O):List O:=Uz a b q (.b (c != 0) false::l)
theorem aqA(h:ad (UA a b q c [.b (decide ((A.length:Int)>2)) true])):
ar 273 [.agg (bf a b c A)] [ah false]:=
h.of
def AJ(a b:Int)(q:Bool)(c:Int)(A:ae)(l:List O):List O:=UA a b q c (.b (decide ((A.length:Int)>2)) false::l)
theorem aqB(h:ad (AJ a b q c A [.b (a==8) true,.b (decide ((A.length:Int)>0)) true])):
ar 273 [.agg (bf a b c A)] [ah false]:=
h.of
def LC(a b:Int)(q:Bool)(c:Int)(A:ae)(l:List O):List O:=AJ a b q c A (.b (a==8) true::.b (decide ((A.length:Int)>0)) false::l)
def LD(a b:Int)(q:Bool)(c:Int)(A:ae)(d e:Int)(l:List O):List O:=LC a b q c A (.b ((A.length:Int)==2) true::.p ((0:Int)<=0)::.p (0<(A.length:Int))::.e A 0 [I d]::.p ((0:Int)<=1)::.p (1<(A.length:Int))::.e A 1 [I e]::l)
theorem aqC(h:ad (LD a b q c A d e [.b (d==e) true])):
ar 273 [.agg (bf a b c A)] [ah false]:=
h.of
theorem aqD(h:ad (LD a b q c A d e [.b (d==e) false,.l [] [93,92,91] [] (ao Tryz.f273 0) (di A 0) .ret (fM r)])):
ar 273 [.agg (bf a b c A)] [ah r]:=
h.of
theorem aqE(h:ad (LD a b q c A d e [.b (d==e) false,.l [] [93,92,91] [] (ao Tryz.f273 0) (di A 0) (.exit 1) fW])):
ar 273 [.agg (bf a b c A)] [ah true]:=
h.of
theorem aqF(h:ad (LC a b q c A [.b ((A.length:Int)==2) false,.l [] [93,92,91] [] (ao Tryz.f273 0) (di A 0) .ret (fM r)])):
ar 273 [.agg (bf a b c A)] [ah r]:=
h.of
theorem aqG(h:ad (LC a b q c A [.b ((A.length:Int)==2) false,.l [] [93,92,91] [] (ao Tryz.f273 0) (di A 0) (.exit 1) fW])):
ar 273 [.agg (bf a b c A)] [ah true]:=
h.of
def LF(a b:Int)(q:Bool)(c:Int)(A:ae)(d e:Int)(l:List O):List O:=AJ a b q c A (.b (a==8) false::.b ((A.length:Int)==2) true::.p ((0:Int)<=0)::.p (0<(A.length:Int))::.e A 0 [I d]::.p ((0:Int)<=1)::.p (1<(A.length:Int))::.e A 1 [I e]::l)
theorem ap7(h:ad (LF a b q c A d e [.b (d==e) true])):
ar 273 [.agg (bf a b c A)] [ah false]:=
h.of
theorem ap8(h:ad (LF a b q c A d e [.b (d==e) false,.l [] [93,92,91] [] (ao Tryz.f273 0) (di A 0) .ret (fM r)])):
ar 273 [.agg (bf a b c A)] [ah r]:=
h.of
theorem ap9(h:ad (LF a b q c A d e [.b (d==e) false,.l [] [93,92,91] [] (ao Tryz.f273 0) (di A 0) (.exit 1) fW])):
ar 273 [.agg (bf a b c A)] [ah true]:=
h.of
theorem aqa(h:ad (AJ a b q c A [.b (a==8) false,.b ((A.length:Int)==2) false,.l [] [93,92,91] [] (ao Tryz.f273 0) (di A 0) .ret (fM r)])):
ar 273 [.agg (bf a b c A)] [ah r]:=
h.of
theorem aqb(h:ad (AJ a b q c A [.b (a==8) false,.b ((A.length:Int)==2) false,.l [] [93,92,91] [] (ao Tryz.f273 0) (di A 0) (.exit 1) fW])):
ar 273 [.agg (bf a b c A)] [ah true]:=
h.of
def Ud(a:Int)(l:List O):List O:=LG a (.b (a==1) true::.b (a==1) true::l)
theorem aqc(h:ad (Ud a [.b (b != 0) true])):
ar 273 [.agg (bf a b c A)] [ah false]:=
h.of
def Ue(a b:Int)(l:List O):List O:=Ud a (.b (b != 0) false::l)
theorem aqd(h:ad (Ue a b [.b (c != 0) true])):
ar 273 [.agg (bf a b c A)] [ah false]:=
h.of
def Uf(a b c:Int)(l:List O):List O:=Ue a b (.b (c != 0) false::l)
theorem aqe(h:ad (Uf a b c [.b (decide ((A.length:Int)>2)) true])):
ar 273 [.agg (bf a b c A)] [ah false]:=
h.of
def Ei(a b c:Int)(A:ae)(l:List O):List O:=Uf a b c (.b (decide ((A.length:Int)>2)) false::l)
def Ug(a b c:Int)(A:ae)(l:List O):List O:=Ei a b c A (.b (a==8) true::l)
theorem aqf(h:ad (Ug a b c A [.b (decide ((A.length:Int)>0)) true])):
ar 273 [.agg (bf a b c A)] [ah false]:=
h.of
def Lp(a b c:Int)(A:ae)(l:List O):List O:=Ug a b c A (.b (decide ((A.length:Int)>0)) false::l)
def Lq(a b c:Int)(A:ae)(d e:Int)(l:List O):List O:=Lp a b c A (.b ((A.length:Int)==2) true::.p ((0:Int)<=0)::.p (0<(A.length:Int))::.e A 0 [I d]::.p ((0:Int)<=1)::.p (1<(A.length:Int))::.e A 1 [I e]::l)
theorem aqg(h:ad (Lq a b c A d e [.b (d==e) true])):
ar 273 [.agg (bf a b c A)] [ah false]:=
h.of
theorem arK(h:ad (Lq a b c A d e [.b (d==e) false,.l [] [93,92,91] [] (ao Tryz.f273 0) (di A 0) .ret (fM q)])):
ar 273 [.agg (bf a b c A)] [ah q]:=
h.of
theorem arL(h:ad (Lq a b c A d e [.b (d==e) false,.l [] [93,92,91] [] (ao Tryz.f273 0) (di A 0) (.exit 1) fW])):
ar 273 [.agg (bf a b c A)] [ah true]:=
h.of
theorem arM(h:ad (Lp a b c A [.b ((A.length:Int)==2) false,.l [] [93,92,91] [] (ao Tryz.f273 0) (di A 0) .ret (fM q)])):
ar 273 [.agg (bf a b c A)] [ah q]:=
h.of
theorem arN(h:ad (Lp a b c A [.b ((A.length:Int)==2) false,.l [] [93,92,91] [] (ao Tryz.f273 0) (di A 0) (.exit 1) fW])):
ar 273 [.agg (bf a b c A)] [ah true]:=
h.of
def Lr(a b c:Int)(A:ae)(d e:Int)(l:List O):List O:=Ei a b c A (.b (a==8) false::.b ((A.length:Int)==2) true::.p ((0:Int)<=0)::.p (0<(A.length:Int))::.e A 0 [I d]::.p ((0:Int)<=1)::.p (1<(A.length:Int))::.e A 1 [I e]::l)
theorem arO(h:ad (Lr a b c A d e [.b (d==e) true])):
ar 273 [.agg (bf a b c A)] [ah false]:=
h.of
theorem arP(h:ad (Lr a b c A d e [.b (d==e) false,.l [] [93,92,91] [] (ao Tryz.f273 0) (di A 0) .ret (fM q)])):
ar 273 [.agg (bf a b c A)] [ah q]:=
h.of
theorem arQ(h:ad (Lr a b c A d e [.b (d==e) false,.l [] [93,92,91] [] (ao Tryz.f273 0) (di A 0) (.exit 1) fW])):
ar 273 [.agg (bf a b c A)] [ah true]:=
h.of
theorem arR(h:ad (Ei a b c A [.b (a==8) false,.b ((A.length:Int)==2) false,.l [] [93,92,91] [] (ao Tryz.f273 0) (di A 0) .ret (fM q)])):
ar 273 [.agg (bf a b c A)] [ah q]:=
h.of
theorem arS(h:ad (Ei a b c A [.b (a==8) false,.b ((A.length:Int)==2) false,.l [] [93,92,91] [] (ao Tryz.f273 0) (di A 0) (.exit 1) fW])):
ar 273 [.agg (bf a b c A)] [ah true]:=
h.of
def Uh(a:Int)(l:List O):List O:=LG a (.b (a==1) false::l)
def Ui(a:Int)(l:List O):List O:=Uh a (.b (a==5) true::.b (a==5) true::l)
theorem arT(h:ad (Ui a [.b (b != 0) true])):
ar 273 [.agg (bf a b c A)] [ah false]:=
h.of
def Uj(a b:Int)(l:List O):List O:=Ui a (.b (b != 0) false::l)
theorem arU(h:ad (Uj a b [.b (c != 0) true])):
ar 273 [.agg (bf a b c A)] [ah false]:=
h.of
def Uk(a b c:Int)(l:List O):List O:=Uj a b (.b (c != 0) false::l)
theorem arV(h:ad (Uk a b c [.b (decide ((A.length:Int)>2)) true])):
ar 273 [.agg (bf a b c A)] [ah false]:=
h.of
def Ej(a b c:Int)(A:ae)(l:List O):List O:=Uk a b c (.b (decide ((A.length:Int)>2)) false::l)
def Ul(a b c:Int)(A:ae)(l:List O):List O:=Ej a b c A (.b (a==8) true::l)
theorem arW(h:ad (Ul a b c A [.b (decide ((A.length:Int)>0)) true])):
ar 273 [.agg (bf a b c A)] [ah false]:=
h.of
def Ls(a b c:Int)(A:ae)(l:List O):List O:=Ul a b c A (.b (decide ((A.length:Int)>0)) false::l)
def Lt(a b c:Int)(A:ae)(d e:Int)(l:List O):List O:=Ls a b c A (.b ((A.length:Int)==2) true::.p ((0:Int)<=0)::.p (0<(A.length:Int))::.e A 0 [I d]::.p ((0:Int)<=1)::.p (1<(A.length:Int))::.e A 1 [I e]::l)
theorem arX(h:ad (Lt a b c A d e [.b (d==e) true])):
ar 273 [.agg (bf a b c A)] [ah false]:=
h.of
theorem arY(h:ad (Lt a b c A d e [.b (d==e) false,.l [] [93,92,91] [] (ao Tryz.f273 0) (di A 0) .ret (fM q)])):
ar 273 [.agg (bf a b c A)] [ah q]:=
h.of
theorem arZ(h:ad (Lt a b c A d e [.b (d==e) false,.l [] [93,92,91] [] (ao Tryz.f273 0) (di A 0) (.exit 1) fW])):
ar 273 [.agg (bf a b c A)] [ah true]:=
h.of
theorem ar0(h:ad (Ls a b c A [.b ((A.length:Int)==2) false,.l [] [93,92,91] [] (ao Tryz.f273 0) (di A 0) .ret (fM q)])):
ar 273 [.agg (bf a b c A)] [ah q]:=
h.of
theorem ar1(h:ad (Ls a b c A [.b ((A.length:Int)==2) false,.l [] [93,92,91] [] (ao Tryz.f273 0) (di A 0) (.exit 1) fW])):
ar 273 [.agg (bf a b c A)] [ah true]:=
h.of
def Lu(a b c:Int)(A:ae)(d e:Int)(l:List O):List O:=Ej a b c A (.b (a==8) false::.b ((A.length:Int)==2) true::.p ((0:Int)<=0)::.p (0<(A.length:Int))::.e A 0 [I d]::.p ((0:Int)<=1)::.p (1<(A.length:Int))::.e A 1 [I e]::l)
theorem ar2(h:ad (Lu a b c A d e [.b (d==e) true])):
ar 273 [.agg (bf a b c A)] [ah false]:=
h.of
theorem ar3(h:ad (Lu a b c A d e [.b (d==e) false,.l [] [93,92,91] [] (ao Tryz.f273 0) (di A 0) .ret (fM q)])):
ar 273 [.agg (bf a b c A)] [ah q]:=
h.of
theorem ar4(h:ad (Lu a b c A d e [.b (d==e) false,.l [] [93,92,91] [] (ao Tryz.f273 0) (di A 0) (.exit 1) fW])):
ar 273 [.agg (bf a b c A)] [ah true]:=
h.of
theorem ar5(h:ad (Ej a b c A [.b (a==8) false,.b ((A.length:Int)==2) false,.l [] [93,92,91] [] (ao Tryz.f273 0) (di A 0) .ret (fM q)])):
ar 273 [.agg (bf a b c A)] [ah q]:=
h.of
theorem ar6(h:ad (Ej a b c A [.b (a==8) false,.b ((A.length:Int)==2) false,.l [] [93,92,91] [] (ao Tryz.f273 0) (di A 0) (.exit 1) fW])):
ar 273 [.agg (bf a b c A)] [ah true]:=
h.of
def Um(a:Int)(l:List O):List O:=Uh a (.b (a==5) false::l)
def Un(a:Int)(l:List O):List O:=Um a (.b (a==6) true::.b (a==6) true::l)
theorem ar7(h:ad (Un a [.b (b != 0) true])):
ar 273 [.agg (bf a b c A)] [ah false]:=
h.of
def Uo(a b:Int)(l:List O):List O:=Un a (.b (b != 0) false::l)
theorem ar8(h:ad (Uo a b [.b (c != 0) true])):
ar 273 [.agg (bf a b c A)] [ah false]:=
h.of
def Up(a b c:Int)(l:List O):List O:=Uo a b (.b (c != 0) false::l)
theorem ar9(h:ad (Up a b c [.b (decide ((A.length:Int)>2)) true])):
ar 273 [.agg (bf a b c A)] [ah false]:=
h.of
def Ek(a b c:Int)(A:ae)(l:List O):List O:=Up a b c (.b (decide ((A.length:Int)>2)) false::l)
def Uq(a b c:Int)(A:ae)(l:List O):List O:=Ek a b c A (.b (a==8) true::l)
theorem arj(h:ad (Uq a b c A [.b (decide ((A.length:Int)>0)) true])):
ar 273 [.agg (bf a b c A)] [ah false]:=
h.of
def LH(a b c:Int)(A:ae)(l:List O):List O:=Uq a b c A (.b (decide ((A.length:Int)>0)) false::l)
def LI(a b c:Int)(A:ae)(d e:Int)(l:List O):List O:=LH a b c A (.b ((A.length:Int)==2) true::.p ((0:Int)<=0)::.p (0<(A.length:Int))::.e A 0 [I d]::.p ((0:Int)<=1)::.p (1<(A.length:Int))::.e A 1 [I e]::l)
theorem ark(h:ad (LI a b c A d e [.b (d==e) true])):
ar 273 [.agg (bf a b c A)] [ah false]:=
h.of
theorem arl(h:ad (LI a b c A d e [.b (d==e) false,.l [] [93,92,91] [] (ao Tryz.f273 0) (di A 0) .ret (fM q)])):
ar 273 [.agg (bf a b c A)] [ah q]:=
h.of
theorem arm(h:ad (LI a b c A d e [.b (d==e) false,.l [] [93,92,91] [] (ao Tryz.f273 0) (di A 0) (.exit 1) fW])):
ar 273 [.agg (bf a b c A)] [ah true]:=
h.of
theorem arn(h:ad (LH a b c A [.b ((A.length:Int)==2) false,.l [] [93,92,91] [] (ao Tryz.f273 0) (di A 0) .ret (fM q)])):
ar 273 [.agg (bf a b c A)] [ah q]:=
h.of
theorem aro(h:ad (LH a b c A [.b ((A.length:Int)==2) false,.l [] [93,92,91] [] (ao Tryz.f273 0) (di A 0) (.exit 1) fW])):
ar 273 [.agg (bf a b c A)] [ah true]:=
h.of
def LJ(a b c:Int)(A:ae)(d e:Int)(l:List O):List O:=Ek a b c A (.b (a==8) false::.b ((A.length:Int)==2) true::.p ((0:Int)<=0)::.p (0<(A.length:Int))::.e A 0 [I d]::.p ((0:Int)<=1)::.p (1<(A.length:Int))::.e A 1 [I e]::l)
theorem arp(h:ad (LJ a b c A d e [.b (d==e) true])):
ar 273 [.agg (bf a b c A)] [ah false]:=
h.of
theorem arq(h:ad (LJ a b c A d e [.b (d==e) false,.l [] [93,92,91] [] (ao Tryz.f273 0) (di A 0) .ret (fM q)])):
ar 273 [.agg (bf a b c A)] [ah q]:=
h.of
theorem ars(h:ad (LJ a b c A d e [.b (d==e) false,.l [] [93,92,91] [] (ao Tryz.f273 0) (di A 0) (.exit 1) fW])):
ar 273 [.agg (bf a b c A)] [ah true]:=
h.of
theorem art(h:ad (Ek a b c A [.b (a==8) false,.b ((A.length:Int)==2) false,.l [] [93,92,91] [] (ao Tryz.f273 0) (di A 0) .ret (fM q)])):
ar 273 [.agg (bf a b c A)] [ah q]:=
h.of
theorem aru(h:ad (Ek a b c A [.b (a==8) false,.b ((A.length:Int)==2) false,.l [] [93,92,91] [] (ao Tryz.f273 0) (di A 0) (.exit 1) fW])):
ar 273 [.agg (bf a b c A)] [ah true]:=
h.of
def UD(a:Int)(l:List O):List O:=Um a (.b (a==6) false::l)
def UE(a:Int)(l:List O):List O:=UD a (.b (a==7) true::.b (a==7) true::l)
theorem arv(h:ad (UE a [.b (b != 0) true])):
ar 273 [.agg (bf a b c A)] [ah false]:=
h.of
def El(a b:Int)(l:List O):List O:=UE a (.b (b != 0) false::l)
theorem arw(h:ad (El a b [.b (c != 0) true])):
ar 273 [.agg (bf a b c A)] [ah false]:=
h.of
def Em(a b c:Int)(l:List O):List O:=El a b (.b (c != 0) false::l)
theorem arx(h:ad (Em a b c [.b (decide ((A.length:Int)>2)) true])):
ar 273 [.agg (bf a b c A)] [ah false]:=
h.of
def En(a b c:Int)(A:ae)(l:List O):List O:=Em a b c (.b (decide ((A.length:Int)>2)) false::l)
def UF(a b c:Int)(A:ae)(l:List O):List O:=En a b c A (.b (a==8) true::l)
theorem ary(h:ad (UF a b c A [.b (decide ((A.length:Int)>0)) true])):
ar 273 [.agg (bf a b c A)] [ah false]:=
h.of
def AK(a b c:Int)(A:ae)(l:List O):List O:=UF a b c A (.b (decide ((A.length:Int)>0)) false::l)
def LQ(a b c:Int)(A:ae)(d e:Int)(l:List O):List O:=AK a b c A (.b ((A.length:Int)==2) true::.p ((0:Int)<=0)::.p (0<(A.length:Int))::.e A 0 [I d]::.p ((0:Int)<=1)::.p (1<(A.length:Int))::.e A 1 [I e]::l)
theorem arz(h:ad (LQ a b c A d e [.b (d==e) true])):
ar 273 [.agg (bf a b c A)] [ah false]:=
h.of
theorem arA(h:ad (LQ a b c A d e [.b (d==e) false,.l [] [93,92,91] [] (ao Tryz.f273 0) (di A 0) .ret (fM q)])):
ar 273 [.agg (bf a b c A)] [ah q]:=
h.of
theorem arB(h:ad (LQ a b c A d e [.b (d==e) false,.l [] [93,92,91] [] (ao Tryz.f273 0) (di A 0) (.exit 1) fW])):
ar 273 [.agg (bf a b c A)] [ah true]:=
h.of
theorem arC(h:ad (AK a b c A [.b ((A.length:Int)==2) false,.l [] [93,92,91] [] (ao Tryz.f273 0) (di A 0) .ret (fM q)])):
ar 273 [.agg (bf a b c A)] [ah q]:=
h.of
theorem arD(h:ad (AK a b c A [.b ((A.length:Int)==2) false,.l [] [93,92,91] [] (ao Tryz.f273 0) (di A 0) (.exit 1) fW])):
ar 273 [.agg (bf a b c A)] [ah true]:=
h.of
def LR(a b c:Int)(A:ae)(d e:Int)(l:List O):List O:=En a b c A (.b (a==8) false::.b ((A.length:Int)==2) true::.p ((0:Int)<=0)::.p (0<(A.length:Int))::.e A 0 [I d]::.p ((0:Int)<=1)::.p (1<(A.length:Int))::.e A 1 [I e]::l)
theorem arE(h:ad (LR a b c A d e [.b (d==e) true])):
ar 273 [.agg (bf a b c A)] [ah false]:=
h.of
theorem arF(h:ad (LR a b c A d e [.b (d==e) false,.l [] [93,92,91] [] (ao Tryz.f273 0) (di A 0) .ret (fM q)])):
ar 273 [.agg (bf a b c A)] [ah q]:=
h.of
theorem arG(h:ad (LR a b c A d e [.b (d==e) false,.l [] [93,92,91] [] (ao Tryz.f273 0) (di A 0) (.exit 1) fW])):
ar 273 [.agg (bf a b c A)] [ah true]:=
h.of
theorem arH(h:ad (En a b c A [.b (a==8) false,.b ((A.length:Int)==2) false,.l [] [93,92,91] [] (ao Tryz.f273 0) (di A 0) .ret (fM q)])):
ar 273 [.agg (bf a b c A)] [ah q]:=
h.of
theorem arI(h:ad (En a b c A [.b (a==8) false,.b ((A.length:Int)==2) false,.l [] [93,92,91] [] (ao Tryz.f273 0) (di A 0) (.exit 1) fW])):
ar 273 [.agg (bf a b c A)] [ah true]:=
h.of
def UW(a:Int)(l:List O):List O:=UD a (.b (a==7) false::l)
def UX(a:Int)(l:List O):List O:=UW a (.b (a==8) true::l)
theorem arJ(h:ad (UX a [.b (b != 0) true])):
ar 273 [.agg (bf a b c A)] [ah false]:=
h.of
def UY(a b:Int)(l:List O):List O:=UX a (.b (b != 0) false::l)
theorem aq7(h:ad (UY a b [.b (c != 0) true])):
ar 273 [.agg (bf a b c A)] [ah false]:=
h.of
def UZ(a b c:Int)(l:List O):List O:=UY a b (.b (c != 0) false::l)
theorem aq8(h:ad (UZ a b c [.b (decide ((A.length:Int)>2)) true])):
ar 273 [.agg (bf a b c A)] [ah false]:=
h.of
def U0(a b c:Int)(A:ae)(l:List O):List O:=UZ a b c (.b (decide ((A.length:Int)>2)) false::.b (a==8) true::l)
theorem aq9(h:ad (U0 a b c A [.b (decide ((A.length:Int)>0)) true])):
ar 273 [.agg (bf a b c A)] [ah false]:=
h.of
def LS(a b c:Int)(A:ae)(l:List O):List O:=U0 a b c A (.b (decide ((A.length:Int)>0)) false::l)
def LU(a b c:Int)(A:ae)(d e:Int)(l:List O):List O:=LS a b c A (.b ((A.length:Int)==2) true::.p ((0:Int)<=0)::.p (0<(A.length:Int))::.e A 0 [I d]::.p ((0:Int)<=1)::.p (1<(A.length:Int))::.e A 1 [I e]::l)
theorem ara(h:ad (LU a b c A d e [.b (d==e) true])):
ar 273 [.agg (bf a b c A)] [ah false]:=
h.of
theorem arb(h:ad (LU a b c A d e [.b (d==e) false,.l [] [93,92,91] [] (ao Tryz.f273 0) (di A 0) .ret (fM q)])):
ar 273 [.agg (bf a b c A)] [ah q]:=
h.of
theorem arc(h:ad (LU a b c A d e [.b (d==e) false,.l [] [93,92,91] [] (ao Tryz.f273 0) (di A 0) (.exit 1) fW])):
ar 273 [.agg (bf a b c A)] [ah true]:=
h.of
theorem ard(h:ad (LS a b c A [.b ((A.length:Int)==2) false,.l [] [93,92,91] [] (ao Tryz.f273 0) (di A 0) .ret (fM q)])):
ar 273 [.agg (bf a b c A)] [ah q]:=
h.of
theorem arf(h:ad (LS a b c A [.b ((A.length:Int)==2) false,.l [] [93,92,91] [] (ao Tryz.f273 0) (di A 0) (.exit 1) fW])):
ar 273 [.agg (bf a b c A)] [ah true]:=
h.of
theorem arh(h:ad (UW a [.b (a==8) false])):
ar 273 [.agg (bf a b c A)] [ah false]:=
h.of
