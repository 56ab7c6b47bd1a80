import Derived.Test.YtdchjefneblpgaaGreatGE
set_option linter.unusedVariables false
set_option linter.unusedSimpArgs false
namespace Go.Proofs.YtdchjefneblpgaaGreat
open Go.Sx Go.RowKit
variable {a b c d e f g : Int} {A : ae} {q r s t : Bool}
def TX(a:Int)(l:List O):List O:=.b (a==2) true::l
def TY(a b:Int)(q r:Bool)(l:List O):List O:=TX a (.r 168 [af b,af 0,af 999] [ag q]::.r 168 [af a,af 1,af 8] [ag r]::l)
theorem apm(h:ad (TY a b r q [.n q true])):
 ar 243 [.agg (bf a b c A)] [ag false]:=
 h.of
def Le(a b:Int)(q r:Bool)(l:List O):List O:=TY a b q r (.n r false::l)
theorem apn(h:ad (Le a b q r [.n q true])):
 ar 243 [.agg (bf a b c A)] [ag false]:=
 h.of
theorem apo(h:ad (Le a b q r [.n q false,.b (!c==0) true])):
 ar 243 [.agg (bf a b c A)] [ag false]:=
 h.of
def TZ(a b:Int)(q r:Bool)(c:Int)(l:List O):List O:=Le a b q r (.n q false::.b (!c==0) false::l)
theorem apq(h:ad (TZ a b q r c [.b (decide ((A.length:Int)>2)) true])):
 ar 243 [.agg (bf a b c A)] [ag false]:=
 h.of
def Ar(a b:Int)(q r:Bool)(c:Int)(A:ae)(l:List O):List O:=TZ a b q r c (.b (decide ((A.length:Int)>2)) false::l)
theorem apr(h:ad (Ar a b q r c A [.b (a==8) true,.b (decide ((A.length:Int)>0)) true])):
 ar 243 [.agg (bf a b c A)] [ag false]:=
 h.of
def g'(a b c:Int)(A:ae)(d:Int):aD:=bd 93 [(1,aQ 1),(5,aW d)] [(1,[au a,au b,au c,.J .free 1 A])]
def pA(q:Bool):aD:=bd 93 [(2,.aF (.one (.a' q)))] []
def Ln(A:ae)(a b:Int)(q:Bool)(l:List O):List O:=.i A a [I b]::.r 168 [af b,af 0,af 7] [ag q]::l
theorem J8(h:ad (Ln A a b q [.n q true])):
 aX (ao Tryz.f243 0) (g' c d e A a) .ret (pA false):=
 h.aV [2] []
def T7(A:ae)(a b:Int)(q:Bool)(c d:Int)(l:List O):List O:=Ln A a b q (.n q false::.b (decide (a>0)) true::.p ((0:Int)<=0)::.p (0<(A.length:Int))::.e A 0 [I c]::.p ((0:Int)<=1)::.p (1<(A.length:Int))::.e A 1 [I d]::l)
theorem aps(h:ad (T7 A a c q d b [.b (d==b) true])):
 aX (ao Tryz.f243 0) (g' e f g A a) .ret (pA false):=
 h.aV [2] []
theorem apt(h:ad (T7 A a f q g d [.b (g==d) false,.u a])):
 aX (ao Tryz.f243 0) (g' b c e A a) .normal (g' b c e A (a+1)):=
 h.aV [5,1] [1]
theorem Qv(h:ad (Ln A a e q [.n q false,.b (decide (a>0)) false,.u a])):
 aX (ao Tryz.f243 0) (g' b c d A a) .normal (g' b c d A (a+1)):=
 h.aV [5,1] [1]
def qj:aD:=bd 93 [] []
theorem J9(h:ad [.f A a false]):
 aX (ao Tryz.f243 0) (g' b c d A a) (.exit 1) qj:=
 h.aV [] []
theorem apu(h:ad (Ar a b q r c A [.b (a==8) true,.b (decide ((A.length:Int)>0)) false,.l [] [5,1] [1] (ao Tryz.f243 0) (g' a b c A 0) .ret (pA s)])):
 ar 243 [.agg (bf a b c A)] [ag s]:=
 h.of
theorem apv(h:ad (Ar a b q r c A [.b (a==8) true,.b (decide ((A.length:Int)>0)) false,.l [] [5,1] [1] (ao Tryz.f243 0) (g' a b c A 0) (.exit 1) qj])):
 ar 243 [.agg (bf a b c A)] [ag true]:=
 h.of
theorem apw(h:ad (Ar a b q r c A [.b (a==8) false,.l [] [5,1] [1] (ao Tryz.f243 0) (g' a b c A 0) .ret (pA s)])):
 ar 243 [.agg (bf a b c A)] [ag s]:=
 h.of
theorem apx(h:ad (Ar a b q r c A [.b (a==8) false,.l [] [5,1] [1] (ao Tryz.f243 0) (g' a b c A 0) (.exit 1) qj])):
 ar 243 [.agg (bf a b c A)] [ag true]:=
 h.of
def T8(a:Int)(l:List O):List O:=.b (a==2) false::l
def T9(a:Int)(l:List O):List O:=T8 a (.b (a==3) true::l)
def Lu(a b:Int)(q:Bool)(c:Int)(r s:Bool)(l:List O):List O:=T9 a (.r 168 [af b,af 1,af 10] [ag q]::.a .wr::.r 168 [af c,af 0,af (IntKind.i64.wrap (b-1))] [ag r]::.r 168 [af a,af 1,af 8] [ag s]::l)
theorem apy(h:ad (Lu a b r c s q [.n q true])):
 ar 243 [.agg (bf a b c A)] [ag false]:=
 h.of
theorem apz(h:ad (Lu a b q c s r [.n r false,.n q true])):
 ar 243 [.agg (bf a b c A)] [ag false]:=
 h.of
def Lv(a b:Int)(q:Bool)(c:Int)(r s:Bool)(l:List O):List O:=Lu a b q c r s (.n s false::.n q false::l)
theorem apA(h:ad (Lv a b q c r s [.n r true])):
 ar 243 [.agg (bf a b c A)] [ag false]:=
 h.of
theorem apB(h:ad (Lv a b q c r s [.n r false,.b (decide ((A.length:Int)>2)) true])):
 ar 243 [.agg (bf a b c A)] [ag false]:=
 h.of
def AE(a b:Int)(q:Bool)(c:Int)(r s:Bool)(A:ae)(l:List O):List O:=Lv a b q c r s (.n r false::.b (decide ((A.length:Int)>2)) false::l)
theorem apC(h:ad (AE a b q c r s A [.b (a==8) true,.b (decide ((A.length:Int)>0)) true])):
 ar 243 [.agg (bf a b c A)] [ag false]:=
 h.of
theorem ao2(h:ad (AE a b q c r s A [.b (a==8) true,.b (decide ((A.length:Int)>0)) false,.l [] [5,1] [1] (ao Tryz.f243 0) (g' a b c A 0) .ret (pA t)])):
 ar 243 [.agg (bf a b c A)] [ag t]:=
 h.of
theorem ao3(h:ad (AE a b q c r s A [.b (a==8) true,.b (decide ((A.length:Int)>0)) false,.l [] [5,1] [1] (ao Tryz.f243 0) (g' a b c A 0) (.exit 1) qj])):
 ar 243 [.agg (bf a b c A)] [ag true]:=
 h.of
theorem ao4(h:ad (AE a b q c r s A [.b (a==8) false,.l [] [5,1] [1] (ao Tryz.f243 0) (g' a b c A 0) .ret (pA t)])):
 ar 243 [.agg (bf a b c A)] [ag t]:=
 h.of
theorem ao5(h:ad (AE a b q c r s A [.b (a==8) false,.l [] [5,1] [1] (ao Tryz.f243 0) (g' a b c A 0) (.exit 1) qj])):
 ar 243 [.agg (bf a b c A)] [ag true]:=
 h.of
def Us(a:Int)(l:List O):List O:=T8 a (.b (a==3) false::l)
def Ut(a:Int)(l:List O):List O:=Us a (.b (a==4) true::l)
def Uu(a b:Int)(q r:Bool)(l:List O):List O:=Ut a (.r 168 [af b,af 0,af 99] [ag q]::.r 168 [af a,af 1,af 8] [ag r]::l)
theorem ao6(h:ad (Uu a b r q [.n q true])):
 ar 243 [.agg (bf a b c A)] [ag false]:=
 h.of
def LA(a b:Int)(q r:Bool)(l:List O):List O:=Uu a b q r (.n r false::l)
theorem ao7(h:ad (LA a b q r [.n q true])):
 ar 243 [.agg (bf a b c A)] [ag false]:=
 h.of
theorem ao8(h:ad (LA a b q r [.n q false,.b (!c==0) true])):
 ar 243 [.agg (bf a b c A)] [ag false]:=
 h.of
def Uv(a b:Int)(q r:Bool)(c:Int)(l:List O):List O:=LA a b q r (.n q false::.b (!c==0) false::l)
theorem ao9(h:ad (Uv a b q r c [.b (decide ((A.length:Int)>2)) true])):
 ar 243 [.agg (bf a b c A)] [ag false]:=
 h.of
def AG(a b:Int)(q r:Bool)(c:Int)(A:ae)(l:List O):List O:=Uv a b q r c (.b (decide ((A.length:Int)>2)) false::l)
theorem apa(h:ad (AG a b q r c A [.b (a==8) true,.b (decide ((A.length:Int)>0)) true])):
 ar 243 [.agg (bf a b c A)] [ag false]:=
 h.of
theorem apb(h:ad (AG a b q r c A [.b (a==8) true,.b (decide ((A.length:Int)>0)) false,.l [] [5,1] [1] (ao Tryz.f243 0) (g' a b c A 0) .ret (pA s)])):
 ar 243 [.agg (bf a b c A)] [ag s]:=
 h.of
theorem aqD(h:ad (AG a b q r c A [.b (a==8) true,.b (decide ((A.length:Int)>0)) false,.l [] [5,1] [1] (ao Tryz.f243 0) (g' a b c A 0) (.exit 1) qj])):
 ar 243 [.agg (bf a b c A)] [ag true]:=
 h.of
theorem aqE(h:ad (AG a b q r c A [.b (a==8) false,.l [] [5,1] [1] (ao Tryz.f243 0) (g' a b c A 0) .ret (pA s)])):
 ar 243 [.agg (bf a b c A)] [ag s]:=
 h.of
theorem aqF(h:ad (AG a b q r c A [.b (a==8) false,.l [] [5,1] [1] (ao Tryz.f243 0) (g' a b c A 0) (.exit 1) qj])):
 ar 243 [.agg (bf a b c A)] [ag true]:=
 h.of
def LF(a:Int)(l:List O):List O:=Us a (.b (a==4) false::l)
def Uz(a:Int)(q:Bool)(l:List O):List O:=LF a (.r 168 [af a,af 1,af 8] [ag q]::l)
theorem aqG(h:ad (Uz a q [.n q true])):
 ar 243 [.agg (bf a b c A)] [ag false]:=
 h.of
def UA(a:Int)(q:Bool)(l:List O):List O:=Uz a q (.n q false::l)
theorem aqH(h:ad (UA a q [.b (!b==0) true])):
 ar 243 [.agg (bf a b c A)] [ag false]:=
 h.of
def T'(a:Int)(q:Bool)(b:Int)(l:List O):List O:=UA a q (.b (!b==0) false::l)
theorem aqI(h:ad (T' a q b [.b (!c==0) true])):
 ar 243 [.agg (bf a b c A)] [ag false]:=
 h.of
def Ua(a:Int)(q:Bool)(b c:Int)(l:List O):List O:=T' a q b (.b (!c==0) false::l)
theorem aqJ(h:ad (Ua a q b c [.b (decide ((A.length:Int)>2)) true])):
 ar 243 [.agg (bf a b c A)] [ag false]:=
 h.of
def AD(a:Int)(q:Bool)(b c:Int)(A:ae)(l:List O):List O:=Ua a q b c (.b (decide ((A.length:Int)>2)) false::l)
theorem aqK(h:ad (AD a q b c A [.b (a==8) true,.b (decide ((A.length:Int)>0)) true])):
 ar 243 [.agg (bf a b c A)] [ag false]:=
 h.of
theorem aqL(h:ad (AD a q b c A [.b (a==8) true,.b (decide ((A.length:Int)>0)) false,.l [] [5,1] [1] (ao Tryz.f243 0) (g' a b c A 0) .ret (pA r)])):
 ar 243 [.agg (bf a b c A)] [ag r]:=
 h.of
theorem aqM(h:ad (AD a q b c A [.b (a==8) true,.b (decide ((A.length:Int)>0)) false,.l [] [5,1] [1] (ao Tryz.f243 0) (g' a b c A 0) (.exit 1) qj])):
 ar 243 [.agg (bf a b c A)] [ag true]:=
 h.of
theorem aqN(h:ad (AD a q b c A [.b (a==8) false,.l [] [5,1] [1] (ao Tryz.f243 0) (g' a b c A 0) .ret (pA r)])):
 ar 243 [.agg (bf a b c A)] [ag r]:=
 h.of
theorem aqO(h:ad (AD a q b c A [.b (a==8) false,.l [] [5,1] [1] (ao Tryz.f243 0) (g' a b c A 0) (.exit 1) qj])):
 ar 243 [.agg (bf a b c A)] [ag true]:=
 h.of
def T0(a b:Int)(q:Bool)(l:List O):List O:=TX a (.r 190 [af b,af 0,af 999] [ag q]::l)
theorem aqP(h:ad (T0 a b q [.n q true])):
 ar 273 [.agg (bf a b c A)] [ag false]:=
 h.of
def Ef(a b:Int)(q:Bool)(l:List O):List O:=T0 a b q (.n q false::l)
theorem aqQ(h:ad (Ef a b q [.b (c != 0) true])):
 ar 273 [.agg (bf a b c A)] [ag false]:=
 h.of
def T6(a b:Int)(q:Bool)(c:Int)(l:List O):List O:=Ef a b q (.b (c != 0) false::l)
theorem aqR(h:ad (T6 a b q c [.b (decide ((A.length:Int)>2)) true])):
 ar 273 [.agg (bf a b c A)] [ag false]:=
 h.of
def Az(a b:Int)(q:Bool)(c:Int)(A:ae)(l:List O):List O:=T6 a b q c (.b (decide ((A.length:Int)>2)) false::l)
theorem aqS(h:ad (Az a b q c A [.b (a==8) true,.b (decide ((A.length:Int)>0)) true])):
 ar 273 [.agg (bf a b c A)] [ag false]:=
 h.of
def AA(a b:Int)(q:Bool)(c:Int)(A:ae)(l:List O):List O:=Az a b q c A (.b (a==8) true::.b (decide ((A.length:Int)>0)) false::l)
def AB(a b:Int)(q:Bool)(c:Int)(A:ae)(d e:Int)(l:List O):List O:=AA a b q c A (.b ((A.length:Int)==2) true::.p ((0:Int)<=0)::.p (0<(A.length:Int))::.e A 0 [I d]::.p ((0:Int)<=1)::.p (1<(A.length:Int))::.e A 1 [I e]::l)
theorem aqT(h:ad (AB a b q c A d e [.b (d==e) true])):
 ar 273 [.agg (bf a b c A)] [ag false]:=
 h.of
def di(A:ae)(a:Int):aD:=bd 101 [(91,dj 1 A),(92,aW (A.length:Int)),(93,aW a)] []
def fM(q:Bool):aD:=bd 101 [(2,.aF (.one (.a' q)))] []
theorem aqU(h:ad [.i A a [I b],.r 190 [af b,af 0,af 7] [ag q],.n q true]):
 aX (ao Tryz.f273 0) (di A a) .ret (fM false):=
 h.aV [2] []
theorem aqV(h:ad [.i A a [I b],.r 190 [af b,af 0,af 7] [ag q],.n q false,.u a]):
 aX (ao Tryz.f273 0) (di A a) .normal (di A (a+1)):=
 h.aV [93,92,91] []
def fW:aD:=bd 101 [] []
theorem aqW(h:ad [.f A a false]):
 aX (ao Tryz.f273 0) (di A a) (.exit 1) fW:=
 h.aV [] []
theorem aqX(h:ad (AB a b q c A d e [.b (d==e) false,.l [] [93,92,91] [] (ao Tryz.f273 0) (di A 0) .ret (fM r)])):
 ar 273 [.agg (bf a b c A)] [ag r]:=
 h.of
theorem aqY(h:ad (AB a b q c A d e [.b (d==e) false,.l [] [93,92,91] [] (ao Tryz.f273 0) (di A 0) (.exit 1) fW])):
 ar 273 [.agg (bf a b c A)] [ag true]:=
 h.of
theorem aqZ(h:ad (AA a b q c A [.b ((A.length:Int)==2) false,.l [] [93,92,91] [] (ao Tryz.f273 0) (di A 0) .ret (fM r)])):
 ar 273 [.agg (bf a b c A)] [ag r]:=
 h.of
theorem aq0(h:ad (AA a b q c A [.b ((A.length:Int)==2) false,.l [] [93,92,91] [] (ao Tryz.f273 0) (di A 0) (.exit 1) fW])):
 ar 273 [.agg (bf a b c A)] [ag true]:=
 h.of
def Lm(a b:Int)(q:Bool)(c:Int)(A:ae)(d e:Int)(l:List O):List O:=Az a b q c A (.b (a==8) false::.b ((A.length:Int)==2) true::.p ((0:Int)<=0)::.p (0<(A.length:Int))::.e A 0 [I d]::.p ((0:Int)<=1)::.p (1<(A.length:Int))::.e A 1 [I e]::l)
theorem aq1(h:ad (Lm a b q c A d e [.b (d==e) true])):
 ar 273 [.agg (bf a b c A)] [ag false]:=
 h.of
theorem aq2(h:ad (Lm a b q c A d e [.b (d==e) false,.l [] [93,92,91] [] (ao Tryz.f273 0) (di A 0) .ret (fM r)])):
 ar 273 [.agg (bf a b c A)] [ag r]:=
 h.of
theorem aqd(h:ad (Lm a b q c A d e [.b (d==e) false,.l [] [93,92,91] [] (ao Tryz.f273 0) (di A 0) (.exit 1) fW])):
 ar 273 [.agg (bf a b c A)] [ag true]:=
 h.of
theorem aqe(h:ad (Az a b q c A [.b (a==8) false,.b ((A.length:Int)==2) false,.l [] [93,92,91] [] (ao Tryz.f273 0) (di A 0) .ret (fM r)])):
 ar 273 [.agg (bf a b c A)] [ag r]:=
 h.of
theorem aqf(h:ad (Az a b q c A [.b (a==8) false,.b ((A.length:Int)==2) false,.l [] [93,92,91] [] (ao Tryz.f273 0) (di A 0) (.exit 1) fW])):
 ar 273 [.agg (bf a b c A)] [ag true]:=
 h.of
def Up(a b:Int)(q:Bool)(l:List O):List O:=T9 a (.r 190 [af b,af 1,af 10] [ag q]::l)
theorem aqg(h:ad (Up a b q [.n q true])):
 ar 273 [.agg (bf a b c A)] [ag false]:=
 h.of
def Uq(a b:Int)(q:Bool)(c:Int)(r:Bool)(l:List O):List O:=Up a b q (.n q false::.a .wr::.r 190 [af c,af 0,af (IntKind.i64.wrap (b-1))] [ag r]::l)
theorem aqh(h:ad (Uq a b q c r [.n r true])):
 ar 273 [.agg (bf a b c A)] [ag false]:=
 h.of
def Ur(a b:Int)(q:Bool)(c:Int)(r:Bool)(l:List O):List O:=Uq a b q c r (.n r false::l)
theorem aqi(h:ad (Ur a b q c r [.b (decide ((A.length:Int)>2)) true])):
 ar 273 [.agg (bf a b c A)] [ag false]:=
 h.of
def AF(a b:Int)(q:Bool)(c:Int)(r:Bool)(A:ae)(l:List O):List O:=Ur a b q c r (.b (decide ((A.length:Int)>2)) false::l)
theorem aqj(h:ad (AF a b q c r A [.b (a==8) true,.b (decide ((A.length:Int)>0)) true])):
 ar 273 [.agg (bf a b c A)] [ag false]:=
 h.of
def Lw(a b:Int)(q:Bool)(c:Int)(r:Bool)(A:ae)(l:List O):List O:=AF a b q c r A (.b (a==8) true::.b (decide ((A.length:Int)>0)) false::l)
def Lx(a b:Int)(q:Bool)(c:Int)(r:Bool)(A:ae)(d e:Int)(l:List O):List O:=Lw a b q c r A (.b ((A.length:Int)==2) true::.p ((0:Int)<=0)::.p (0<(A.length:Int))::.e A 0 [I d]::.p ((0:Int)<=1)::.p (1<(A.length:Int))::.e A 1 [I e]::l)
theorem aqk(h:ad (Lx a b q c r A d e [.b (d==e) true])):
 ar 273 [.agg (bf a b c A)] [ag false]:=
 h.of
theorem aql(h:ad (Lx a b q c r A d e [.b (d==e) false,.l [] [93,92,91] [] (ao Tryz.f273 0) (di A 0) .ret (fM s)])):
 ar 273 [.agg (bf a b c A)] [ag s]:=
 h.of
theorem aqm(h:ad (Lx a b q c r A d e [.b (d==e) false,.l [] [93,92,91] [] (ao Tryz.f273 0) (di A 0) (.exit 1) fW])):
 ar 273 [.agg (bf a b c A)] [ag true]:=
 h.of
theorem aqn(h:ad (Lw a b q c r A [.b ((A.length:Int)==2) false,.l [] [93,92,91] [] (ao Tryz.f273 0) (di A 0) .ret (fM s)])):
 ar 273 [.agg (bf a b c A)] [ag s]:=
 h.of
theorem aqo(h:ad (Lw a b q c r A [.b ((A.length:Int)==2) false,.l [] [93,92,91] [] (ao Tryz.f273 0) (di A 0) (.exit 1) fW])):
 ar 273 [.agg (bf a b c A)] [ag true]:=
 h.of
def Ly(a b:Int)(q:Bool)(c:Int)(r:Bool)(A:ae)(d e:Int)(l:List O):List O:=AF a b q c r A (.b (a==8) false::.b ((A.length:Int)==2) true::.p ((0:Int)<=0)::.p (0<(A.length:Int))::.e A 0 [I d]::.p ((0:Int)<=1)::.p (1<(A.length:Int))::.e A 1 [I e]::l)
theorem aqp(h:ad (Ly a b q c r A d e [.b (d==e) true])):
 ar 273 [.agg (bf a b c A)] [ag false]:=
 h.of
theorem aqq(h:ad (Ly a b q c r A d e [.b (d==e) false,.l [] [93,92,91] [] (ao Tryz.f273 0) (di A 0) .ret (fM s)])):
 ar 273 [.agg (bf a b c A)] [ag s]:=
 h.of
theorem aqr(h:ad (Ly a b q c r A d e [.b (d==e) false,.l [] [93,92,91] [] (ao Tryz.f273 0) (di A 0) (.exit 1) fW])):
 ar 273 [.agg (bf a b c A)] [ag true]:=
 h.of
theorem aqs(h:ad (AF a b q c r A [.b (a==8) false,.b ((A.length:Int)==2) false,.l [] [93,92,91] [] (ao Tryz.f273 0) (di A 0) .ret (fM s)])):
 ar 273 [.agg (bf a b c A)] [ag s]:=
 h.of
theorem aqt(h:ad (AF a b q c r A [.b (a==8) false,.b ((A.length:Int)==2) false,.l [] [93,92,91] [] (ao Tryz.f273 0) (di A 0) (.exit 1) fW])):
 ar 273 [.agg (bf a b c A)] [ag true]:=
 h.of
def Uw(a b:Int)(q:Bool)(l:List O):List O:=Ut a (.r 190 [af b,af 0,af 99] [ag q]::l)
theorem aqu(h:ad (Uw a b q [.n q true])):
 ar 273 [.agg (bf a b c A)] [ag false]:=
 h.of
def Ux(a b:Int)(q:Bool)(l:List O):List O:=Uw a b q (.n q false::l)
theorem aqv(h:ad (Ux a b q [.b (c != 0) true])):
 ar 273 [.agg (bf a b c A)] [ag false]:=
 h.of
def Uy(a b:Int)(q:Bool)(c:Int)(l:List O):List O:=Ux a b q (.b (c != 0) false::l)
theorem aqw(h:ad (Uy a b q c [.b (decide ((A.length:Int)>2)) true])):
 ar 273 [.agg (bf a b c A)] [ag false]:=
 h.of
def AH(a b:Int)(q:Bool)(c:Int)(A:ae)(l:List O):List O:=Uy a b q c (.b (decide ((A.length:Int)>2)) false::l)
theorem aqx(h:ad (AH a b q c A [.b (a==8) true,.b (decide ((A.length:Int)>0)) true])):
 ar 273 [.agg (bf a b c A)] [ag false]:=
 h.of
def LB(a b:Int)(q:Bool)(c:Int)(A:ae)(l:List O):List O:=AH a b q c A (.b (a==8) true::.b (decide ((A.length:Int)>0)) false::l)
def LC(a b:Int)(q:Bool)(c:Int)(A:ae)(d e:Int)(l:List O):List O:=LB a b q c A (.b ((A.length:Int)==2) true::.p ((0:Int)<=0)::.p (0<(A.length:Int))::.e A 0 [I d]::.p ((0:Int)<=1)::.p (1<(A.length:Int))::.e A 1 [I e]::l)
theorem aqy(h:ad (LC a b q c A d e [.b (d==e) true])):
 ar 273 [.agg (bf a b c A)] [ag false]:=
 h.of
theorem aqz(h:ad (LC a b q c A d e [.b (d==e) false,.l [] [93,92,91] [] (ao Tryz.f273 0) (di A 0) .ret (fM r)])):
 ar 273 [.agg (bf a b c A)] [ag r]:=
 h.of
theorem aqA(h:ad (LC a b q c A d e [.b (d==e) false,.l [] [93,92,91] [] (ao Tryz.f273 0) (di A 0) (.exit 1) fW])):
 ar 273 [.agg (bf a b c A)] [ag true]:=
 h.of
theorem aqB(h:ad (LB a b q c A [.b ((A.length:Int)==2) false,.l [] [93,92,91] [] (ao Tryz.f273 0) (di A 0) .ret (fM r)])):
 ar 273 [.agg (bf a b c A)] [ag r]:=
 h.of
theorem aqC(h:ad (LB a b q c A [.b ((A.length:Int)==2) false,.l [] [93,92,91] [] (ao Tryz.f273 0) (di A 0) (.exit 1) fW])):
 ar 273 [.agg (bf a b c A)] [ag true]:=
 h.of
def LD(a b:Int)(q:Bool)(c:Int)(A:ae)(d e:Int)(l:List O):List O:=AH a b q c A (.b (a==8) false::.b ((A.length:Int)==2) true::.p ((0:Int)<=0)::.p (0<(A.length:Int))::.e A 0 [I d]::.p ((0:Int)<=1)::.p (1<(A.length:Int))::.e A 1 [I e]::l)
theorem ap3(h:ad (LD a b q c A d e [.b (d==e) true])):
 ar 273 [.agg (bf a b c A)] [ag false]:=
 h.of
theorem ap4(h:ad (LD a b q c A d e [.b (d==e) false,.l [] [93,92,91] [] (ao Tryz.f273 0) (di A 0) .ret (fM r)])):
 ar 273 [.agg (bf a b c A)] [ag r]:=
 h.of
theorem ap5(h:ad (LD a b q c A d e [.b (d==e) false,.l [] [93,92,91] [] (ao Tryz.f273 0) (di A 0) (.exit 1) fW])):
 ar 273 [.agg (bf a b c A)] [ag true]:=
 h.of
theorem ap6(h:ad (AH a b q c A [.b (a==8) false,.b ((A.length:Int)==2) false,.l [] [93,92,91] [] (ao Tryz.f273 0) (di A 0) .ret (fM r)])):
 ar 273 [.agg (bf a b c A)] [ag r]:=
 h.of
theorem ap7(h:ad (AH a b q c A [.b (a==8) false,.b ((A.length:Int)==2) false,.l [] [93,92,91] [] (ao Tryz.f273 0) (di A 0) (.exit 1) fW])):
 ar 273 [.agg (bf a b c A)] [ag true]:=
 h.of
def Ub(a:Int)(l:List O):List O:=LF a (.b (a==1) true::.b (a==1) true::l)
theorem ap8(h:ad (Ub a [.b (b != 0) true])):
 ar 273 [.agg (bf a b c A)] [ag false]:=
 h.of
def Uc(a b:Int)(l:List O):List O:=Ub a (.b (b != 0) false::l)
theorem ap9(h:ad (Uc a b [.b (c != 0) true])):
 ar 273 [.agg (bf a b c A)] [ag false]:=
 h.of
def Ud(a b c:Int)(l:List O):List O:=Uc a b (.b (c != 0) false::l)
theorem aqa(h:ad (Ud a b c [.b (decide ((A.length:Int)>2)) true])):
 ar 273 [.agg (bf a b c A)] [ag false]:=
 h.of
def Eg(a b c:Int)(A:ae)(l:List O):List O:=Ud a b c (.b (decide ((A.length:Int)>2)) false::l)
def Ue(a b c:Int)(A:ae)(l:List O):List O:=Eg a b c A (.b (a==8) true::l)
theorem aqb(h:ad (Ue a b c A [.b (decide ((A.length:Int)>0)) true])):
 ar 273 [.agg (bf a b c A)] [ag false]:=
 h.of
def Lo(a b c:Int)(A:ae)(l:List O):List O:=Ue a b c A (.b (decide ((A.length:Int)>0)) false::l)
def Lp(a b c:Int)(A:ae)(d e:Int)(l:List O):List O:=Lo a b c A (.b ((A.length:Int)==2) true::.p ((0:Int)<=0)::.p (0<(A.length:Int))::.e A 0 [I d]::.p ((0:Int)<=1)::.p (1<(A.length:Int))::.e A 1 [I e]::l)
theorem aqc(h:ad (Lp a b c A d e [.b (d==e) true])):
 ar 273 [.agg (bf a b c A)] [ag false]:=
 h.of
theorem arG(h:ad (Lp a b c A d e [.b (d==e) false,.l [] [93,92,91] [] (ao Tryz.f273 0) (di A 0) .ret (fM q)])):
 ar 273 [.agg (bf a b c A)] [ag q]:=
 h.of
theorem arH(h:ad (Lp a b c A d e [.b (d==e) false,.l [] [93,92,91] [] (ao Tryz.f273 0) (di A 0) (.exit 1) fW])):
 ar 273 [.agg (bf a b c A)] [ag true]:=
 h.of
theorem arI(h:ad (Lo a b c A [.b ((A.length:Int)==2) false,.l [] [93,92,91] [] (ao Tryz.f273 0) (di A 0) .ret (fM q)])):
 ar 273 [.agg (bf a b c A)] [ag q]:=
 h.of
theorem arJ(h:ad (Lo a b c A [.b ((A.length:Int)==2) false,.l [] [93,92,91] [] (ao Tryz.f273 0) (di A 0) (.exit 1) fW])):
 ar 273 [.agg (bf a b c A)] [ag true]:=
 h.of
def Lq(a b c:Int)(A:ae)(d e:Int)(l:List O):List O:=Eg a b c A (.b (a==8) false::.b ((A.length:Int)==2) true::.p ((0:Int)<=0)::.p (0<(A.length:Int))::.e A 0 [I d]::.p ((0:Int)<=1)::.p (1<(A.length:Int))::.e A 1 [I e]::l)
theorem arK(h:ad (Lq a b c A d e [.b (d==e) true])):
 ar 273 [.agg (bf a b c A)] [ag false]:=
 h.of
theorem arL(h:ad (Lq a b c A d e [.b (d==e) false,.l [] [93,92,91] [] (ao Tryz.f273 0) (di A 0) .ret (fM q)])):
 ar 273 [.agg (bf a b c A)] [ag q]:=
 h.of
theorem arM(h:ad (Lq a b c A d e [.b (d==e) false,.l [] [93,92,91] [] (ao Tryz.f273 0) (di A 0) (.exit 1) fW])):
 ar 273 [.agg (bf a b c A)] [ag true]:=
 h.of
theorem arN(h:ad (Eg a b c A [.b (a==8) false,.b ((A.length:Int)==2) false,.l [] [93,92,91] [] (ao Tryz.f273 0) (di A 0) .ret (fM q)])):
 ar 273 [.agg (bf a b c A)] [ag q]:=
 h.of
theorem arO(h:ad (Eg a b c A [.b (a==8) false,.b ((A.length:Int)==2) false,.l [] [93,92,91] [] (ao Tryz.f273 0) (di A 0) (.exit 1) fW])):
 ar 273 [.agg (bf a b c A)] [ag true]:=
 h.of
def Uf(a:Int)(l:List O):List O:=LF a (.b (a==1) false::l)
def Ug(a:Int)(l:List O):List O:=Uf a (.b (a==5) true::.b (a==5) true::l)
theorem arP(h:ad (Ug a [.b (b != 0) true])):
 ar 273 [.agg (bf a b c A)] [ag false]:=
 h.of
def Uh(a b:Int)(l:List O):List O:=Ug a (.b (b != 0) false::l)
theorem arQ(h:ad (Uh a b [.b (c != 0) true])):
 ar 273 [.agg (bf a b c A)] [ag false]:=
 h.of
def Ui(a b c:Int)(l:List O):List O:=Uh a b (.b (c != 0) false::l)
theorem arR(h:ad (Ui a b c [.b (decide ((A.length:Int)>2)) true])):
 ar 273 [.agg (bf a b c A)] [ag false]:=
 h.of
def Eh(a b c:Int)(A:ae)(l:List O):List O:=Ui a b c (.b (decide ((A.length:Int)>2)) false::l)
def Uj(a b c:Int)(A:ae)(l:List O):List O:=Eh a b c A (.b (a==8) true::l)
theorem arS(h:ad (Uj a b c A [.b (decide ((A.length:Int)>0)) true])):
 ar 273 [.agg (bf a b c A)] [ag false]:=
 h.of
def Lr(a b c:Int)(A:ae)(l:List O):List O:=Uj a b c A (.b (decide ((A.length:Int)>0)) false::l)
def Ls(a b c:Int)(A:ae)(d e:Int)(l:List O):List O:=Lr a b c A (.b ((A.length:Int)==2) true::.p ((0:Int)<=0)::.p (0<(A.length:Int))::.e A 0 [I d]::.p ((0:Int)<=1)::.p (1<(A.length:Int))::.e A 1 [I e]::l)
theorem arT(h:ad (Ls a b c A d e [.b (d==e) true])):
 ar 273 [.agg (bf a b c A)] [ag false]:=
 h.of
theorem arU(h:ad (Ls a b c A d e [.b (d==e) false,.l [] [93,92,91] [] (ao Tryz.f273 0) (di A 0) .ret (fM q)])):
 ar 273 [.agg (bf a b c A)] [ag q]:=
 h.of
theorem arV(h:ad (Ls a b c A d e [.b (d==e) false,.l [] [93,92,91] [] (ao Tryz.f273 0) (di A 0) (.exit 1) fW])):
 ar 273 [.agg (bf a b c A)] [ag true]:=
 h.of
theorem arW(h:ad (Lr a b c A [.b ((A.length:Int)==2) false,.l [] [93,92,91] [] (ao Tryz.f273 0) (di A 0) .ret (fM q)])):
 ar 273 [.agg (bf a b c A)] [ag q]:=
 h.of
theorem arX(h:ad (Lr a b c A [.b ((A.length:Int)==2) false,.l [] [93,92,91] [] (ao Tryz.f273 0) (di A 0) (.exit 1) fW])):
 ar 273 [.agg (bf a b c A)] [ag true]:=
 h.of
def Lt(a b c:Int)(A:ae)(d e:Int)(l:List O):List O:=Eh a b c A (.b (a==8) false::.b ((A.length:Int)==2) true::.p ((0:Int)<=0)::.p (0<(A.length:Int))::.e A 0 [I d]::.p ((0:Int)<=1)::.p (1<(A.length:Int))::.e A 1 [I e]::l)
theorem arY(h:ad (Lt a b c A d e [.b (d==e) true])):
 ar 273 [.agg (bf a b c A)] [ag false]:=
 h.of
theorem arZ(h:ad (Lt a b c A d e [.b (d==e) false,.l [] [93,92,91] [] (ao Tryz.f273 0) (di A 0) .ret (fM q)])):
 ar 273 [.agg (bf a b c A)] [ag q]:=
 h.of
theorem ar0(h:ad (Lt a b c A d e [.b (d==e) false,.l [] [93,92,91] [] (ao Tryz.f273 0) (di A 0) (.exit 1) fW])):
 ar 273 [.agg (bf a b c A)] [ag true]:=
 h.of
theorem ar1(h:ad (Eh a b c A [.b (a==8) false,.b ((A.length:Int)==2) false,.l [] [93,92,91] [] (ao Tryz.f273 0) (di A 0) .ret (fM q)])):
 ar 273 [.agg (bf a b c A)] [ag q]:=
 h.of
theorem ar2(h:ad (Eh a b c A [.b (a==8) false,.b ((A.length:Int)==2) false,.l [] [93,92,91] [] (ao Tryz.f273 0) (di A 0) (.exit 1) fW])):
 ar 273 [.agg (bf a b c A)] [ag true]:=
 h.of
def Uk(a:Int)(l:List O):List O:=Uf a (.b (a==5) false::l)
def Ul(a:Int)(l:List O):List O:=Uk a (.b (a==6) true::.b (a==6) true::l)
theorem ar3(h:ad (Ul a [.b (b != 0) true])):
 ar 273 [.agg (bf a b c A)] [ag false]:=
 h.of
def Um(a b:Int)(l:List O):List O:=Ul a (.b (b != 0) false::l)
theorem ar4(h:ad (Um a b [.b (c != 0) true])):
 ar 273 [.agg (bf a b c A)] [ag false]:=
 h.of
def Un(a b c:Int)(l:List O):List O:=Um a b (.b (c != 0) false::l)
theorem ar5(h:ad (Un a b c [.b (decide ((A.length:Int)>2)) true])):
 ar 273 [.agg (bf a b c A)] [ag false]:=
 h.of
def Ei(a b c:Int)(A:ae)(l:List O):List O:=Un a b c (.b (decide ((A.length:Int)>2)) false::l)
def Uo(a b c:Int)(A:ae)(l:List O):List O:=Ei a b c A (.b (a==8) true::l)
theorem ard(h:ad (Uo a b c A [.b (decide ((A.length:Int)>0)) true])):
 ar 273 [.agg (bf a b c A)] [ag false]:=
 h.of
def LG(a b c:Int)(A:ae)(l:List O):List O:=Uo a b c A (.b (decide ((A.length:Int)>0)) false::l)
def LH(a b c:Int)(A:ae)(d e:Int)(l:List O):List O:=LG a b c A (.b ((A.length:Int)==2) true::.p ((0:Int)<=0)::.p (0<(A.length:Int))::.e A 0 [I d]::.p ((0:Int)<=1)::.p (1<(A.length:Int))::.e A 1 [I e]::l)
theorem arf(h:ad (LH a b c A d e [.b (d==e) true])):
 ar 273 [.agg (bf a b c A)] [ag false]:=
 h.of
theorem arh(h:ad (LH a b c A d e [.b (d==e) false,.l [] [93,92,91] [] (ao Tryz.f273 0) (di A 0) .ret (fM q)])):
 ar 273 [.agg (bf a b c A)] [ag q]:=
 h.of
theorem ari(h:ad (LH a b c A d e [.b (d==e) false,.l [] [93,92,91] [] (ao Tryz.f273 0) (di A 0) (.exit 1) fW])):
 ar 273 [.agg (bf a b c A)] [ag true]:=
 h.of
theorem arj(h:ad (LG a b c A [.b ((A.length:Int)==2) false,.l [] [93,92,91] [] (ao Tryz.f273 0) (di A 0) .ret (fM q)])):
 ar 273 [.agg (bf a b c A)] [ag q]:=
 h.of
theorem ark(h:ad (LG a b c A [.b ((A.length:Int)==2) false,.l [] [93,92,91] [] (ao Tryz.f273 0) (di A 0) (.exit 1) fW])):
 ar 273 [.agg (bf a b c A)] [ag true]:=
 h.of
def LI(a b c:Int)(A:ae)(d e:Int)(l:List O):List O:=Ei a b c A (.b (a==8) false::.b ((A.length:Int)==2) true::.p ((0:Int)<=0)::.p (0<(A.length:Int))::.e A 0 [I d]::.p ((0:Int)<=1)::.p (1<(A.length:Int))::.e A 1 [I e]::l)
theorem arl(h:ad (LI a b c A d e [.b (d==e) true])):
 ar 273 [.agg (bf a b c A)] [ag false]:=
 h.of
theorem arm(h:ad (LI a b c A d e [.b (d==e) false,.l [] [93,92,91] [] (ao Tryz.f273 0) (di A 0) .ret (fM q)])):
 ar 273 [.agg (bf a b c A)] [ag q]:=
 h.of
theorem arn(h:ad (LI a b c A d e [.b (d==e) false,.l [] [93,92,91] [] (ao Tryz.f273 0) (di A 0) (.exit 1) fW])):
 ar 273 [.agg (bf a b c A)] [ag true]:=
 h.of
theorem aro(h:ad (Ei a b c A [.b (a==8) false,.b ((A.length:Int)==2) false,.l [] [93,92,91] [] (ao Tryz.f273 0) (di A 0) .ret (fM q)])):
 ar 273 [.agg (bf a b c A)] [ag q]:=
 h.of
theorem arp(h:ad (Ei a b c A [.b (a==8) false,.b ((A.length:Int)==2) false,.l [] [93,92,91] [] (ao Tryz.f273 0) (di A 0) (.exit 1) fW])):
 ar 273 [.agg (bf a b c A)] [ag true]:=
 h.of
def UB(a:Int)(l:List O):List O:=Uk a (.b (a==6) false::l)
def UC(a:Int)(l:List O):List O:=UB a (.b (a==7) true::.b (a==7) true::l)
theorem arq(h:ad (UC a [.b (b != 0) true])):
 ar 273 [.agg (bf a b c A)] [ag false]:=
 h.of
def Ej(a b:Int)(l:List O):List O:=UC a (.b (b != 0) false::l)
theorem ars(h:ad (Ej a b [.b (c != 0) true])):
 ar 273 [.agg (bf a b c A)] [ag false]:=
 h.of
def Ek(a b c:Int)(l:List O):List O:=Ej a b (.b (c != 0) false::l)
theorem art(h:ad (Ek a b c [.b (decide ((A.length:Int)>2)) true])):
 ar 273 [.agg (bf a b c A)] [ag false]:=
 h.of
def El(a b c:Int)(A:ae)(l:List O):List O:=Ek a b c (.b (decide ((A.length:Int)>2)) false::l)
def UD(a b c:Int)(A:ae)(l:List O):List O:=El a b c A (.b (a==8) true::l)
theorem aru(h:ad (UD a b c A [.b (decide ((A.length:Int)>0)) true])):
 ar 273 [.agg (bf a b c A)] [ag false]:=
 h.of
def AI(a b c:Int)(A:ae)(l:List O):List O:=UD a b c A (.b (decide ((A.length:Int)>0)) false::l)
def LP(a b c:Int)(A:ae)(d e:Int)(l:List O):List O:=AI a b c A (.b ((A.length:Int)==2) true::.p ((0:Int)<=0)::.p (0<(A.length:Int))::.e A 0 [I d]::.p ((0:Int)<=1)::.p (1<(A.length:Int))::.e A 1 [I e]::l)
theorem arv(h:ad (LP a b c A d e [.b (d==e) true])):
 ar 273 [.agg (bf a b c A)] [ag false]:=
 h.of
theorem arw(h:ad (LP a b c A d e [.b (d==e) false,.l [] [93,92,91] [] (ao Tryz.f273 0) (di A 0) .ret (fM q)])):
 ar 273 [.agg (bf a b c A)] [ag q]:=
 h.of
theorem arx(h:ad (LP a b c A d e [.b (d==e) false,.l [] [93,92,91] [] (ao Tryz.f273 0) (di A 0) (.exit 1) fW])):
 ar 273 [.agg (bf a b c A)] [ag true]:=
 h.of
theorem ary(h:ad (AI a b c A [.b ((A.length:Int)==2) false,.l [] [93,92,91] [] (ao Tryz.f273 0) (di A 0) .ret (fM q)])):
 ar 273 [.agg (bf a b c A)] [ag q]:=
 h.of
theorem arz(h:ad (AI a b c A [.b ((A.length:Int)==2) false,.l [] [93,92,91] [] (ao Tryz.f273 0) (di A 0) (.exit 1) fW])):
 ar 273 [.agg (bf a b c A)] [ag true]:=
 h.of
def LQ(a b c:Int)(A:ae)(d e:Int)(l:List O):List O:=El a b c A (.b (a==8) false::.b ((A.length:Int)==2) true::.p ((0:Int)<=0)::.p (0<(A.length:Int))::.e A 0 [I d]::.p ((0:Int)<=1)::.p (1<(A.length:Int))::.e A 1 [I e]::l)
theorem arA(h:ad (LQ a b c A d e [.b (d==e) true])):
 ar 273 [.agg (bf a b c A)] [ag false]:=
 h.of
theorem arB(h:ad (LQ a b c A d e [.b (d==e) false,.l [] [93,92,91] [] (ao Tryz.f273 0) (di A 0) .ret (fM q)])):
 ar 273 [.agg (bf a b c A)] [ag q]:=
 h.of
theorem arC(h:ad (LQ a b c A d e [.b (d==e) false,.l [] [93,92,91] [] (ao Tryz.f273 0) (di A 0) (.exit 1) fW])):
 ar 273 [.agg (bf a b c A)] [ag true]:=
 h.of
theorem arD(h:ad (El a b c A [.b (a==8) false,.b ((A.length:Int)==2) false,.l [] [93,92,91] [] (ao Tryz.f273 0) (di A 0) .ret (fM q)])):
 ar 273 [.agg (bf a b c A)] [ag q]:=
 h.of
theorem arE(h:ad (El a b c A [.b (a==8) false,.b ((A.length:Int)==2) false,.l [] [93,92,91] [] (ao Tryz.f273 0) (di A 0) (.exit 1) fW])):
 ar 273 [.agg (bf a b c A)] [ag true]:=
 h.of
def UT(a:Int)(l:List O):List O:=UB a (.b (a==7) false::l)
def UU(a:Int)(l:List O):List O:=UT a (.b (a==8) true::l)
theorem arF(h:ad (UU a [.b (b != 0) true])):
 ar 273 [.agg (bf a b c A)] [ag false]:=
 h.of
def UW(a b:Int)(l:List O):List O:=UU a (.b (b != 0) false::l)
theorem aq3(h:ad (UW a b [.b (c != 0) true])):
 ar 273 [.agg (bf a b c A)] [ag false]:=
 h.of
def UX(a b c:Int)(l:List O):List O:=UW a b (.b (c != 0) false::l)
theorem aq4(h:ad (UX a b c [.b (decide ((A.length:Int)>2)) true])):
 ar 273 [.agg (bf a b c A)] [ag false]:=
 h.of
def UY(a b c:Int)(A:ae)(l:List O):List O:=UX a b c (.b (decide ((A.length:Int)>2)) false::.b (a==8) true::l)
theorem aq5(h:ad (UY a b c A [.b (decide ((A.length:Int)>0)) true])):
 ar 273 [.agg (bf a b c A)] [ag false]:=
 h.of
def LR(a b c:Int)(A:ae)(l:List O):List O:=UY a b c A (.b (decide ((A.length:Int)>0)) false::l)
def LS(a b c:Int)(A:ae)(d e:Int)(l:List O):List O:=LR a b c A (.b ((A.length:Int)==2) true::.p ((0:Int)<=0)::.p (0<(A.length:Int))::.e A 0 [I d]::.p ((0:Int)<=1)::.p (1<(A.length:Int))::.e A 1 [I e]::l)
theorem aq6(h:ad (LS a b c A d e [.b (d==e) true])):
 ar 273 [.agg (bf a b c A)] [ag false]:=
 h.of
theorem aq7(h:ad (LS a b c A d e [.b (d==e) false,.l [] [93,92,91] [] (ao Tryz.f273 0) (di A 0) .ret (fM q)])):
 ar 273 [.agg (bf a b c A)] [ag q]:=
 h.of
theorem aq8(h:ad (LS a b c A d e [.b (d==e) false,.l [] [93,92,91] [] (ao Tryz.f273 0) (di A 0) (.exit 1) fW])):
 ar 273 [.agg (bf a b c A)] [ag true]:=
 h.of
theorem aq9(h:ad (LR a b c A [.b ((A.length:Int)==2) false,.l [] [93,92,91] [] (ao Tryz.f273 0) (di A 0) .ret (fM q)])):
 ar 273 [.agg (bf a b c A)] [ag q]:=
 h.of
theorem ara(h:ad (LR a b c A [.b ((A.length:Int)==2) false,.l [] [93,92,91] [] (ao Tryz.f273 0) (di A 0) (.exit 1) fW])):
 ar 273 [.agg (bf a b c A)] [ag true]:=
 h.of
theorem arb(h:ad (UT a [.b (a==8) false])):
 ar 273 [.agg (bf a b c A)] [ag false]:=
 h.of
