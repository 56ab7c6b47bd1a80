import Derived.Test.YthfnndblgbjniaaGreatGE
namespace Go.Proofs.YthfnndblgbjniaaGreat
open Go.Sx Go.RowKit
variable {a b c d e f g : Int} {A : af} {q r s t : Bool}
def IP(a:Int)(l:List O):List O:=.b (a==2) true::l
def aa3(a b:Int)(q r:Bool)(l:List O):List O:=IP a (.r 44 [ae b,ae 0,ae 999] [ak q]::.r 44 [ae a,ae 1,ae 8] [ak r]::l)
theorem ai1(h:ad (aa3 a b r q [.n q true])):
 ar 104 [.agg (br a b c A)] [ak false]:=
 h.of
def QE(a b:Int)(q r:Bool)(l:List O):List O:=aa3 a b q r (.n r false::l)
theorem ai2(h:ad (QE a b q r [.n q true])):
 ar 104 [.agg (br a b c A)] [ak false]:=
 h.of
theorem ai3(h:ad (QE a b q r [.n q false,.b (!c==0) true])):
 ar 104 [.agg (br a b c A)] [ak false]:=
 h.of
def IQ(a b:Int)(q r:Bool)(c:Int)(l:List O):List O:=QE a b q r (.n q false::.b (!c==0) false::l)
theorem ai4(h:ad (IQ a b q r c [.b (decide ((A.length:Int)>2)) true])):
 ar 104 [.agg (br a b c A)] [ak false]:=
 h.of
def yR(a b:Int)(q r:Bool)(c:Int)(A:af)(l:List O):List O:=IQ a b q r c (.b (decide ((A.length:Int)>2)) false::l)
theorem ai5(h:ad (yR a b q r c A [.b (a==8) true,.b (decide ((A.length:Int)>0)) true])):
 ar 104 [.agg (br a b c A)] [ak false]:=
 h.of
def iJ(a b c:Int)(A:af)(d:Int):aD:=a' 93 [(1,aS 1),(5,aT d)] [(1,[av a,av b,av c,.J .free 1 A])]
def r3(q:Bool):aD:=a' 93 [(2,.aF (.one (.bg q)))] []
def QS(A:af)(a b:Int)(q:Bool)(l:List O):List O:=.i A a [I b]::.r 44 [ae b,ae 0,ae 7] [ak q]::l
theorem Nl(h:ad (QS A a b q [.n q true])):
 aV (ap Tryz.f104 0) (iJ c d e A a) .ret (r3 false):=
 h.aQ [2] []
def abl(A:af)(a b:Int)(q:Bool)(c d:Int)(l:List O):List O:=QS A a b q (.n q false::.b (decide (a>0)) true::.p ((0:Int)<=0)::.p (0<(A.length:Int))::.e A 0 [I c]::.p ((0:Int)<=1)::.p (1<(A.length:Int))::.e A 1 [I d]::l)
theorem ai6(h:ad (abl A a c q d b [.b (d==b) true])):
 aV (ap Tryz.f104 0) (iJ e f g A a) .ret (r3 false):=
 h.aQ [2] []
theorem ai7(h:ad (abl A a f q g d [.b (g==d) false,.u a])):
 aV (ap Tryz.f104 0) (iJ b c e A a) .normal (iJ b c e A (a+1)):=
 h.aQ [5,1] [1]
theorem Wj(h:ad (QS A a e q [.n q false,.b (decide (a>0)) false,.u a])):
 aV (ap Tryz.f104 0) (iJ b c d A a) .normal (iJ b c d A (a+1)):=
 h.aQ [5,1] [1]
def tq:aD:=a' 93 [] []
theorem Nn(h:ad [.f A a false]):
 aV (ap Tryz.f104 0) (iJ b c d A a) (.exit 1) tq:=
 h.aQ [] []
theorem ai8(h:ad (yR a b q r c A [.b (a==8) true,.b (decide ((A.length:Int)>0)) false,.l [] [5,1] [1] (ap Tryz.f104 0) (iJ a b c A 0) .ret (r3 s)])):
 ar 104 [.agg (br a b c A)] [ak s]:=
 h.of
theorem ai9(h:ad (yR a b q r c A [.b (a==8) true,.b (decide ((A.length:Int)>0)) false,.l [] [5,1] [1] (ap Tryz.f104 0) (iJ a b c A 0) (.exit 1) tq])):
 ar 104 [.agg (br a b c A)] [ak true]:=
 h.of
theorem aja(h:ad (yR a b q r c A [.b (a==8) false,.l [] [5,1] [1] (ap Tryz.f104 0) (iJ a b c A 0) .ret (r3 s)])):
 ar 104 [.agg (br a b c A)] [ak s]:=
 h.of
theorem ajb(h:ad (yR a b q r c A [.b (a==8) false,.l [] [5,1] [1] (ap Tryz.f104 0) (iJ a b c A 0) (.exit 1) tq])):
 ar 104 [.agg (br a b c A)] [ak true]:=
 h.of
def abm(a:Int)(l:List O):List O:=.b (a==2) false::l
def abn(a:Int)(l:List O):List O:=abm a (.b (a==3) true::l)
def QT(a b:Int)(q:Bool)(c:Int)(r s:Bool)(l:List O):List O:=abn a (.r 44 [ae b,ae 1,ae 10] [ak q]::.a .wr::.r 44 [ae c,ae 0,ae (IntKind.i64.wrap (b-1))] [ak r]::.r 44 [ae a,ae 1,ae 8] [ak s]::l)
theorem ajc(h:ad (QT a b r c s q [.n q true])):
 ar 104 [.agg (br a b c A)] [ak false]:=
 h.of
theorem ajd(h:ad (QT a b q c s r [.n r false,.n q true])):
 ar 104 [.agg (br a b c A)] [ak false]:=
 h.of
def QU(a b:Int)(q:Bool)(c:Int)(r s:Bool)(l:List O):List O:=QT a b q c r s (.n s false::.n q false::l)
theorem aje(h:ad (QU a b q c r s [.n r true])):
 ar 104 [.agg (br a b c A)] [ak false]:=
 h.of
theorem ajf(h:ad (QU a b q c r s [.n r false,.b (decide ((A.length:Int)>2)) true])):
 ar 104 [.agg (br a b c A)] [ak false]:=
 h.of
def Es(a b:Int)(q:Bool)(c:Int)(r s:Bool)(A:af)(l:List O):List O:=QU a b q c r s (.n r false::.b (decide ((A.length:Int)>2)) false::l)
theorem ajg(h:ad (Es a b q c r s A [.b (a==8) true,.b (decide ((A.length:Int)>0)) true])):
 ar 104 [.agg (br a b c A)] [ak false]:=
 h.of
theorem ajh(h:ad (Es a b q c r s A [.b (a==8) true,.b (decide ((A.length:Int)>0)) false,.l [] [5,1] [1] (ap Tryz.f104 0) (iJ a b c A 0) .ret (r3 t)])):
 ar 104 [.agg (br a b c A)] [ak t]:=
 h.of
theorem aji(h:ad (Es a b q c r s A [.b (a==8) true,.b (decide ((A.length:Int)>0)) false,.l [] [5,1] [1] (ap Tryz.f104 0) (iJ a b c A 0) (.exit 1) tq])):
 ar 104 [.agg (br a b c A)] [ak true]:=
 h.of
theorem ajj(h:ad (Es a b q c r s A [.b (a==8) false,.l [] [5,1] [1] (ap Tryz.f104 0) (iJ a b c A 0) .ret (r3 t)])):
 ar 104 [.agg (br a b c A)] [ak t]:=
 h.of
theorem ajk(h:ad (Es a b q c r s A [.b (a==8) false,.l [] [5,1] [1] (ap Tryz.f104 0) (iJ a b c A 0) (.exit 1) tq])):
 ar 104 [.agg (br a b c A)] [ak true]:=
 h.of
def abr(a:Int)(l:List O):List O:=abm a (.b (a==3) false::l)
def abt(a:Int)(l:List O):List O:=abr a (.b (a==4) true::l)
def abu(a b:Int)(q r:Bool)(l:List O):List O:=abt a (.r 44 [ae b,ae 0,ae 99] [ak q]::.r 44 [ae a,ae 1,ae 8] [ak r]::l)
theorem aiL(h:ad (abu a b r q [.n q true])):
 ar 104 [.agg (br a b c A)] [ak false]:=
 h.of
def QY(a b:Int)(q r:Bool)(l:List O):List O:=abu a b q r (.n r false::l)
theorem aiM(h:ad (QY a b q r [.n q true])):
 ar 104 [.agg (br a b c A)] [ak false]:=
 h.of
theorem aiN(h:ad (QY a b q r [.n q false,.b (!c==0) true])):
 ar 104 [.agg (br a b c A)] [ak false]:=
 h.of
def abv(a b:Int)(q r:Bool)(c:Int)(l:List O):List O:=QY a b q r (.n q false::.b (!c==0) false::l)
theorem aiO(h:ad (abv a b q r c [.b (decide ((A.length:Int)>2)) true])):
 ar 104 [.agg (br a b c A)] [ak false]:=
 h.of
def Eu(a b:Int)(q r:Bool)(c:Int)(A:af)(l:List O):List O:=abv a b q r c (.b (decide ((A.length:Int)>2)) false::l)
theorem aiP(h:ad (Eu a b q r c A [.b (a==8) true,.b (decide ((A.length:Int)>0)) true])):
 ar 104 [.agg (br a b c A)] [ak false]:=
 h.of
theorem aiQ(h:ad (Eu a b q r c A [.b (a==8) true,.b (decide ((A.length:Int)>0)) false,.l [] [5,1] [1] (ap Tryz.f104 0) (iJ a b c A 0) .ret (r3 s)])):
 ar 104 [.agg (br a b c A)] [ak s]:=
 h.of
theorem aiR(h:ad (Eu a b q r c A [.b (a==8) true,.b (decide ((A.length:Int)>0)) false,.l [] [5,1] [1] (ap Tryz.f104 0) (iJ a b c A 0) (.exit 1) tq])):
 ar 104 [.agg (br a b c A)] [ak true]:=
 h.of
theorem aiS(h:ad (Eu a b q r c A [.b (a==8) false,.l [] [5,1] [1] (ap Tryz.f104 0) (iJ a b c A 0) .ret (r3 s)])):
 ar 104 [.agg (br a b c A)] [ak s]:=
 h.of
theorem aiT(h:ad (Eu a b q r c A [.b (a==8) false,.l [] [5,1] [1] (ap Tryz.f104 0) (iJ a b c A 0) (.exit 1) tq])):
 ar 104 [.agg (br a b c A)] [ak true]:=
 h.of
def QJ(a:Int)(l:List O):List O:=abr a (.b (a==4) false::l)
def aa7(a:Int)(q:Bool)(l:List O):List O:=QJ a (.r 44 [ae a,ae 1,ae 8] [ak q]::l)
theorem aiU(h:ad (aa7 a q [.n q true])):
 ar 104 [.agg (br a b c A)] [ak false]:=
 h.of
def aa8(a:Int)(q:Bool)(l:List O):List O:=aa7 a q (.n q false::l)
theorem akl(h:ad (aa8 a q [.b (!b==0) true])):
 ar 104 [.agg (br a b c A)] [ak false]:=
 h.of
def aa9(a:Int)(q:Bool)(b:Int)(l:List O):List O:=aa8 a q (.b (!b==0) false::l)
theorem akm(h:ad (aa9 a q b [.b (!c==0) true])):
 ar 104 [.agg (br a b c A)] [ak false]:=
 h.of
def aba(a:Int)(q:Bool)(b c:Int)(l:List O):List O:=aa9 a q b (.b (!c==0) false::l)
theorem akn(h:ad (aba a q b c [.b (decide ((A.length:Int)>2)) true])):
 ar 104 [.agg (br a b c A)] [ak false]:=
 h.of
def Er(a:Int)(q:Bool)(b c:Int)(A:af)(l:List O):List O:=aba a q b c (.b (decide ((A.length:Int)>2)) false::l)
theorem ako(h:ad (Er a q b c A [.b (a==8) true,.b (decide ((A.length:Int)>0)) true])):
 ar 104 [.agg (br a b c A)] [ak false]:=
 h.of
theorem akp(h:ad (Er a q b c A [.b (a==8) true,.b (decide ((A.length:Int)>0)) false,.l [] [5,1] [1] (ap Tryz.f104 0) (iJ a b c A 0) .ret (r3 r)])):
 ar 104 [.agg (br a b c A)] [ak r]:=
 h.of
theorem akq(h:ad (Er a q b c A [.b (a==8) true,.b (decide ((A.length:Int)>0)) false,.l [] [5,1] [1] (ap Tryz.f104 0) (iJ a b c A 0) (.exit 1) tq])):
 ar 104 [.agg (br a b c A)] [ak true]:=
 h.of
theorem akr(h:ad (Er a q b c A [.b (a==8) false,.l [] [5,1] [1] (ap Tryz.f104 0) (iJ a b c A 0) .ret (r3 r)])):
 ar 104 [.agg (br a b c A)] [ak r]:=
 h.of
theorem aks(h:ad (Er a q b c A [.b (a==8) false,.l [] [5,1] [1] (ap Tryz.f104 0) (iJ a b c A 0) (.exit 1) tq])):
 ar 104 [.agg (br a b c A)] [ak true]:=
 h.of
def aa4(a b:Int)(q:Bool)(l:List O):List O:=IP a (.r 43 [ae b,ae 0,ae 999] [ak q]::l)
theorem akt(h:ad (aa4 a b q [.n q true])):
 ar 113 [.agg (br a b c A)] [ak false]:=
 h.of
def aa5(a b:Int)(q:Bool)(l:List O):List O:=aa4 a b q (.n q false::l)
theorem aku(h:ad (aa5 a b q [.b (c != 0) true])):
 ar 113 [.agg (br a b c A)] [ak false]:=
 h.of
def aa6(a b:Int)(q:Bool)(c:Int)(l:List O):List O:=aa5 a b q (.b (c != 0) false::l)
theorem akv(h:ad (aa6 a b q c [.b (decide ((A.length:Int)>2)) true])):
 ar 113 [.agg (br a b c A)] [ak false]:=
 h.of
def Ep(a b:Int)(q:Bool)(c:Int)(A:af)(l:List O):List O:=aa6 a b q c (.b (decide ((A.length:Int)>2)) false::l)
theorem akw(h:ad (Ep a b q c A [.b (a==8) true,.b (decide ((A.length:Int)>0)) true])):
 ar 113 [.agg (br a b c A)] [ak false]:=
 h.of
def QF(a b:Int)(q:Bool)(c:Int)(A:af)(l:List O):List O:=Ep a b q c A (.b (a==8) true::.b (decide ((A.length:Int)>0)) false::l)
def QQ(a b:Int)(q:Bool)(c:Int)(A:af)(d e:Int)(l:List O):List O:=QF a b q c A (.b ((A.length:Int)==2) true::.p ((0:Int)<=0)::.p (0<(A.length:Int))::.e A 0 [I d]::.p ((0:Int)<=1)::.p (1<(A.length:Int))::.e A 1 [I e]::l)
theorem akx(h:ad (QQ a b q c A d e [.b (d==e) true])):
 ar 113 [.agg (br a b c A)] [ak false]:=
 h.of
def dP(A:af)(a:Int):aD:=a' 101 [(91,dW 1 A),(92,aT (A.length:Int)),(93,aT a)] []
def hh(q:Bool):aD:=a' 101 [(2,.aF (.one (.bg q)))] []
theorem aky(h:ad [.i A a [I b],.r 43 [ae b,ae 0,ae 7] [ak q],.n q true]):
 aV (ap Tryz.f113 0) (dP A a) .ret (hh false):=
 h.aQ [2] []
theorem akz(h:ad [.i A a [I b],.r 43 [ae b,ae 0,ae 7] [ak q],.n q false,.u a]):
 aV (ap Tryz.f113 0) (dP A a) .normal (dP A (a+1)):=
 h.aQ [93,92,91] []
def hx:aD:=a' 101 [] []
theorem akA(h:ad [.f A a false]):
 aV (ap Tryz.f113 0) (dP A a) (.exit 1) hx:=
 h.aQ [] []
theorem akB(h:ad (QQ a b q c A d e [.b (d==e) false,.l [] [93,92,91] [] (ap Tryz.f113 0) (dP A 0) .ret (hh r)])):
 ar 113 [.agg (br a b c A)] [ak r]:=
 h.of
theorem akC(h:ad (QQ a b q c A d e [.b (d==e) false,.l [] [93,92,91] [] (ap Tryz.f113 0) (dP A 0) (.exit 1) hx])):
 ar 113 [.agg (br a b c A)] [ak true]:=
 h.of
theorem akD(h:ad (QF a b q c A [.b ((A.length:Int)==2) false,.l [] [93,92,91] [] (ap Tryz.f113 0) (dP A 0) .ret (hh r)])):
 ar 113 [.agg (br a b c A)] [ak r]:=
 h.of
theorem akE(h:ad (QF a b q c A [.b ((A.length:Int)==2) false,.l [] [93,92,91] [] (ap Tryz.f113 0) (dP A 0) (.exit 1) hx])):
 ar 113 [.agg (br a b c A)] [ak true]:=
 h.of
def QR(a b:Int)(q:Bool)(c:Int)(A:af)(d e:Int)(l:List O):List O:=Ep a b q c A (.b (a==8) false::.b ((A.length:Int)==2) true::.p ((0:Int)<=0)::.p (0<(A.length:Int))::.e A 0 [I d]::.p ((0:Int)<=1)::.p (1<(A.length:Int))::.e A 1 [I e]::l)
theorem akF(h:ad (QR a b q c A d e [.b (d==e) true])):
 ar 113 [.agg (br a b c A)] [ak false]:=
 h.of
theorem akG(h:ad (QR a b q c A d e [.b (d==e) false,.l [] [93,92,91] [] (ap Tryz.f113 0) (dP A 0) .ret (hh r)])):
 ar 113 [.agg (br a b c A)] [ak r]:=
 h.of
theorem akH(h:ad (QR a b q c A d e [.b (d==e) false,.l [] [93,92,91] [] (ap Tryz.f113 0) (dP A 0) (.exit 1) hx])):
 ar 113 [.agg (br a b c A)] [ak true]:=
 h.of
theorem akI(h:ad (Ep a b q c A [.b (a==8) false,.b ((A.length:Int)==2) false,.l [] [93,92,91] [] (ap Tryz.f113 0) (dP A 0) .ret (hh r)])):
 ar 113 [.agg (br a b c A)] [ak r]:=
 h.of
theorem akJ(h:ad (Ep a b q c A [.b (a==8) false,.b ((A.length:Int)==2) false,.l [] [93,92,91] [] (ap Tryz.f113 0) (dP A 0) (.exit 1) hx])):
 ar 113 [.agg (br a b c A)] [ak true]:=
 h.of
def abo(a b:Int)(q:Bool)(l:List O):List O:=abn a (.r 43 [ae b,ae 1,ae 10] [ak q]::l)
theorem akK(h:ad (abo a b q [.n q true])):
 ar 113 [.agg (br a b c A)] [ak false]:=
 h.of
def abp(a b:Int)(q:Bool)(c:Int)(r:Bool)(l:List O):List O:=abo a b q (.n q false::.a .wr::.r 43 [ae c,ae 0,ae (IntKind.i64.wrap (b-1))] [ak r]::l)
theorem ajV(h:ad (abp a b q c r [.n r true])):
 ar 113 [.agg (br a b c A)] [ak false]:=
 h.of
def abq(a b:Int)(q:Bool)(c:Int)(r:Bool)(l:List O):List O:=abp a b q c r (.n r false::l)
theorem ajW(h:ad (abq a b q c r [.b (decide ((A.length:Int)>2)) true])):
 ar 113 [.agg (br a b c A)] [ak false]:=
 h.of
def Et(a b:Int)(q:Bool)(c:Int)(r:Bool)(A:af)(l:List O):List O:=abq a b q c r (.b (decide ((A.length:Int)>2)) false::l)
theorem ajX(h:ad (Et a b q c r A [.b (a==8) true,.b (decide ((A.length:Int)>0)) true])):
 ar 113 [.agg (br a b c A)] [ak false]:=
 h.of
def QV(a b:Int)(q:Bool)(c:Int)(r:Bool)(A:af)(l:List O):List O:=Et a b q c r A (.b (a==8) true::.b (decide ((A.length:Int)>0)) false::l)
def QW(a b:Int)(q:Bool)(c:Int)(r:Bool)(A:af)(d e:Int)(l:List O):List O:=QV a b q c r A (.b ((A.length:Int)==2) true::.p ((0:Int)<=0)::.p (0<(A.length:Int))::.e A 0 [I d]::.p ((0:Int)<=1)::.p (1<(A.length:Int))::.e A 1 [I e]::l)
theorem ajY(h:ad (QW a b q c r A d e [.b (d==e) true])):
 ar 113 [.agg (br a b c A)] [ak false]:=
 h.of
theorem ajZ(h:ad (QW a b q c r A d e [.b (d==e) false,.l [] [93,92,91] [] (ap Tryz.f113 0) (dP A 0) .ret (hh s)])):
 ar 113 [.agg (br a b c A)] [ak s]:=
 h.of
theorem aj0(h:ad (QW a b q c r A d e [.b (d==e) false,.l [] [93,92,91] [] (ap Tryz.f113 0) (dP A 0) (.exit 1) hx])):
 ar 113 [.agg (br a b c A)] [ak true]:=
 h.of
theorem aj1(h:ad (QV a b q c r A [.b ((A.length:Int)==2) false,.l [] [93,92,91] [] (ap Tryz.f113 0) (dP A 0) .ret (hh s)])):
 ar 113 [.agg (br a b c A)] [ak s]:=
 h.of
theorem aj2(h:ad (QV a b q c r A [.b ((A.length:Int)==2) false,.l [] [93,92,91] [] (ap Tryz.f113 0) (dP A 0) (.exit 1) hx])):
 ar 113 [.agg (br a b c A)] [ak true]:=
 h.of
def QX(a b:Int)(q:Bool)(c:Int)(r:Bool)(A:af)(d e:Int)(l:List O):List O:=Et a b q c r A (.b (a==8) false::.b ((A.length:Int)==2) true::.p ((0:Int)<=0)::.p (0<(A.length:Int))::.e A 0 [I d]::.p ((0:Int)<=1)::.p (1<(A.length:Int))::.e A 1 [I e]::l)
theorem aj3(h:ad (QX a b q c r A d e [.b (d==e) true])):
 ar 113 [.agg (br a b c A)] [ak false]:=
 h.of
theorem aj4(h:ad (QX a b q c r A d e [.b (d==e) false,.l [] [93,92,91] [] (ap Tryz.f113 0) (dP A 0) .ret (hh s)])):
 ar 113 [.agg (br a b c A)] [ak s]:=
 h.of
theorem aj5(h:ad (QX a b q c r A d e [.b (d==e) false,.l [] [93,92,91] [] (ap Tryz.f113 0) (dP A 0) (.exit 1) hx])):
 ar 113 [.agg (br a b c A)] [ak true]:=
 h.of
theorem aj6(h:ad (Et a b q c r A [.b (a==8) false,.b ((A.length:Int)==2) false,.l [] [93,92,91] [] (ap Tryz.f113 0) (dP A 0) .ret (hh s)])):
 ar 113 [.agg (br a b c A)] [ak s]:=
 h.of
theorem aj7(h:ad (Et a b q c r A [.b (a==8) false,.b ((A.length:Int)==2) false,.l [] [93,92,91] [] (ap Tryz.f113 0) (dP A 0) (.exit 1) hx])):
 ar 113 [.agg (br a b c A)] [ak true]:=
 h.of
def abw(a b:Int)(q:Bool)(l:List O):List O:=abt a (.r 43 [ae b,ae 0,ae 99] [ak q]::l)
theorem aj8(h:ad (abw a b q [.n q true])):
 ar 113 [.agg (br a b c A)] [ak false]:=
 h.of
def abx(a b:Int)(q:Bool)(l:List O):List O:=abw a b q (.n q false::l)
theorem aj9(h:ad (abx a b q [.b (c != 0) true])):
 ar 113 [.agg (br a b c A)] [ak false]:=
 h.of
def aby(a b:Int)(q:Bool)(c:Int)(l:List O):List O:=abx a b q (.b (c != 0) false::l)
theorem aka(h:ad (aby a b q c [.b (decide ((A.length:Int)>2)) true])):
 ar 113 [.agg (br a b c A)] [ak false]:=
 h.of
def Ev(a b:Int)(q:Bool)(c:Int)(A:af)(l:List O):List O:=aby a b q c (.b (decide ((A.length:Int)>2)) false::l)
theorem akb(h:ad (Ev a b q c A [.b (a==8) true,.b (decide ((A.length:Int)>0)) true])):
 ar 113 [.agg (br a b c A)] [ak false]:=
 h.of
def QG(a b:Int)(q:Bool)(c:Int)(A:af)(l:List O):List O:=Ev a b q c A (.b (a==8) true::.b (decide ((A.length:Int)>0)) false::l)
def QH(a b:Int)(q:Bool)(c:Int)(A:af)(d e:Int)(l:List O):List O:=QG a b q c A (.b ((A.length:Int)==2) true::.p ((0:Int)<=0)::.p (0<(A.length:Int))::.e A 0 [I d]::.p ((0:Int)<=1)::.p (1<(A.length:Int))::.e A 1 [I e]::l)
theorem akc(h:ad (QH a b q c A d e [.b (d==e) true])):
 ar 113 [.agg (br a b c A)] [ak false]:=
 h.of
theorem akd(h:ad (QH a b q c A d e [.b (d==e) false,.l [] [93,92,91] [] (ap Tryz.f113 0) (dP A 0) .ret (hh r)])):
 ar 113 [.agg (br a b c A)] [ak r]:=
 h.of
theorem ake(h:ad (QH a b q c A d e [.b (d==e) false,.l [] [93,92,91] [] (ap Tryz.f113 0) (dP A 0) (.exit 1) hx])):
 ar 113 [.agg (br a b c A)] [ak true]:=
 h.of
theorem akf(h:ad (QG a b q c A [.b ((A.length:Int)==2) false,.l [] [93,92,91] [] (ap Tryz.f113 0) (dP A 0) .ret (hh r)])):
 ar 113 [.agg (br a b c A)] [ak r]:=
 h.of
theorem akg(h:ad (QG a b q c A [.b ((A.length:Int)==2) false,.l [] [93,92,91] [] (ap Tryz.f113 0) (dP A 0) (.exit 1) hx])):
 ar 113 [.agg (br a b c A)] [ak true]:=
 h.of
def QI(a b:Int)(q:Bool)(c:Int)(A:af)(d e:Int)(l:List O):List O:=Ev a b q c A (.b (a==8) false::.b ((A.length:Int)==2) true::.p ((0:Int)<=0)::.p (0<(A.length:Int))::.e A 0 [I d]::.p ((0:Int)<=1)::.p (1<(A.length:Int))::.e A 1 [I e]::l)
theorem akh(h:ad (QI a b q c A d e [.b (d==e) true])):
 ar 113 [.agg (br a b c A)] [ak false]:=
 h.of
theorem aki(h:ad (QI a b q c A d e [.b (d==e) false,.l [] [93,92,91] [] (ap Tryz.f113 0) (dP A 0) .ret (hh r)])):
 ar 113 [.agg (br a b c A)] [ak r]:=
 h.of
theorem akj(h:ad (QI a b q c A d e [.b (d==e) false,.l [] [93,92,91] [] (ap Tryz.f113 0) (dP A 0) (.exit 1) hx])):
 ar 113 [.agg (br a b c A)] [ak true]:=
 h.of
theorem akk(h:ad (Ev a b q c A [.b (a==8) false,.b ((A.length:Int)==2) false,.l [] [93,92,91] [] (ap Tryz.f113 0) (dP A 0) .ret (hh r)])):
 ar 113 [.agg (br a b c A)] [ak r]:=
 h.of
theorem ajL(h:ad (Ev a b q c A [.b (a==8) false,.b ((A.length:Int)==2) false,.l [] [93,92,91] [] (ap Tryz.f113 0) (dP A 0) (.exit 1) hx])):
 ar 113 [.agg (br a b c A)] [ak true]:=
 h.of
def abb(a:Int)(l:List O):List O:=QJ a (.b (a==1) true::.b (a==1) true::l)
theorem ajM(h:ad (abb a [.b (b != 0) true])):
 ar 113 [.agg (br a b c A)] [ak false]:=
 h.of
def abd(a b:Int)(l:List O):List O:=abb a (.b (b != 0) false::l)
theorem ajN(h:ad (abd a b [.b (c != 0) true])):
 ar 113 [.agg (br a b c A)] [ak false]:=
 h.of
def abe(a b c:Int)(l:List O):List O:=abd a b (.b (c != 0) false::l)
theorem ajO(h:ad (abe a b c [.b (decide ((A.length:Int)>2)) true])):
 ar 113 [.agg (br a b c A)] [ak false]:=
 h.of
def IS(a b c:Int)(A:af)(l:List O):List O:=abe a b c (.b (decide ((A.length:Int)>2)) false::l)
def abf(a b c:Int)(A:af)(l:List O):List O:=IS a b c A (.b (a==8) true::l)
theorem ajP(h:ad (abf a b c A [.b (decide ((A.length:Int)>0)) true])):
 ar 113 [.agg (br a b c A)] [ak false]:=
 h.of
def QK(a b c:Int)(A:af)(l:List O):List O:=abf a b c A (.b (decide ((A.length:Int)>0)) false::l)
def QL(a b c:Int)(A:af)(d e:Int)(l:List O):List O:=QK a b c A (.b ((A.length:Int)==2) true::.p ((0:Int)<=0)::.p (0<(A.length:Int))::.e A 0 [I d]::.p ((0:Int)<=1)::.p (1<(A.length:Int))::.e A 1 [I e]::l)
theorem ajQ(h:ad (QL a b c A d e [.b (d==e) true])):
 ar 113 [.agg (br a b c A)] [ak false]:=
 h.of
theorem ajR(h:ad (QL a b c A d e [.b (d==e) false,.l [] [93,92,91] [] (ap Tryz.f113 0) (dP A 0) .ret (hh q)])):
 ar 113 [.agg (br a b c A)] [ak q]:=
 h.of
theorem ajS(h:ad (QL a b c A d e [.b (d==e) false,.l [] [93,92,91] [] (ap Tryz.f113 0) (dP A 0) (.exit 1) hx])):
 ar 113 [.agg (br a b c A)] [ak true]:=
 h.of
theorem ajT(h:ad (QK a b c A [.b ((A.length:Int)==2) false,.l [] [93,92,91] [] (ap Tryz.f113 0) (dP A 0) .ret (hh q)])):
 ar 113 [.agg (br a b c A)] [ak q]:=
 h.of
theorem ajU(h:ad (QK a b c A [.b ((A.length:Int)==2) false,.l [] [93,92,91] [] (ap Tryz.f113 0) (dP A 0) (.exit 1) hx])):
 ar 113 [.agg (br a b c A)] [ak true]:=
 h.of
def QM(a b c:Int)(A:af)(d e:Int)(l:List O):List O:=IS a b c A (.b (a==8) false::.b ((A.length:Int)==2) true::.p ((0:Int)<=0)::.p (0<(A.length:Int))::.e A 0 [I d]::.p ((0:Int)<=1)::.p (1<(A.length:Int))::.e A 1 [I e]::l)
theorem alm(h:ad (QM a b c A d e [.b (d==e) true])):
 ar 113 [.agg (br a b c A)] [ak false]:=
 h.of
theorem aln(h:ad (QM a b c A d e [.b (d==e) false,.l [] [93,92,91] [] (ap Tryz.f113 0) (dP A 0) .ret (hh q)])):
 ar 113 [.agg (br a b c A)] [ak q]:=
 h.of
theorem alo(h:ad (QM a b c A d e [.b (d==e) false,.l [] [93,92,91] [] (ap Tryz.f113 0) (dP A 0) (.exit 1) hx])):
 ar 113 [.agg (br a b c A)] [ak true]:=
 h.of
theorem alp(h:ad (IS a b c A [.b (a==8) false,.b ((A.length:Int)==2) false,.l [] [93,92,91] [] (ap Tryz.f113 0) (dP A 0) .ret (hh q)])):
 ar 113 [.agg (br a b c A)] [ak q]:=
 h.of
theorem alq(h:ad (IS a b c A [.b (a==8) false,.b ((A.length:Int)==2) false,.l [] [93,92,91] [] (ap Tryz.f113 0) (dP A 0) (.exit 1) hx])):
 ar 113 [.agg (br a b c A)] [ak true]:=
 h.of
def abg(a:Int)(l:List O):List O:=QJ a (.b (a==1) false::l)
def abh(a:Int)(l:List O):List O:=abg a (.b (a==5) true::.b (a==5) true::l)
theorem alr(h:ad (abh a [.b (b != 0) true])):
 ar 113 [.agg (br a b c A)] [ak false]:=
 h.of
def abi(a b:Int)(l:List O):List O:=abh a (.b (b != 0) false::l)
theorem als(h:ad (abi a b [.b (c != 0) true])):
 ar 113 [.agg (br a b c A)] [ak false]:=
 h.of
def abj(a b c:Int)(l:List O):List O:=abi a b (.b (c != 0) false::l)
theorem alu(h:ad (abj a b c [.b (decide ((A.length:Int)>2)) true])):
 ar 113 [.agg (br a b c A)] [ak false]:=
 h.of
def IT(a b c:Int)(A:af)(l:List O):List O:=abj a b c (.b (decide ((A.length:Int)>2)) false::l)
def abk(a b c:Int)(A:af)(l:List O):List O:=IT a b c A (.b (a==8) true::l)
theorem alv(h:ad (abk a b c A [.b (decide ((A.length:Int)>0)) true])):
 ar 113 [.agg (br a b c A)] [ak false]:=
 h.of
def QN(a b c:Int)(A:af)(l:List O):List O:=abk a b c A (.b (decide ((A.length:Int)>0)) false::l)
def QO(a b c:Int)(A:af)(d e:Int)(l:List O):List O:=QN a b c A (.b ((A.length:Int)==2) true::.p ((0:Int)<=0)::.p (0<(A.length:Int))::.e A 0 [I d]::.p ((0:Int)<=1)::.p (1<(A.length:Int))::.e A 1 [I e]::l)
theorem alw(h:ad (QO a b c A d e [.b (d==e) true])):
 ar 113 [.agg (br a b c A)] [ak false]:=
 h.of
theorem alx(h:ad (QO a b c A d e [.b (d==e) false,.l [] [93,92,91] [] (ap Tryz.f113 0) (dP A 0) .ret (hh q)])):
 ar 113 [.agg (br a b c A)] [ak q]:=
 h.of
theorem aly(h:ad (QO a b c A d e [.b (d==e) false,.l [] [93,92,91] [] (ap Tryz.f113 0) (dP A 0) (.exit 1) hx])):
 ar 113 [.agg (br a b c A)] [ak true]:=
 h.of
theorem alz(h:ad (QN a b c A [.b ((A.length:Int)==2) false,.l [] [93,92,91] [] (ap Tryz.f113 0) (dP A 0) .ret (hh q)])):
 ar 113 [.agg (br a b c A)] [ak q]:=
 h.of
theorem alA(h:ad (QN a b c A [.b ((A.length:Int)==2) false,.l [] [93,92,91] [] (ap Tryz.f113 0) (dP A 0) (.exit 1) hx])):
 ar 113 [.agg (br a b c A)] [ak true]:=
 h.of
def QP(a b c:Int)(A:af)(d e:Int)(l:List O):List O:=IT a b c A (.b (a==8) false::.b ((A.length:Int)==2) true::.p ((0:Int)<=0)::.p (0<(A.length:Int))::.e A 0 [I d]::.p ((0:Int)<=1)::.p (1<(A.length:Int))::.e A 1 [I e]::l)
theorem alB(h:ad (QP a b c A d e [.b (d==e) true])):
 ar 113 [.agg (br a b c A)] [ak false]:=
 h.of
theorem alC(h:ad (QP a b c A d e [.b (d==e) false,.l [] [93,92,91] [] (ap Tryz.f113 0) (dP A 0) .ret (hh q)])):
 ar 113 [.agg (br a b c A)] [ak q]:=
 h.of
theorem alD(h:ad (QP a b c A d e [.b (d==e) false,.l [] [93,92,91] [] (ap Tryz.f113 0) (dP A 0) (.exit 1) hx])):
 ar 113 [.agg (br a b c A)] [ak true]:=
 h.of
theorem alE(h:ad (IT a b c A [.b (a==8) false,.b ((A.length:Int)==2) false,.l [] [93,92,91] [] (ap Tryz.f113 0) (dP A 0) .ret (hh q)])):
 ar 113 [.agg (br a b c A)] [ak q]:=
 h.of
theorem alF(h:ad (IT a b c A [.b (a==8) false,.b ((A.length:Int)==2) false,.l [] [93,92,91] [] (ap Tryz.f113 0) (dP A 0) (.exit 1) hx])):
 ar 113 [.agg (br a b c A)] [ak true]:=
 h.of
def abz(a:Int)(l:List O):List O:=abg a (.b (a==5) false::l)
def abA(a:Int)(l:List O):List O:=abz a (.b (a==6) true::.b (a==6) true::l)
theorem alG(h:ad (abA a [.b (b != 0) true])):
 ar 113 [.agg (br a b c A)] [ak false]:=
 h.of
def abB(a b:Int)(l:List O):List O:=abA a (.b (b != 0) false::l)
theorem alH(h:ad (abB a b [.b (c != 0) true])):
 ar 113 [.agg (br a b c A)] [ak false]:=
 h.of
def abC(a b c:Int)(l:List O):List O:=abB a b (.b (c != 0) false::l)
theorem alI(h:ad (abC a b c [.b (decide ((A.length:Int)>2)) true])):
 ar 113 [.agg (br a b c A)] [ak false]:=
 h.of
def IU(a b c:Int)(A:af)(l:List O):List O:=abC a b c (.b (decide ((A.length:Int)>2)) false::l)
def IV(a b c:Int)(A:af)(l:List O):List O:=IU a b c A (.b (a==8) true::l)
theorem alJ(h:ad (IV a b c A [.b (decide ((A.length:Int)>0)) true])):
 ar 113 [.agg (br a b c A)] [ak false]:=
 h.of
def Ew(a b c:Int)(A:af)(l:List O):List O:=IV a b c A (.b (decide ((A.length:Int)>0)) false::l)
def QZ(a b c:Int)(A:af)(d e:Int)(l:List O):List O:=Ew a b c A (.b ((A.length:Int)==2) true::.p ((0:Int)<=0)::.p (0<(A.length:Int))::.e A 0 [I d]::.p ((0:Int)<=1)::.p (1<(A.length:Int))::.e A 1 [I e]::l)
theorem alK(h:ad (QZ a b c A d e [.b (d==e) true])):
 ar 113 [.agg (br a b c A)] [ak false]:=
 h.of
theorem alL(h:ad (QZ a b c A d e [.b (d==e) false,.l [] [93,92,91] [] (ap Tryz.f113 0) (dP A 0) .ret (hh q)])):
 ar 113 [.agg (br a b c A)] [ak q]:=
 h.of
theorem alM(h:ad (QZ a b c A d e [.b (d==e) false,.l [] [93,92,91] [] (ap Tryz.f113 0) (dP A 0) (.exit 1) hx])):
 ar 113 [.agg (br a b c A)] [ak true]:=
 h.of
theorem akV(h:ad (Ew a b c A [.b ((A.length:Int)==2) false,.l [] [93,92,91] [] (ap Tryz.f113 0) (dP A 0) .ret (hh q)])):
 ar 113 [.agg (br a b c A)] [ak q]:=
 h.of
theorem akW(h:ad (Ew a b c A [.b ((A.length:Int)==2) false,.l [] [93,92,91] [] (ap Tryz.f113 0) (dP A 0) (.exit 1) hx])):
 ar 113 [.agg (br a b c A)] [ak true]:=
 h.of
def Q0(a b c:Int)(A:af)(d e:Int)(l:List O):List O:=IU a b c A (.b (a==8) false::.b ((A.length:Int)==2) true::.p ((0:Int)<=0)::.p (0<(A.length:Int))::.e A 0 [I d]::.p ((0:Int)<=1)::.p (1<(A.length:Int))::.e A 1 [I e]::l)
theorem akX(h:ad (Q0 a b c A d e [.b (d==e) true])):
 ar 113 [.agg (br a b c A)] [ak false]:=
 h.of
theorem akY(h:ad (Q0 a b c A d e [.b (d==e) false,.l [] [93,92,91] [] (ap Tryz.f113 0) (dP A 0) .ret (hh q)])):
 ar 113 [.agg (br a b c A)] [ak q]:=
 h.of
theorem akZ(h:ad (Q0 a b c A d e [.b (d==e) false,.l [] [93,92,91] [] (ap Tryz.f113 0) (dP A 0) (.exit 1) hx])):
 ar 113 [.agg (br a b c A)] [ak true]:=
 h.of
theorem ak0(h:ad (IU a b c A [.b (a==8) false,.b ((A.length:Int)==2) false,.l [] [93,92,91] [] (ap Tryz.f113 0) (dP A 0) .ret (hh q)])):
 ar 113 [.agg (br a b c A)] [ak q]:=
 h.of
theorem ak1(h:ad (IU a b c A [.b (a==8) false,.b ((A.length:Int)==2) false,.l [] [93,92,91] [] (ap Tryz.f113 0) (dP A 0) (.exit 1) hx])):
 ar 113 [.agg (br a b c A)] [ak true]:=
 h.of
def IW(a:Int)(l:List O):List O:=abz a (.b (a==6) false::l)
def abI(a:Int)(l:List O):List O:=IW a (.b (a==7) true::.b (a==7) true::l)
theorem ak2(h:ad (abI a [.b (b != 0) true])):
 ar 113 [.agg (br a b c A)] [ak false]:=
 h.of
def abJ(a b:Int)(l:List O):List O:=abI a (.b (b != 0) false::l)
theorem ak3(h:ad (abJ a b [.b (c != 0) true])):
 ar 113 [.agg (br a b c A)] [ak false]:=
 h.of
def abK(a b c:Int)(l:List O):List O:=abJ a b (.b (c != 0) false::l)
theorem ak4(h:ad (abK a b c [.b (decide ((A.length:Int)>2)) true])):
 ar 113 [.agg (br a b c A)] [ak false]:=
 h.of
def I4(a b c:Int)(A:af)(l:List O):List O:=abK a b c (.b (decide ((A.length:Int)>2)) false::l)
def abL(a b c:Int)(A:af)(l:List O):List O:=I4 a b c A (.b (a==8) true::l)
theorem ak5(h:ad (abL a b c A [.b (decide ((A.length:Int)>0)) true])):
 ar 113 [.agg (br a b c A)] [ak false]:=
 h.of
def Ra(a b c:Int)(A:af)(l:List O):List O:=abL a b c A (.b (decide ((A.length:Int)>0)) false::l)
def Rb(a b c:Int)(A:af)(d e:Int)(l:List O):List O:=Ra a b c A (.b ((A.length:Int)==2) true::.p ((0:Int)<=0)::.p (0<(A.length:Int))::.e A 0 [I d]::.p ((0:Int)<=1)::.p (1<(A.length:Int))::.e A 1 [I e]::l)
theorem ak6(h:ad (Rb a b c A d e [.b (d==e) true])):
 ar 113 [.agg (br a b c A)] [ak false]:=
 h.of
theorem ak7(h:ad (Rb a b c A d e [.b (d==e) false,.l [] [93,92,91] [] (ap Tryz.f113 0) (dP A 0) .ret (hh q)])):
 ar 113 [.agg (br a b c A)] [ak q]:=
 h.of
theorem ak8(h:ad (Rb a b c A d e [.b (d==e) false,.l [] [93,92,91] [] (ap Tryz.f113 0) (dP A 0) (.exit 1) hx])):
 ar 113 [.agg (br a b c A)] [ak true]:=
 h.of
theorem ak9(h:ad (Ra a b c A [.b ((A.length:Int)==2) false,.l [] [93,92,91] [] (ap Tryz.f113 0) (dP A 0) .ret (hh q)])):
 ar 113 [.agg (br a b c A)] [ak q]:=
 h.of
theorem ala(h:ad (Ra a b c A [.b ((A.length:Int)==2) false,.l [] [93,92,91] [] (ap Tryz.f113 0) (dP A 0) (.exit 1) hx])):
 ar 113 [.agg (br a b c A)] [ak true]:=
 h.of
def Rc(a b c:Int)(A:af)(d e:Int)(l:List O):List O:=I4 a b c A (.b (a==8) false::.b ((A.length:Int)==2) true::.p ((0:Int)<=0)::.p (0<(A.length:Int))::.e A 0 [I d]::.p ((0:Int)<=1)::.p (1<(A.length:Int))::.e A 1 [I e]::l)
theorem alb(h:ad (Rc a b c A d e [.b (d==e) true])):
 ar 113 [.agg (br a b c A)] [ak false]:=
 h.of
theorem alc(h:ad (Rc a b c A d e [.b (d==e) false,.l [] [93,92,91] [] (ap Tryz.f113 0) (dP A 0) .ret (hh q)])):
 ar 113 [.agg (br a b c A)] [ak q]:=
 h.of
theorem ald(h:ad (Rc a b c A d e [.b (d==e) false,.l [] [93,92,91] [] (ap Tryz.f113 0) (dP A 0) (.exit 1) hx])):
 ar 113 [.agg (br a b c A)] [ak true]:=
 h.of
theorem ale(h:ad (I4 a b c A [.b (a==8) false,.b ((A.length:Int)==2) false,.l [] [93,92,91] [] (ap Tryz.f113 0) (dP A 0) .ret (hh q)])):
 ar 113 [.agg (br a b c A)] [ak q]:=
 h.of
theorem alf(h:ad (I4 a b c A [.b (a==8) false,.b ((A.length:Int)==2) false,.l [] [93,92,91] [] (ap Tryz.f113 0) (dP A 0) (.exit 1) hx])):
 ar 113 [.agg (br a b c A)] [ak true]:=
 h.of
def abM(a:Int)(l:List O):List O:=IW a (.b (a==7) false::l)
def abN(a:Int)(l:List O):List O:=abM a (.b (a==8) true::l)
theorem alg(h:ad (abN a [.b (b != 0) true])):
 ar 113 [.agg (br a b c A)] [ak false]:=
 h.of
def abO(a b:Int)(l:List O):List O:=abN a (.b (b != 0) false::l)
theorem alh(h:ad (abO a b [.b (c != 0) true])):
 ar 113 [.agg (br a b c A)] [ak false]:=
 h.of
def abP(a b c:Int)(l:List O):List O:=abO a b (.b (c != 0) false::l)
theorem ali(h:ad (abP a b c [.b (decide ((A.length:Int)>2)) true])):
 ar 113 [.agg (br a b c A)] [ak false]:=
 h.of
def abQ(a b c:Int)(A:af)(l:List O):List O:=abP a b c (.b (decide ((A.length:Int)>2)) false::.b (a==8) true::l)
theorem alj(h:ad (abQ a b c A [.b (decide ((A.length:Int)>0)) true])):
 ar 113 [.agg (br a b c A)] [ak false]:=
 h.of
def Re(a b c:Int)(A:af)(l:List O):List O:=abQ a b c A (.b (decide ((A.length:Int)>0)) false::l)
def Rf(a b c:Int)(A:af)(d e:Int)(l:List O):List O:=Re a b c A (.b ((A.length:Int)==2) true::.p ((0:Int)<=0)::.p (0<(A.length:Int))::.e A 0 [I d]::.p ((0:Int)<=1)::.p (1<(A.length:Int))::.e A 1 [I e]::l)
theorem alk(h:ad (Rf a b c A d e [.b (d==e) true])):
 ar 113 [.agg (br a b c A)] [ak false]:=
 h.of
theorem akL(h:ad (Rf a b c A d e [.b (d==e) false,.l [] [93,92,91] [] (ap Tryz.f113 0) (dP A 0) .ret (hh q)])):
 ar 113 [.agg (br a b c A)] [ak q]:=
 h.of
theorem akM(h:ad (Rf a b c A d e [.b (d==e) false,.l [] [93,92,91] [] (ap Tryz.f113 0) (dP A 0) (.exit 1) hx])):
 ar 113 [.agg (br a b c A)] [ak true]:=
 h.of
theorem akN(h:ad (Re a b c A [.b ((A.length:Int)==2) false,.l [] [93,92,91] [] (ap Tryz.f113 0) (dP A 0) .ret (hh q)])):
 ar 113 [.agg (br a b c A)] [ak q]:=
 h.of
theorem akO(h:ad (Re a b c A [.b ((A.length:Int)==2) false,.l [] [93,92,91] [] (ap Tryz.f113 0) (dP A 0) (.exit 1) hx])):
 ar 113 [.agg (br a b c A)] [ak true]:=
 h.of
theorem akP(h:ad (abM a [.b (a==8) false])):
 ar 113 [.agg (br a b c A)] [ak false]:=
 h.of
