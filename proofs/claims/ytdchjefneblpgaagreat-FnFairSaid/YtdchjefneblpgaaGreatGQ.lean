import Derived.Test.YtdchjefneblpgaaGreatGE
set_option linter.unusedVariables false
set_option linter.unusedSimpArgs false
namespace Go.Proofs.YtdchjefneblpgaaGreat
open Go.Sx Go.RowKit
variable {a b c d e f g i j k l : Int} {A C E F : ag} {q r s t : Bool}
def ZD(A:ag)(q:Bool)(l:List O):List O:=.r 168 [ae (A.length:Int),ae 1,ae 8] [aj q]::l
theorem ahn(h:ad (ZD A q [.n q true])):
 aq 121 [.agg (br A a b)] [aj false]:=
 h.of
def H9(A:ag)(q:Bool)(a:Int)(r:Bool)(l:List O):List O:=ZD A q (.n q false::.r 168 [ae a,ae 1,ae 4] [aj r]::l)
theorem aho(h:ad (H9 A q a r [.n r true])):
 aq 121 [.agg (br A a b)] [aj false]:=
 h.of
theorem ahp(h:ad (H9 A q a r [.n r false,.r 168 [ae b,ae 1,ae 4] [aj s],.n s true])):
 aq 121 [.agg (br A a b)] [aj false]:=
 h.of
def pv(a:Int)(A:ag)(b c:Int):aC:=bb 97 [(1,aR 1),(3,aU a)] [(1,[.J .free 4 A,au b,au c])]
def yb(q:Bool):aC:=bb 97 [(2,.aG (.one (.bg q)))] []
def H'(A:ag)(a b c d:Int)(C:ag)(q:Bool)(l:List O):List O:=.i A a (bp b c d C)::.r 243 [.agg (bp b c d C)] [aj q]::l
theorem ahq(h:ad (H' C d a b c A q [.n q true])):
 aV (ap Tryz.f121 0) (pv d C e f) .ret (yb false):=
 h.aS [2] []
theorem ahr(h:ad (H' C b a c d A q [.n q false,.b (!(a==1)==(b==0)) true])):
 aV (ap Tryz.f121 0) (pv b C e f) .ret (yb false):=
 h.aS [2] []
def iO(a:Int)(A:ag)(b c d e f:Int)(C:ag)(g:Int):aC:=bb 97 [(1,aR 1),(3,aU a),(4,aR 4),(5,aU g)] [(4,[au d,au e,au f,.J .free 1 C]),(1,[.J .free 4 A,au b,au c])]
def sU(q:Bool):aC:=bb 97 [(2,.aG (.one (.bg q)))] []
theorem ahs(h:ad [.i A a [I b],.b (decide (b>=(C.length:Int))) true]):
 aV (ap Tryz.f121 1) (iO f C g i c d e A a) .ret (sU false):=
 h.aS [2] []
def Ib(A:ag)(a b:Int)(C:ag)(l:List O):List O:=.i A a [I b]::.b (decide (b>=(C.length:Int))) false::l
theorem aht(h:ad (Ib A c a C [.b (b != 7) true,.b (decide (a<=d)) true])):
 aV (ap Tryz.f121 1) (iO d C g i b e f A c) .ret (sU false):=
 h.aS [2] []
def DT(A:ag)(a b:Int)(C:ag)(c d e f g:Int)(E:ag)(l:List O):List O:=Ib A a b C (.b (c != 7) true::.b (decide (b<=d)) false::.x C b (bp e f g E)::l)
theorem aiV(h:ad (DT C d a A b c g i j E [.b (b==7) true,.b (decide (a>c)) true])):
 aV (ap Tryz.f121 1) (iO c A k l b e f C d) .ret (sU false):=
 h.aS [2] []
theorem aiW(h:ad (DT C e a A b d c i j E [.b (b==7) true,.b (decide (a>d)) false,.b (c != 5) true,.b (c != 6) true])):
 aV (ap Tryz.f121 1) (iO d A k l b f g C e) .ret (sU false):=
 h.aS [2] []
theorem aiX(h:ad (DT C c a A b d e k l E [.b (b==7) true,.b (decide (a>d)) false,.b (e != 5) true,.b (e != 6) false,.u c])):
 aV (ap Tryz.f121 1) (iO d A i j b f g C c) .normal (iO d A i j b f g C (c+1)):=
 h.aS [5,4,1,3] [4,1]
theorem aiY(h:ad (DT C c a A b d g k l E [.b (b==7) true,.b (decide (a>d)) false,.b (g != 5) false,.u c])):
 aV (ap Tryz.f121 1) (iO d A i j b e f C c) .normal (iO d A i j b e f C (c+1)):=
 h.aS [5,4,1,3] [4,1]
theorem aiZ(h:ad (DT C b c A a d j k l E [.b (a==7) false,.u b])):
 aV (ap Tryz.f121 1) (iO d A g i a e f C b) .normal (iO d A g i a e f C (b+1)):=
 h.aS [5,4,1,3] [4,1]
def DU(A:ag)(a b:Int)(C:ag)(c d e f:Int)(E:ag)(l:List O):List O:=Ib A a b C (.b (c != 7) false::.x C b (bp d e f E)::l)
theorem ai0(h:ad (DU C c a A b g i j E [.b (b==7) true,.b (decide (a>d)) true])):
 aV (ap Tryz.f121 1) (iO d A k l b e f C c) .ret (sU false):=
 h.aS [2] []
theorem ai1(h:ad (DU C d a A b c i j E [.b (b==7) true,.b (decide (a>e)) false,.b (c != 5) true,.b (c != 6) true])):
 aV (ap Tryz.f121 1) (iO e A k l b f g C d) .ret (sU false):=
 h.aS [2] []
theorem ai2(h:ad (DU C b c A a d k l E [.b (a==7) true,.b (decide (c>e)) false,.b (d != 5) true,.b (d != 6) false,.u b])):
 aV (ap Tryz.f121 1) (iO e A i j a f g C b) .normal (iO e A i j a f g C (b+1)):=
 h.aS [5,4,1,3] [4,1]
theorem ai3(h:ad (DU C b c A a g k l E [.b (a==7) true,.b (decide (c>d)) false,.b (g != 5) false,.u b])):
 aV (ap Tryz.f121 1) (iO d A i j a e f C b) .normal (iO d A i j a e f C (b+1)):=
 h.aS [5,4,1,3] [4,1]
theorem ai4(h:ad (DU C b c A a j k l E [.b (a==7) false,.u b])):
 aV (ap Tryz.f121 1) (iO f A g i a d e C b) .normal (iO f A g i a d e C (b+1)):=
 h.aS [5,4,1,3] [4,1]
def Nh(a:Int)(A:ag)(b c:Int):aC:=bb 97 [(1,aR 1),(3,aU a)] [(1,[.J .free 4 A,au b,au c])]
theorem ai5(h:ad [.f A a false]):
 aV (ap Tryz.f121 1) (iO b C c d e f g A a) (.exit 2) (Nh b C c d):=
 h.aS [3,1] [1]
theorem ai6(h:ad (H' C b a c d A q [.n q false,.b (!(a==1)==(b==0)) false,.l [] [5,4,1,3] [4,1] (ap Tryz.f121 1) (iO b C e f a c d A 0) .ret (sU r)])):
 aV (ap Tryz.f121 0) (pv b C e f) .ret (yb r):=
 h.aS [2] []
theorem ai7(h:ad (H' A a b e f C q [.n q false,.b (!(b==1)==(a==0)) false,.l [] [5,4,1,3] [4,1] (ap Tryz.f121 1) (iO a A c d b e f C 0) (.exit 2) (Nh a A c d),.u a])):
 aV (ap Tryz.f121 0) (pv a A c d) .normal (pv (a+1) A c d):=
 h.aS [3,1] [1]
def Ni:aC:=bb 97 [] []
theorem ai8(h:ad [.f A a false]):
 aV (ap Tryz.f121 0) (pv a A b c) (.exit 0) Ni:=
 h.aS [] []
theorem ai9(h:ad (H9 A q a r [.n r false,.r 168 [ae b,ae 1,ae 4] [aj s],.n s false,.l [] [3,1] [1] (ap Tryz.f121 0) (pv 0 A a b) .ret (yb t)])):
 aq 121 [.agg (br A a b)] [aj t]:=
 h.of
theorem aja(h:ad (H9 A q a r [.n r false,.r 168 [ae b,ae 1,ae 4] [aj s],.n s false,.l [] [3,1] [1] (ap Tryz.f121 0) (pv 0 A a b) (.exit 0) Ni])):
 aq 121 [.agg (br A a b)] [aj true]:=
 h.of
def ZE(A:ag)(q:Bool)(l:List O):List O:=.r 190 [ae (A.length:Int),ae 1,ae 8] [aj q]::l
theorem ajb(h:ad (ZE A q [.n q true])):
 aq 179 [.agg (br A a b)] [aj false]:=
 h.of
def Ic(A:ag)(q:Bool)(a:Int)(r:Bool)(l:List O):List O:=ZE A q (.n q false::.r 190 [ae a,ae 1,ae 4] [aj r]::l)
theorem ajc(h:ad (Ic A q a r [.n r true])):
 aq 179 [.agg (br A a b)] [aj false]:=
 h.of
theorem ajd(h:ad (Ic A q a r [.n r false,.r 190 [ae b,ae 1,ae 4] [aj s],.n s true])):
 aq 179 [.agg (br A a b)] [aj false]:=
 h.of
def pw(A:ag)(a:Int)(C:ag)(b c:Int):aC:=bb 90 [(1,aR 1),(26,dB 4 A),(27,aU (A.length:Int)),(28,aU a)] [(1,[.J .free 4 C,au b,au c])]
def yc(q:Bool):aC:=bb 90 [(2,.aG (.one (.bg q)))] []
def Ia(A:ag)(a b c d:Int)(C:ag)(q:Bool)(l:List O):List O:=.i A a (bp b c d C)::.r 273 [.agg (bp b c d C)] [aj q]::l
theorem aje(h:ad (Ia A d a b c C q [.n q true])):
 aV (ap Tryz.f179 0) (pw A d E e f) .ret (yc false):=
 h.aS [2] []
theorem ajf(h:ad (Ia A b a c d C q [.n q false,.b (!(a==1)==(b==0)) true])):
 aV (ap Tryz.f179 0) (pw A b E e f) .ret (yc false):=
 h.aS [2] []
def iP(C:ag)(a:Int)(E:ag)(b c d e f:Int)(A:ag)(g:Int):aC:=bb 90 [(1,aR 1),(3,aU a),(4,aR 4),(26,dB 4 C),(27,aU (C.length:Int)),(28,aU a),(45,dB 1 A),(46,aU (A.length:Int)),(47,aU g)] [(4,[au d,au e,au f,.J .free 1 A]),(1,[.J .free 4 E,au b,au c])]
def sV(q:Bool):aC:=bb 90 [(2,.aG (.one (.bg q)))] []
theorem ajg(h:ad [.i A a [I b],.b (decide (b>=(C.length:Int))) true]):
 aV (ap Tryz.f179 1) (iP E f C g i c d e A a) .ret (sV false):=
 h.aS [2] []
def DV(A:ag)(a b:Int)(C:ag)(c d e:Int)(E:ag)(l:List O):List O:=Ib A a b C (.x C b (bp c d e E)::l)
theorem ajh(h:ad (DV C c a A g i j F [.b (b==7) true,.b (decide (a>d)) true])):
 aV (ap Tryz.f179 1) (iP E d A k l b e f C c) .ret (sV false):=
 h.aS [2] []
def yu(A:ag)(a b:Int)(C:ag)(c d e:Int)(E:ag)(f g:Int)(l:List O):List O:=DV A a b C c d e E (.b (f==7) true::.b (decide (b>g)) false::l)
theorem aji(h:ad (yu C d a A b i j F c e [.b (b != 5) true,.b (b != 6) true])):
 aV (ap Tryz.f179 1) (iP E e A k l c f g C d) .ret (sV false):=
 h.aS [2] []
theorem ajj(h:ad (yu C e a A c i j F b d [.b (c != 5) true,.b (c != 6) false,.b (b != 7) true,.b (decide (a<=d)) true])):
 aV (ap Tryz.f179 1) (iP E d A k l b f g C e) .ret (sV false):=
 h.aS [2] []
theorem ajk(h:ad (yu C c a A e k l F b d [.b (e != 5) true,.b (e != 6) false,.b (b != 7) true,.b (decide (a<=d)) false,.u c])):
 aV (ap Tryz.f179 1) (iP E d A i j b f g C c) .normal (iP E d A i j b f g C (c+1)):=
 h.aS [47,46,45,1,4,3,28,27,26] [4,1]
theorem aiv(h:ad (yu C b c A d k l F a e [.b (d != 5) true,.b (d != 6) false,.b (a != 7) false,.u b])):
 aV (ap Tryz.f179 1) (iP E e A i j a f g C b) .normal (iP E e A i j a f g C (b+1)):=
 h.aS [47,46,45,1,4,3,28,27,26] [4,1]
theorem aiw(h:ad (yu C d a A e i j F b c [.b (e != 5) false,.b (b != 7) true,.b (decide (a<=c)) true])):
 aV (ap Tryz.f179 1) (iP E c A k l b f g C d) .ret (sV false):=
 h.aS [2] []
theorem aix(h:ad (yu C c a A g k l F b d [.b (g != 5) false,.b (b != 7) true,.b (decide (a<=d)) false,.u c])):
 aV (ap Tryz.f179 1) (iP E d A i j b e f C c) .normal (iP E d A i j b e f C (c+1)):=
 h.aS [47,46,45,1,4,3,28,27,26] [4,1]
theorem aiy(h:ad (yu C b c A g k l F a d [.b (g != 5) false,.b (a != 7) false,.u b])):
 aV (ap Tryz.f179 1) (iP E d A i j a e f C b) .normal (iP E d A i j a e f C (b+1)):=
 h.aS [47,46,45,1,4,3,28,27,26] [4,1]
theorem aiz(h:ad (DV C c a A g i j F [.b (b==7) false,.b (b != 7) true,.b (decide (a<=d)) true])):
 aV (ap Tryz.f179 1) (iP E d A k l b e f C c) .ret (sV false):=
 h.aS [2] []
theorem aiA(h:ad (DV C b c A j k l F [.b (a==7) false,.b (a != 7) true,.b (decide (c<=d)) false,.u b])):
 aV (ap Tryz.f179 1) (iP E d A g i a e f C b) .normal (iP E d A g i a e f C (b+1)):=
 h.aS [47,46,45,1,4,3,28,27,26] [4,1]
theorem aiB(h:ad (DV C b c A j k l F [.b (a==7) false,.b (a != 7) false,.u b])):
 aV (ap Tryz.f179 1) (iP E f A g i a d e C b) .normal (iP E f A g i a d e C (b+1)):=
 h.aS [47,46,45,1,4,3,28,27,26] [4,1]
def Nj(A:ag)(a:Int)(C:ag)(b c:Int):aC:=bb 90 [(1,aR 1),(26,dB 4 A),(27,aU (A.length:Int)),(28,aU a)] [(1,[.J .free 4 C,au b,au c])]
theorem aiC(h:ad [.f C a false]):
 aV (ap Tryz.f179 1) (iP A b E c d e f g C a) (.exit 2) (Nj A b E c d):=
 h.aS [28,27,26,1] [1]
theorem aiD(h:ad (Ia A b a c d C q [.n q false,.b (!(a==1)==(b==0)) false,.l [] [47,46,45,1,4,3,28,27,26] [4,1] (ap Tryz.f179 1) (iP A b E e f a c d C 0) .ret (sV r)])):
 aV (ap Tryz.f179 0) (pw A b E e f) .ret (yc r):=
 h.aS [2] []
theorem aiE(h:ad (Ia A a b e f E q [.n q false,.b (!(b==1)==(a==0)) false,.l [] [47,46,45,1,4,3,28,27,26] [4,1] (ap Tryz.f179 1) (iP A a C c d b e f E 0) (.exit 2) (Nj A a C c d),.u a])):
 aV (ap Tryz.f179 0) (pw A a C c d) .normal (pw A (a+1) C c d):=
 h.aS [28,27,26,1] [1]
def Nk:aC:=bb 90 [] []
theorem aiF(h:ad [.f A a false]):
 aV (ap Tryz.f179 0) (pw A a C b c) (.exit 0) Nk:=
 h.aS [] []
theorem aiG(h:ad (Ic A q a r [.n r false,.r 190 [ae b,ae 1,ae 4] [aj s],.n s false,.l [] [28,27,26,1] [1] (ap Tryz.f179 0) (pw A 0 A a b) .ret (yc t)])):
 aq 179 [.agg (br A a b)] [aj t]:=
 h.of
theorem aiH(h:ad (Ic A q a r [.n r false,.r 190 [ae b,ae 1,ae 4] [aj s],.n s false,.l [] [28,27,26,1] [1] (ap Tryz.f179 0) (pw A 0 A a b) (.exit 0) Nk])):
 aq 179 [.agg (br A a b)] [aj true]:=
 h.of
def Pz(a:Int)(q:Bool)(b c:Int)(r:Bool)(l:List O):List O:=.r 168 [ae a,ae 0,ae 7] [aj q]::.b q true::.r 244 [.agg [I b,I c]] [aj r]::l
theorem aiI(h:ad (Pz a q b c r [.b r true,.r 168 [ae d,ae 0,ae 99] [aj s],.b s true,.r 168 [ae e,ae 0,ae 999] [aj t]])):
 aq 122 [.agg (bh a b c d e)] [aj t]:=
 h.of
theorem aiJ(h:ad (Pz a q b c r [.b r true,.r 168 [ae d,ae 0,ae 99] [aj s],.b s false])):
 aq 122 [.agg (bh a b c d e)] [aj false]:=
 h.of
theorem aiK(h:ad (Pz a q b c r [.b r false])):
 aq 122 [.agg (bh a b c d e)] [aj false]:=
 h.of
theorem aiL(h:ad [.r 168 [ae a,ae 0,ae 7] [aj q],.b q false]):
 aq 122 [.agg (bh a b c d e)] [aj false]:=
 h.of
theorem aiM(h:ad [.r 190 [ae a,ae 0,ae 7] [aj q],.b q true,.r 274 [.agg [I b,I c]] [aj r],.b r true,.r 275 [ae d,ae e] [aj s]]):
 aq 180 [.agg (bh a b c d e)] [aj s]:=
 h.of
theorem aiN(h:ad [.r 190 [ae a,ae 0,ae 7] [aj q],.b q true,.r 274 [.agg [I b,I c]] [aj r],.b r false]):
 aq 180 [.agg (bh a b c d e)] [aj false]:=
 h.of
theorem aiO(h:ad [.r 190 [ae a,ae 0,ae 7] [aj q],.b q false]):
 aq 180 [.agg (bh a b c d e)] [aj false]:=
 h.of
theorem aiP(h:ad [.r 168 [ae a,ae 0,ae 3] [aj q],.b q true,.r 168 [ae b,ae 0,ae 6] [aj r]]):
 aq 244 [.agg [I a,I b]] [aj r]:=
 h.of
theorem aiQ(h:ad [.r 168 [ae a,ae 0,ae 3] [aj q],.b q false]):
 aq 244 [.agg [I a,I b]] [aj false]:=
 h.of
theorem aiR(h:ad [.r 190 [ae a,ae 0,ae 3] [aj q],.b q true,.r 190 [ae b,ae 0,ae 6] [aj r]]):
 aq 274 [.agg [I a,I b]] [aj r]:=
 h.of
theorem aiS(h:ad [.r 190 [ae a,ae 0,ae 3] [aj q],.b q false]):
 aq 274 [.agg [I a,I b]] [aj false]:=
 h.of
theorem aiT(h:ad [.r 244 [.agg [I a,I b]] [aj q],.n q true]):
 aq 270 [.agg [I a,I b]] [.agg [I a,I b],aj false]:=
 h.of
theorem aiU(h:ad [.r 244 [.agg [I b,I a]] [aj q],.n q false,.b (decide (a>=6)) true]):
 aq 270 [.agg [I b,I a]] [.agg [I b,I a],aj false]:=
 h.of
theorem ail(h:ad [.r 244 [.agg [I b,I a]] [aj q],.n q false,.b (decide (a>=6)) false,.u a]):
 aq 270 [.agg [I b,I a]] [.agg [I b,I (a+1)],aj true]:=
 h.of
theorem aim(h:ad [.r 274 [.agg [I a,I b]] [aj q],.n q true]):
 aq 300 [.agg [I a,I b]] [.agg [I a,I b],aj false]:=
 h.of
theorem ain(h:ad [.r 274 [.agg [I b,I a]] [aj q],.n q false,.b (a==6) true]):
 aq 300 [.agg [I b,I a]] [.agg [I b,I a],aj false]:=
 h.of
theorem aio(h:ad [.r 274 [.agg [I b,I a]] [aj q],.n q false,.b (a==6) false,.u a]):
 aq 300 [.agg [I b,I a]] [.agg [I b,I (a+1)],aj true]:=
 h.of
def ZF(a b c:Int)(A:ag)(q:Bool)(l:List O):List O:=.r 243 [.agg (bp a b c A)] [aj q]::l
theorem aip(h:ad (ZF a b c A q [.n q true])):
 aq 267 [.agg (bp a b c A),ae d,ae e] [ae d,ae e,aj false]:=
 h.of
def ZG(a b c:Int)(A:ag)(q:Bool)(d:Int)(r:Bool)(l:List O):List O:=ZF a b c A q (.n q false::.r 168 [ae d,ae 0,ae 99] [aj r]::l)
theorem aiq(h:ad (ZG b c d A q a r [.n r true])):
 aq 267 [.agg (bp b c d A),ae a,ae e] [ae a,ae e,aj false]:=
 h.of
def DW(a b c:Int)(A:ag)(q:Bool)(d:Int)(r:Bool)(e:Int)(s:Bool)(l:List O):List O:=ZG a b c A q d r (.n r false::.r 168 [ae e,ae 0,ae 999] [aj s]::l)
theorem air(h:ad (DW c d e A q a r b s [.n s true])):
 aq 267 [.agg (bp c d e A),ae a,ae b] [ae a,ae b,aj false]:=
 h.of
theorem ais(h:ad (DW c a e A q d r b s [.n s false,.b (c==2) true,.v (b+a),.r 323 [ae (b+a),ae 999] [ae f]])):
 aq 267 [.agg (bp c a e A),ae d,ae b] [ae d,ae f,aj true]:=
 h.of
theorem ait(h:ad (DW a b e A q c r d s [.n s false,.b (a==2) false,.b (a==4) true,.v (c+b),.p ((100:Int)≠0)])):
 aq 267 [.agg (bp a b e A),ae c,ae d] [ae ((c+b).tmod 100),ae d,aj true]:=
 h.of
theorem aiu(h:ad (DW a b d A q c r e s [.n s false,.b (a==2) false,.b (a==4) false,.b (a==3) true,.p (b≠0)])):
 aq 267 [.agg (bp a b d A),ae c,ae e] [ae c,ae e,aj (c.tmod b==d)]:=
 h.of
theorem ajV(h:ad (DW a d e A q b r c s [.n s false,.b (a==2) false,.b (a==4) false,.b (a==3) false])):
 aq 267 [.agg (bp a d e A),ae b,ae c] [ae b,ae c,aj (a != 8)]:=
 h.of
def ZH(a b c:Int)(A:ag)(q:Bool)(l:List O):List O:=.r 273 [.agg (bp a b c A)] [aj q]::l
theorem ajW(h:ad (ZH a b c A q [.n q true])):
 aq 298 [.agg (bp a b c A),ae d,ae e] [ae d,ae e,aj false]:=
 h.of
def DX(a b c:Int)(A:ag)(q:Bool)(d e:Int)(r:Bool)(l:List O):List O:=ZH a b c A q (.n q false::.r 275 [ae d,ae e] [aj r]::l)
theorem ajX(h:ad (DX c d e A q a b r [.n r true])):
 aq 298 [.agg (bp c d e A),ae a,ae b] [ae a,ae b,aj false]:=
 h.of
theorem ajY(h:ad (DX c a e A q d b r [.n r false,.b (c==2) true,.v (b+a)])):
 aq 298 [.agg (bp c a e A),ae d,ae b] [ae d,ae (if b+a<999 then b+a else 999),aj true]:=
 h.of
theorem ajZ(h:ad (DX a b e A q c d r [.n r false,.b (a==2) false,.b (a==4) true,.v (c+b),.p ((100:Int)≠0)])):
 aq 298 [.agg (bp a b e A),ae c,ae d] [ae ((c+b).tmod 100),ae d,aj true]:=
 h.of
theorem aj0(h:ad (DX a b d A q c e r [.n r false,.b (a==2) false,.b (a==4) false,.b (a==3) true,.p (b≠0)])):
 aq 298 [.agg (bp a b d A),ae c,ae e] [ae c,ae e,aj (c.tmod b==d)]:=
 h.of
theorem aj1(h:ad (DX a d e A q b c r [.n r false,.b (a==2) false,.b (a==4) false,.b (a==3) false])):
 aq 298 [.agg (bp a d e A),ae b,ae c] [ae b,ae c,aj (a != 8)]:=
 h.of
theorem aj2(h:ad [.b (decide (a<b)) true]):
 aq 323 [ae b,ae a] [ae a]:=
 h.of
theorem aj3(h:ad [.b (decide (b<a)) false]):
 aq 323 [ae a,ae b] [ae a]:=
 h.of
theorem aj4(h:ad [.r 190 [ae a,ae 0,ae 99] [aj q],.b q true,.r 190 [ae b,ae 0,ae 999] [aj r]]):
 aq 275 [ae a,ae b] [aj r]:=
 h.of
theorem aj5(h:ad [.r 190 [ae a,ae 0,ae 99] [aj q],.b q false]):
 aq 275 [ae a,ae b] [aj false]:=
 h.of
