import Derived.Test.YtdchjefneblpgaaGreatGE
set_option linter.unusedVariables false
set_option linter.unusedSimpArgs false
namespace Go.Proofs.YtdchjefneblpgaaGreat
open Go.Sx Go.RowKit
variable {a b c d e f g i j k l : Int} {A C E F : ae} {q r s t : Bool}
def Y4(A:ae)(q:Bool)(l:List O):List O:=.r 168 [ag (A.length:Int),ag 1,ag 8] [ai q]::l
theorem agL(h:ad (Y4 A q [.n q true])):
 al 121 [.agg (bA A a b)] [ai false]:=
 h.of
def Hf(A:ae)(q:Bool)(a:Int)(r:Bool)(l:List O):List O:=Y4 A q (.n q false::.r 168 [ag a,ag 1,ag 4] [ai r]::l)
theorem agM(h:ad (Hf A q a r [.n r true])):
 al 121 [.agg (bA A a b)] [ai false]:=
 h.of
theorem agN(h:ad (Hf A q a r [.n r false,.r 168 [ag b,ag 1,ag 4] [ai s],.n s true])):
 al 121 [.agg (bA A a b)] [ai false]:=
 h.of
def pu(a:Int)(A:ae)(b c:Int):aJ:=bj 97 [(1,aR 1),(3,a6 a)] [(1,[.J .free 4 A,au b,au c])]
def xF(q:Bool):aJ:=bj 97 [(2,.aI (.one (.bg q)))] []
def Hg(A:ae)(a b c d:Int)(C:ae)(q:Bool)(l:List O):List O:=.i A a (bt b c d C)::.r 243 [.agg (bt b c d C)] [ai q]::l
theorem agO(h:ad (Hg C d a b c A q [.n q true])):
 a7 (ar Tryz.f121 0) (pu d C e f) .ret (xF false):=
 h.aY [2] []
theorem agP(h:ad (Hg C b a c d A q [.n q false,.b (!(a==1)==(b==0)) true])):
 a7 (ar Tryz.f121 0) (pu b C e f) .ret (xF false):=
 h.aY [2] []
def jb(a:Int)(A:ae)(b c d e f:Int)(C:ae)(g:Int):aJ:=bj 97 [(1,aR 1),(3,a6 a),(4,aR 4),(5,a6 g)] [(4,[au d,au e,au f,.J .free 1 C]),(1,[.J .free 4 A,au b,au c])]
def sB(q:Bool):aJ:=bj 97 [(2,.aI (.one (.bg q)))] []
theorem agQ(h:ad [.i A a [I b],.b (decide (b>=(C.length:Int))) true]):
 a7 (ar Tryz.f121 1) (jb f C g i c d e A a) .ret (sB false):=
 h.aY [2] []
def Hi(A:ae)(a b:Int)(C:ae)(l:List O):List O:=.i A a [I b]::.b (decide (b>=(C.length:Int))) false::l
theorem agR(h:ad (Hi A c a C [.b (b != 7) true,.b (decide (a<=d)) true])):
 a7 (ar Tryz.f121 1) (jb d C g i b e f A c) .ret (sB false):=
 h.aY [2] []
def C1(A:ae)(a b:Int)(C:ae)(c d e f g:Int)(E:ae)(l:List O):List O:=Hi A a b C (.b (c != 7) true::.b (decide (b<=d)) false::.x C b (bt e f g E)::l)
theorem agS(h:ad (C1 C d a A b c g i j E [.b (b==7) true,.b (decide (a>c)) true])):
 a7 (ar Tryz.f121 1) (jb c A k l b e f C d) .ret (sB false):=
 h.aY [2] []
theorem agT(h:ad (C1 C e a A b d c i j E [.b (b==7) true,.b (decide (a>d)) false,.b (c != 5) true,.b (c != 6) true])):
 a7 (ar Tryz.f121 1) (jb d A k l b f g C e) .ret (sB false):=
 h.aY [2] []
theorem agU(h:ad (C1 C c a A b d e k l E [.b (b==7) true,.b (decide (a>d)) false,.b (e != 5) true,.b (e != 6) false,.u c])):
 a7 (ar Tryz.f121 1) (jb d A i j b f g C c) .normal (jb d A i j b f g C (c+1)):=
 h.aY [5,4,1,3] [4,1]
theorem agV(h:ad (C1 C c a A b d g k l E [.b (b==7) true,.b (decide (a>d)) false,.b (g != 5) false,.u c])):
 a7 (ar Tryz.f121 1) (jb d A i j b e f C c) .normal (jb d A i j b e f C (c+1)):=
 h.aY [5,4,1,3] [4,1]
theorem agW(h:ad (C1 C b c A a d j k l E [.b (a==7) false,.u b])):
 a7 (ar Tryz.f121 1) (jb d A g i a e f C b) .normal (jb d A g i a e f C (b+1)):=
 h.aY [5,4,1,3] [4,1]
def C2(A:ae)(a b:Int)(C:ae)(c d e f:Int)(E:ae)(l:List O):List O:=Hi A a b C (.b (c != 7) false::.x C b (bt d e f E)::l)
theorem af6(h:ad (C2 C c a A b g i j E [.b (b==7) true,.b (decide (a>d)) true])):
 a7 (ar Tryz.f121 1) (jb d A k l b e f C c) .ret (sB false):=
 h.aY [2] []
theorem af7(h:ad (C2 C d a A b c i j E [.b (b==7) true,.b (decide (a>e)) false,.b (c != 5) true,.b (c != 6) true])):
 a7 (ar Tryz.f121 1) (jb e A k l b f g C d) .ret (sB false):=
 h.aY [2] []
theorem af8(h:ad (C2 C b c A a d k l E [.b (a==7) true,.b (decide (c>e)) false,.b (d != 5) true,.b (d != 6) false,.u b])):
 a7 (ar Tryz.f121 1) (jb e A i j a f g C b) .normal (jb e A i j a f g C (b+1)):=
 h.aY [5,4,1,3] [4,1]
theorem af9(h:ad (C2 C b c A a g k l E [.b (a==7) true,.b (decide (c>d)) false,.b (g != 5) false,.u b])):
 a7 (ar Tryz.f121 1) (jb d A i j a e f C b) .normal (jb d A i j a e f C (b+1)):=
 h.aY [5,4,1,3] [4,1]
theorem aga(h:ad (C2 C b c A a j k l E [.b (a==7) false,.u b])):
 a7 (ar Tryz.f121 1) (jb f A g i a d e C b) .normal (jb f A g i a d e C (b+1)):=
 h.aY [5,4,1,3] [4,1]
def L9(a:Int)(A:ae)(b c:Int):aJ:=bj 97 [(1,aR 1),(3,a6 a)] [(1,[.J .free 4 A,au b,au c])]
theorem agb(h:ad [.f A a false]):
 a7 (ar Tryz.f121 1) (jb b C c d e f g A a) (.exit 2) (L9 b C c d):=
 h.aY [3,1] [1]
theorem agc(h:ad (Hg C b a c d A q [.n q false,.b (!(a==1)==(b==0)) false,.l [] [5,4,1,3] [4,1] (ar Tryz.f121 1) (jb b C e f a c d A 0) .ret (sB r)])):
 a7 (ar Tryz.f121 0) (pu b C e f) .ret (xF r):=
 h.aY [2] []
theorem agd(h:ad (Hg A a b e f C q [.n q false,.b (!(b==1)==(a==0)) false,.l [] [5,4,1,3] [4,1] (ar Tryz.f121 1) (jb a A c d b e f C 0) (.exit 2) (L9 a A c d),.u a])):
 a7 (ar Tryz.f121 0) (pu a A c d) .normal (pu (a+1) A c d):=
 h.aY [3,1] [1]
def Ma:aJ:=bj 97 [] []
theorem age(h:ad [.f A a false]):
 a7 (ar Tryz.f121 0) (pu a A b c) (.exit 0) Ma:=
 h.aY [] []
theorem agf(h:ad (Hf A q a r [.n r false,.r 168 [ag b,ag 1,ag 4] [ai s],.n s false,.l [] [3,1] [1] (ar Tryz.f121 0) (pu 0 A a b) .ret (xF t)])):
 al 121 [.agg (bA A a b)] [ai t]:=
 h.of
theorem agh(h:ad (Hf A q a r [.n r false,.r 168 [ag b,ag 1,ag 4] [ai s],.n s false,.l [] [3,1] [1] (ar Tryz.f121 0) (pu 0 A a b) (.exit 0) Ma])):
 al 121 [.agg (bA A a b)] [ai true]:=
 h.of
def Y5(A:ae)(q:Bool)(l:List O):List O:=.r 190 [ag (A.length:Int),ag 1,ag 8] [ai q]::l
theorem agi(h:ad (Y5 A q [.n q true])):
 al 179 [.agg (bA A a b)] [ai false]:=
 h.of
def Hj(A:ae)(q:Bool)(a:Int)(r:Bool)(l:List O):List O:=Y5 A q (.n q false::.r 190 [ag a,ag 1,ag 4] [ai r]::l)
theorem agj(h:ad (Hj A q a r [.n r true])):
 al 179 [.agg (bA A a b)] [ai false]:=
 h.of
theorem agk(h:ad (Hj A q a r [.n r false,.r 190 [ag b,ag 1,ag 4] [ai s],.n s true])):
 al 179 [.agg (bA A a b)] [ai false]:=
 h.of
def pv(A:ae)(a:Int)(C:ae)(b c:Int):aJ:=bj 90 [(1,aR 1),(26,dO 4 A),(27,a6 (A.length:Int)),(28,a6 a)] [(1,[.J .free 4 C,au b,au c])]
def xG(q:Bool):aJ:=bj 90 [(2,.aI (.one (.bg q)))] []
def Hh(A:ae)(a b c d:Int)(C:ae)(q:Bool)(l:List O):List O:=.i A a (bt b c d C)::.r 273 [.agg (bt b c d C)] [ai q]::l
theorem agl(h:ad (Hh A d a b c C q [.n q true])):
 a7 (ar Tryz.f179 0) (pv A d E e f) .ret (xG false):=
 h.aY [2] []
theorem agm(h:ad (Hh A b a c d C q [.n q false,.b (!(a==1)==(b==0)) true])):
 a7 (ar Tryz.f179 0) (pv A b E e f) .ret (xG false):=
 h.aY [2] []
def jc(C:ae)(a:Int)(E:ae)(b c d e f:Int)(A:ae)(g:Int):aJ:=bj 90 [(1,aR 1),(3,a6 a),(4,aR 4),(26,dO 4 C),(27,a6 (C.length:Int)),(28,a6 a),(45,dO 1 A),(46,a6 (A.length:Int)),(47,a6 g)] [(4,[au d,au e,au f,.J .free 1 A]),(1,[.J .free 4 E,au b,au c])]
def sC(q:Bool):aJ:=bj 90 [(2,.aI (.one (.bg q)))] []
theorem agn(h:ad [.i A a [I b],.b (decide (b>=(C.length:Int))) true]):
 a7 (ar Tryz.f179 1) (jc E f C g i c d e A a) .ret (sC false):=
 h.aY [2] []
def C3(A:ae)(a b:Int)(C:ae)(c d e:Int)(E:ae)(l:List O):List O:=Hi A a b C (.x C b (bt c d e E)::l)
theorem ago(h:ad (C3 C c a A g i j F [.b (b==7) true,.b (decide (a>d)) true])):
 a7 (ar Tryz.f179 1) (jc E d A k l b e f C c) .ret (sC false):=
 h.aY [2] []
def x7(A:ae)(a b:Int)(C:ae)(c d e:Int)(E:ae)(f g:Int)(l:List O):List O:=C3 A a b C c d e E (.b (f==7) true::.b (decide (b>g)) false::l)
theorem agp(h:ad (x7 C d a A b i j F c e [.b (b != 5) true,.b (b != 6) true])):
 a7 (ar Tryz.f179 1) (jc E e A k l c f g C d) .ret (sC false):=
 h.aY [2] []
theorem agq(h:ad (x7 C e a A c i j F b d [.b (c != 5) true,.b (c != 6) false,.b (b != 7) true,.b (decide (a<=d)) true])):
 a7 (ar Tryz.f179 1) (jc E d A k l b f g C e) .ret (sC false):=
 h.aY [2] []
theorem agr(h:ad (x7 C c a A e k l F b d [.b (e != 5) true,.b (e != 6) false,.b (b != 7) true,.b (decide (a<=d)) false,.u c])):
 a7 (ar Tryz.f179 1) (jc E d A i j b f g C c) .normal (jc E d A i j b f g C (c+1)):=
 h.aY [47,46,45,1,4,3,28,27,26] [4,1]
theorem ags(h:ad (x7 C b c A d k l F a e [.b (d != 5) true,.b (d != 6) false,.b (a != 7) false,.u b])):
 a7 (ar Tryz.f179 1) (jc E e A i j a f g C b) .normal (jc E e A i j a f g C (b+1)):=
 h.aY [47,46,45,1,4,3,28,27,26] [4,1]
theorem agt(h:ad (x7 C d a A e i j F b c [.b (e != 5) false,.b (b != 7) true,.b (decide (a<=c)) true])):
 a7 (ar Tryz.f179 1) (jc E c A k l b f g C d) .ret (sC false):=
 h.aY [2] []
theorem agu(h:ad (x7 C c a A g k l F b d [.b (g != 5) false,.b (b != 7) true,.b (decide (a<=d)) false,.u c])):
 a7 (ar Tryz.f179 1) (jc E d A i j b e f C c) .normal (jc E d A i j b e f C (c+1)):=
 h.aY [47,46,45,1,4,3,28,27,26] [4,1]
theorem agv(h:ad (x7 C b c A g k l F a d [.b (g != 5) false,.b (a != 7) false,.u b])):
 a7 (ar Tryz.f179 1) (jc E d A i j a e f C b) .normal (jc E d A i j a e f C (b+1)):=
 h.aY [47,46,45,1,4,3,28,27,26] [4,1]
theorem agw(h:ad (C3 C c a A g i j F [.b (b==7) false,.b (b != 7) true,.b (decide (a<=d)) true])):
 a7 (ar Tryz.f179 1) (jc E d A k l b e f C c) .ret (sC false):=
 h.aY [2] []
theorem afW(h:ad (C3 C b c A j k l F [.b (a==7) false,.b (a != 7) true,.b (decide (c<=d)) false,.u b])):
 a7 (ar Tryz.f179 1) (jc E d A g i a e f C b) .normal (jc E d A g i a e f C (b+1)):=
 h.aY [47,46,45,1,4,3,28,27,26] [4,1]
theorem afX(h:ad (C3 C b c A j k l F [.b (a==7) false,.b (a != 7) false,.u b])):
 a7 (ar Tryz.f179 1) (jc E f A g i a d e C b) .normal (jc E f A g i a d e C (b+1)):=
 h.aY [47,46,45,1,4,3,28,27,26] [4,1]
def Mb(A:ae)(a:Int)(C:ae)(b c:Int):aJ:=bj 90 [(1,aR 1),(26,dO 4 A),(27,a6 (A.length:Int)),(28,a6 a)] [(1,[.J .free 4 C,au b,au c])]
theorem afY(h:ad [.f C a false]):
 a7 (ar Tryz.f179 1) (jc A b E c d e f g C a) (.exit 2) (Mb A b E c d):=
 h.aY [28,27,26,1] [1]
theorem afZ(h:ad (Hh A b a c d C q [.n q false,.b (!(a==1)==(b==0)) false,.l [] [47,46,45,1,4,3,28,27,26] [4,1] (ar Tryz.f179 1) (jc A b E e f a c d C 0) .ret (sC r)])):
 a7 (ar Tryz.f179 0) (pv A b E e f) .ret (xG r):=
 h.aY [2] []
theorem af0(h:ad (Hh A a b e f E q [.n q false,.b (!(b==1)==(a==0)) false,.l [] [47,46,45,1,4,3,28,27,26] [4,1] (ar Tryz.f179 1) (jc A a C c d b e f E 0) (.exit 2) (Mb A a C c d),.u a])):
 a7 (ar Tryz.f179 0) (pv A a C c d) .normal (pv A (a+1) C c d):=
 h.aY [28,27,26,1] [1]
def Mc:aJ:=bj 90 [] []
theorem af1(h:ad [.f A a false]):
 a7 (ar Tryz.f179 0) (pv A a C b c) (.exit 0) Mc:=
 h.aY [] []
theorem af2(h:ad (Hj A q a r [.n r false,.r 190 [ag b,ag 1,ag 4] [ai s],.n s false,.l [] [28,27,26,1] [1] (ar Tryz.f179 0) (pv A 0 A a b) .ret (xG t)])):
 al 179 [.agg (bA A a b)] [ai t]:=
 h.of
theorem af3(h:ad (Hj A q a r [.n r false,.r 190 [ag b,ag 1,ag 4] [ai s],.n s false,.l [] [28,27,26,1] [1] (ar Tryz.f179 0) (pv A 0 A a b) (.exit 0) Mc])):
 al 179 [.agg (bA A a b)] [ai true]:=
 h.of
def Pc(a:Int)(q:Bool)(b c:Int)(r:Bool)(l:List O):List O:=.r 168 [ag a,ag 0,ag 7] [ai q]::.b q true::.r 244 [.agg [I b,I c]] [ai r]::l
theorem af4(h:ad (Pc a q b c r [.b r true,.r 168 [ag d,ag 0,ag 99] [ai s],.b s true,.r 168 [ag e,ag 0,ag 999] [ai t]])):
 al 122 [.agg (aS a b c d e)] [ai t]:=
 h.of
theorem af5(h:ad (Pc a q b c r [.b r true,.r 168 [ag d,ag 0,ag 99] [ai s],.b s false])):
 al 122 [.agg (aS a b c d e)] [ai false]:=
 h.of
theorem ahx(h:ad (Pc a q b c r [.b r false])):
 al 122 [.agg (aS a b c d e)] [ai false]:=
 h.of
theorem ahy(h:ad [.r 168 [ag a,ag 0,ag 7] [ai q],.b q false]):
 al 122 [.agg (aS a b c d e)] [ai false]:=
 h.of
theorem ahz(h:ad [.r 190 [ag a,ag 0,ag 7] [ai q],.b q true,.r 274 [.agg [I b,I c]] [ai r],.b r true,.r 275 [ag d,ag e] [ai s]]):
 al 180 [.agg (aS a b c d e)] [ai s]:=
 h.of
theorem ahA(h:ad [.r 190 [ag a,ag 0,ag 7] [ai q],.b q true,.r 274 [.agg [I b,I c]] [ai r],.b r false]):
 al 180 [.agg (aS a b c d e)] [ai false]:=
 h.of
theorem ahB(h:ad [.r 190 [ag a,ag 0,ag 7] [ai q],.b q false]):
 al 180 [.agg (aS a b c d e)] [ai false]:=
 h.of
theorem ahC(h:ad [.r 168 [ag a,ag 0,ag 3] [ai q],.b q true,.r 168 [ag b,ag 0,ag 6] [ai r]]):
 al 244 [.agg [I a,I b]] [ai r]:=
 h.of
theorem ahD(h:ad [.r 168 [ag a,ag 0,ag 3] [ai q],.b q false]):
 al 244 [.agg [I a,I b]] [ai false]:=
 h.of
theorem ahE(h:ad [.r 190 [ag a,ag 0,ag 3] [ai q],.b q true,.r 190 [ag b,ag 0,ag 6] [ai r]]):
 al 274 [.agg [I a,I b]] [ai r]:=
 h.of
theorem ahF(h:ad [.r 190 [ag a,ag 0,ag 3] [ai q],.b q false]):
 al 274 [.agg [I a,I b]] [ai false]:=
 h.of
theorem ahG(h:ad [.r 244 [.agg [I a,I b]] [ai q],.n q true]):
 al 270 [.agg [I a,I b]] [.agg [I a,I b],ai false]:=
 h.of
theorem ahH(h:ad [.r 244 [.agg [I b,I a]] [ai q],.n q false,.b (decide (a>=6)) true]):
 al 270 [.agg [I b,I a]] [.agg [I b,I a],ai false]:=
 h.of
theorem ahI(h:ad [.r 244 [.agg [I b,I a]] [ai q],.n q false,.b (decide (a>=6)) false,.u a]):
 al 270 [.agg [I b,I a]] [.agg [I b,I (a+1)],ai true]:=
 h.of
theorem ahJ(h:ad [.r 274 [.agg [I a,I b]] [ai q],.n q true]):
 al 300 [.agg [I a,I b]] [.agg [I a,I b],ai false]:=
 h.of
theorem ahK(h:ad [.r 274 [.agg [I b,I a]] [ai q],.n q false,.b (a==6) true]):
 al 300 [.agg [I b,I a]] [.agg [I b,I a],ai false]:=
 h.of
theorem ahL(h:ad [.r 274 [.agg [I b,I a]] [ai q],.n q false,.b (a==6) false,.u a]):
 al 300 [.agg [I b,I a]] [.agg [I b,I (a+1)],ai true]:=
 h.of
def Y6(a b c:Int)(A:ae)(q:Bool)(l:List O):List O:=.r 243 [.agg (bt a b c A)] [ai q]::l
theorem ahM(h:ad (Y6 a b c A q [.n q true])):
 al 267 [.agg (bt a b c A),ag d,ag e] [ag d,ag e,ai false]:=
 h.of
def Y7(a b c:Int)(A:ae)(q:Bool)(d:Int)(r:Bool)(l:List O):List O:=Y6 a b c A q (.n q false::.r 168 [ag d,ag 0,ag 99] [ai r]::l)
theorem ahN(h:ad (Y7 b c d A q a r [.n r true])):
 al 267 [.agg (bt b c d A),ag a,ag e] [ag a,ag e,ai false]:=
 h.of
def C4(a b c:Int)(A:ae)(q:Bool)(d:Int)(r:Bool)(e:Int)(s:Bool)(l:List O):List O:=Y7 a b c A q d r (.n r false::.r 168 [ag e,ag 0,ag 999] [ai s]::l)
theorem ahO(h:ad (C4 c d e A q a r b s [.n s true])):
 al 267 [.agg (bt c d e A),ag a,ag b] [ag a,ag b,ai false]:=
 h.of
theorem ahP(h:ad (C4 c a e A q d r b s [.n s false,.b (c==2) true,.v (b+a),.r 323 [ag (b+a),ag 999] [ag f]])):
 al 267 [.agg (bt c a e A),ag d,ag b] [ag d,ag f,ai true]:=
 h.of
theorem ahQ(h:ad (C4 a b e A q c r d s [.n s false,.b (a==2) false,.b (a==4) true,.v (c+b),.p ((100:Int)≠0)])):
 al 267 [.agg (bt a b e A),ag c,ag d] [ag ((c+b).tmod 100),ag d,ai true]:=
 h.of
theorem ahR(h:ad (C4 a b d A q c r e s [.n s false,.b (a==2) false,.b (a==4) false,.b (a==3) true,.p (b≠0)])):
 al 267 [.agg (bt a b d A),ag c,ag e] [ag c,ag e,ai (c.tmod b==d)]:=
 h.of
theorem ahS(h:ad (C4 a d e A q b r c s [.n s false,.b (a==2) false,.b (a==4) false,.b (a==3) false])):
 al 267 [.agg (bt a d e A),ag b,ag c] [ag b,ag c,ai (a != 8)]:=
 h.of
def Hm(a b c:Int)(A:ae)(q:Bool)(l:List O):List O:=.r 273 [.agg (bt a b c A)] [ai q]::l
theorem ahT(h:ad (Hm a b c A q [.n q true])):
 al 298 [.agg (bt a b c A),ag d,ag e] [ag d,ag e,ai false]:=
 h.of
def Da(a b c:Int)(A:ae)(q:Bool)(d e:Int)(r:Bool)(l:List O):List O:=Hm a b c A q (.n q false::.r 275 [ag d,ag e] [ai r]::l)
theorem ahU(h:ad (Da c d e A q a b r [.n r true])):
 al 298 [.agg (bt c d e A),ag a,ag b] [ag a,ag b,ai false]:=
 h.of
theorem ahV(h:ad (Da c a e A q d b r [.n r false,.b (c==2) true,.v (b+a)])):
 al 298 [.agg (bt c a e A),ag d,ag b] [ag d,ag (if b+a<999 then b+a else 999),ai true]:=
 h.of
theorem ahW(h:ad (Da a b e A q c d r [.n r false,.b (a==2) false,.b (a==4) true,.v (c+b),.p ((100:Int)≠0)])):
 al 298 [.agg (bt a b e A),ag c,ag d] [ag ((c+b).tmod 100),ag d,ai true]:=
 h.of
theorem ag7(h:ad (Da a b d A q c e r [.n r false,.b (a==2) false,.b (a==4) false,.b (a==3) true,.p (b≠0)])):
 al 298 [.agg (bt a b d A),ag c,ag e] [ag c,ag e,ai (c.tmod b==d)]:=
 h.of
theorem ag8(h:ad (Da a d e A q b c r [.n r false,.b (a==2) false,.b (a==4) false,.b (a==3) false])):
 al 298 [.agg (bt a d e A),ag b,ag c] [ag b,ag c,ai (a != 8)]:=
 h.of
theorem ag9(h:ad [.b (decide (a<b)) true]):
 al 323 [ag b,ag a] [ag a]:=
 h.of
theorem aha(h:ad [.b (decide (b<a)) false]):
 al 323 [ag a,ag b] [ag a]:=
 h.of
theorem ahb(h:ad [.r 190 [ag a,ag 0,ag 99] [ai q],.b q true,.r 190 [ag b,ag 0,ag 999] [ai r]]):
 al 275 [ag a,ag b] [ai r]:=
 h.of
theorem ahc(h:ad [.r 190 [ag a,ag 0,ag 99] [ai q],.b q false]):
 al 275 [ag a,ag b] [ai false]:=
 h.of
