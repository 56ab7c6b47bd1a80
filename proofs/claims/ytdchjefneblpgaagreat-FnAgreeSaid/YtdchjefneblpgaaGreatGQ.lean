import Derived.Test.YtdchjefneblpgaaGreatGE
set_option linter.unusedVariables false
set_option linter.unusedSimpArgs false
namespace Go.Proofs.YtdchjefneblpgaaGreat
open Go.Sx Go.RowKit
variable {a b c d e f g i j k l : Int} {A C E F : ak} {q r s t : Bool}
def WB(A:ak)(q:Bool)(l:List O):List O:=.r 168 [ag (A.length:Int),ag 1,ag 8] [al q]::l
theorem arz(h:ah (WB A q [.n q true])):
 aw 121 [.agg (bP A a b)] [al false]:=
 h.of
def G2(A:ak)(q:Bool)(a:Int)(r:Bool)(l:List O):List O:=WB A q (.n q false::.r 168 [ag a,ag 1,ag 4] [al r]::l)
theorem arA(h:ah (G2 A q a r [.n r true])):
 aw 121 [.agg (bP A a b)] [al false]:=
 h.of
theorem arB(h:ah (G2 A q a r [.n r false,.r 168 [ag b,ag 1,ag 4] [al s],.n s true])):
 aw 121 [.agg (bP A a b)] [al false]:=
 h.of
def pv(a:Int)(A:ak)(b c:Int):aG:=bp 97 [(1,bE 1),(3,bf a)] [(1,[.J .free 4 A,aM b,aM c])]
def wX(q:Bool):aG:=bp 97 [(2,.bd (.one (.cg q)))] []
def G3(A:ak)(a b c d:Int)(C:ak)(q:Bool)(l:List O):List O:=.i A a (bF b c d C)::.r 243 [.agg (bF b c d C)] [al q]::l
theorem arC(h:ah (G3 C d a b c A q [.n q true])):
 aY (av Tryz.f121 0) (pv d C e f) .ret (wX false):=
 h.aR [2] []
theorem arD(h:ah (G3 C b a c d A q [.n q false,.b (!(a==1)==(b==0)) true])):
 aY (av Tryz.f121 0) (pv b C e f) .ret (wX false):=
 h.aR [2] []
def iP(a:Int)(A:ak)(b c d e f:Int)(C:ak)(g:Int):aG:=bp 97 [(1,bE 1),(3,bf a),(4,bE 4),(5,bf g)] [(4,[aM d,aM e,aM f,.J .free 1 C]),(1,[.J .free 4 A,aM b,aM c])]
def su(q:Bool):aG:=bp 97 [(2,.bd (.one (.cg q)))] []
theorem arE(h:ah [.i A a [I b],.b (decide (b>=(C.length:Int))) true]):
 aY (av Tryz.f121 1) (iP f C g i c d e A a) .ret (su false):=
 h.aR [2] []
def G5(A:ak)(a b:Int)(C:ak)(l:List O):List O:=.i A a [I b]::.b (decide (b>=(C.length:Int))) false::l
theorem arF(h:ah (G5 A c a C [.b (b != 7) true,.b (decide (a<=d)) true])):
 aY (av Tryz.f121 1) (iP d C g i b e f A c) .ret (su false):=
 h.aR [2] []
def C1(A:ak)(a b:Int)(C:ak)(c d e f g:Int)(E:ak)(l:List O):List O:=G5 A a b C (.b (c != 7) true::.b (decide (b<=d)) false::.x C b (bF e f g E)::l)
theorem arG(h:ah (C1 C d a A b c g i j E [.b (b==7) true,.b (decide (a>c)) true])):
 aY (av Tryz.f121 1) (iP c A k l b e f C d) .ret (su false):=
 h.aR [2] []
theorem aq4(h:ah (C1 C e a A b d c i j E [.b (b==7) true,.b (decide (a>d)) false,.b (c != 5) true,.b (c != 6) true])):
 aY (av Tryz.f121 1) (iP d A k l b f g C e) .ret (su false):=
 h.aR [2] []
theorem aq5(h:ah (C1 C c a A b d e k l E [.b (b==7) true,.b (decide (a>d)) false,.b (e != 5) true,.b (e != 6) false,.u c])):
 aY (av Tryz.f121 1) (iP d A i j b f g C c) .normal (iP d A i j b f g C (c+1)):=
 h.aR [5,4,1,3] [4,1]
theorem aq6(h:ah (C1 C c a A b d g k l E [.b (b==7) true,.b (decide (a>d)) false,.b (g != 5) false,.u c])):
 aY (av Tryz.f121 1) (iP d A i j b e f C c) .normal (iP d A i j b e f C (c+1)):=
 h.aR [5,4,1,3] [4,1]
theorem aq7(h:ah (C1 C b c A a d j k l E [.b (a==7) false,.u b])):
 aY (av Tryz.f121 1) (iP d A g i a e f C b) .normal (iP d A g i a e f C (b+1)):=
 h.aR [5,4,1,3] [4,1]
def C2(A:ak)(a b:Int)(C:ak)(c d e f:Int)(E:ak)(l:List O):List O:=G5 A a b C (.b (c != 7) false::.x C b (bF d e f E)::l)
theorem aq8(h:ah (C2 C c a A b g i j E [.b (b==7) true,.b (decide (a>d)) true])):
 aY (av Tryz.f121 1) (iP d A k l b e f C c) .ret (su false):=
 h.aR [2] []
theorem aq9(h:ah (C2 C d a A b c i j E [.b (b==7) true,.b (decide (a>e)) false,.b (c != 5) true,.b (c != 6) true])):
 aY (av Tryz.f121 1) (iP e A k l b f g C d) .ret (su false):=
 h.aR [2] []
theorem ara(h:ah (C2 C b c A a d k l E [.b (a==7) true,.b (decide (c>e)) false,.b (d != 5) true,.b (d != 6) false,.u b])):
 aY (av Tryz.f121 1) (iP e A i j a f g C b) .normal (iP e A i j a f g C (b+1)):=
 h.aR [5,4,1,3] [4,1]
theorem arb(h:ah (C2 C b c A a g k l E [.b (a==7) true,.b (decide (c>d)) false,.b (g != 5) false,.u b])):
 aY (av Tryz.f121 1) (iP d A i j a e f C b) .normal (iP d A i j a e f C (b+1)):=
 h.aR [5,4,1,3] [4,1]
theorem arc(h:ah (C2 C b c A a j k l E [.b (a==7) false,.u b])):
 aY (av Tryz.f121 1) (iP f A g i a d e C b) .normal (iP f A g i a d e C (b+1)):=
 h.aR [5,4,1,3] [4,1]
def Mt(a:Int)(A:ak)(b c:Int):aG:=bp 97 [(1,bE 1),(3,bf a)] [(1,[.J .free 4 A,aM b,aM c])]
theorem ard(h:ah [.f A a false]):
 aY (av Tryz.f121 1) (iP b C c d e f g A a) (.exit 2) (Mt b C c d):=
 h.aR [3,1] [1]
theorem asI(h:ah (G3 C b a c d A q [.n q false,.b (!(a==1)==(b==0)) false,.l [] [5,4,1,3] [4,1] (av Tryz.f121 1) (iP b C e f a c d A 0) .ret (su r)])):
 aY (av Tryz.f121 0) (pv b C e f) .ret (wX r):=
 h.aR [2] []
theorem asJ(h:ah (G3 A a b e f C q [.n q false,.b (!(b==1)==(a==0)) false,.l [] [5,4,1,3] [4,1] (av Tryz.f121 1) (iP a A c d b e f C 0) (.exit 2) (Mt a A c d),.u a])):
 aY (av Tryz.f121 0) (pv a A c d) .normal (pv (a+1) A c d):=
 h.aR [3,1] [1]
def Mu:aG:=bp 97 [] []
theorem asK(h:ah [.f A a false]):
 aY (av Tryz.f121 0) (pv a A b c) (.exit 0) Mu:=
 h.aR [] []
theorem asL(h:ah (G2 A q a r [.n r false,.r 168 [ag b,ag 1,ag 4] [al s],.n s false,.l [] [3,1] [1] (av Tryz.f121 0) (pv 0 A a b) .ret (wX t)])):
 aw 121 [.agg (bP A a b)] [al t]:=
 h.of
theorem asM(h:ah (G2 A q a r [.n r false,.r 168 [ag b,ag 1,ag 4] [al s],.n s false,.l [] [3,1] [1] (av Tryz.f121 0) (pv 0 A a b) (.exit 0) Mu])):
 aw 121 [.agg (bP A a b)] [al true]:=
 h.of
def WC(A:ak)(q:Bool)(l:List O):List O:=.r 190 [ag (A.length:Int),ag 1,ag 8] [al q]::l
theorem asN(h:ah (WC A q [.n q true])):
 aw 179 [.agg (bP A a b)] [al false]:=
 h.of
def G6(A:ak)(q:Bool)(a:Int)(r:Bool)(l:List O):List O:=WC A q (.n q false::.r 190 [ag a,ag 1,ag 4] [al r]::l)
theorem asO(h:ah (G6 A q a r [.n r true])):
 aw 179 [.agg (bP A a b)] [al false]:=
 h.of
theorem asP(h:ah (G6 A q a r [.n r false,.r 190 [ag b,ag 1,ag 4] [al s],.n s true])):
 aw 179 [.agg (bP A a b)] [al false]:=
 h.of
def pw(A:ak)(a:Int)(C:ak)(b c:Int):aG:=bp 90 [(1,bE 1),(26,eP 4 A),(27,bf (A.length:Int)),(28,bf a)] [(1,[.J .free 4 C,aM b,aM c])]
def wY(q:Bool):aG:=bp 90 [(2,.bd (.one (.cg q)))] []
def G4(A:ak)(a b c d:Int)(C:ak)(q:Bool)(l:List O):List O:=.i A a (bF b c d C)::.r 273 [.agg (bF b c d C)] [al q]::l
theorem asQ(h:ah (G4 A d a b c C q [.n q true])):
 aY (av Tryz.f179 0) (pw A d E e f) .ret (wY false):=
 h.aR [2] []
theorem asR(h:ah (G4 A b a c d C q [.n q false,.b (!(a==1)==(b==0)) true])):
 aY (av Tryz.f179 0) (pw A b E e f) .ret (wY false):=
 h.aR [2] []
def iQ(C:ak)(a:Int)(E:ak)(b c d e f:Int)(A:ak)(g:Int):aG:=bp 90 [(1,bE 1),(3,bf a),(4,bE 4),(26,eP 4 C),(27,bf (C.length:Int)),(28,bf a),(45,eP 1 A),(46,bf (A.length:Int)),(47,bf g)] [(4,[aM d,aM e,aM f,.J .free 1 A]),(1,[.J .free 4 E,aM b,aM c])]
def sv(q:Bool):aG:=bp 90 [(2,.bd (.one (.cg q)))] []
theorem asS(h:ah [.i A a [I b],.b (decide (b>=(C.length:Int))) true]):
 aY (av Tryz.f179 1) (iQ E f C g i c d e A a) .ret (sv false):=
 h.aR [2] []
def C3(A:ak)(a b:Int)(C:ak)(c d e:Int)(E:ak)(l:List O):List O:=G5 A a b C (.x C b (bF c d e E)::l)
theorem asT(h:ah (C3 C c a A g i j F [.b (b==7) true,.b (decide (a>d)) true])):
 aY (av Tryz.f179 1) (iQ E d A k l b e f C c) .ret (sv false):=
 h.aR [2] []
def x7(A:ak)(a b:Int)(C:ak)(c d e:Int)(E:ak)(f g:Int)(l:List O):List O:=C3 A a b C c d e E (.b (f==7) true::.b (decide (b>g)) false::l)
theorem asU(h:ah (x7 C d a A b i j F c e [.b (b != 5) true,.b (b != 6) true])):
 aY (av Tryz.f179 1) (iQ E e A k l c f g C d) .ret (sv false):=
 h.aR [2] []
theorem asV(h:ah (x7 C e a A c i j F b d [.b (c != 5) true,.b (c != 6) false,.b (b != 7) true,.b (decide (a<=d)) true])):
 aY (av Tryz.f179 1) (iQ E d A k l b f g C e) .ret (sv false):=
 h.aR [2] []
theorem asW(h:ah (x7 C c a A e k l F b d [.b (e != 5) true,.b (e != 6) false,.b (b != 7) true,.b (decide (a<=d)) false,.u c])):
 aY (av Tryz.f179 1) (iQ E d A i j b f g C c) .normal (iQ E d A i j b f g C (c+1)):=
 h.aR [47,46,45,1,4,3,28,27,26] [4,1]
theorem asX(h:ah (x7 C b c A d k l F a e [.b (d != 5) true,.b (d != 6) false,.b (a != 7) false,.u b])):
 aY (av Tryz.f179 1) (iQ E e A i j a f g C b) .normal (iQ E e A i j a f g C (b+1)):=
 h.aR [47,46,45,1,4,3,28,27,26] [4,1]
theorem asY(h:ah (x7 C d a A e i j F b c [.b (e != 5) false,.b (b != 7) true,.b (decide (a<=c)) true])):
 aY (av Tryz.f179 1) (iQ E c A k l b f g C d) .ret (sv false):=
 h.aR [2] []
theorem asZ(h:ah (x7 C c a A g k l F b d [.b (g != 5) false,.b (b != 7) true,.b (decide (a<=d)) false,.u c])):
 aY (av Tryz.f179 1) (iQ E d A i j b e f C c) .normal (iQ E d A i j b e f C (c+1)):=
 h.aR [47,46,45,1,4,3,28,27,26] [4,1]
theorem as0(h:ah (x7 C b c A g k l F a d [.b (g != 5) false,.b (a != 7) false,.u b])):
 aY (av Tryz.f179 1) (iQ E d A i j a e f C b) .normal (iQ E d A i j a e f C (b+1)):=
 h.aR [47,46,45,1,4,3,28,27,26] [4,1]
theorem as1(h:ah (C3 C c a A g i j F [.b (b==7) false,.b (b != 7) true,.b (decide (a<=d)) true])):
 aY (av Tryz.f179 1) (iQ E d A k l b e f C c) .ret (sv false):=
 h.aR [2] []
theorem as2(h:ah (C3 C b c A j k l F [.b (a==7) false,.b (a != 7) true,.b (decide (c<=d)) false,.u b])):
 aY (av Tryz.f179 1) (iQ E d A g i a e f C b) .normal (iQ E d A g i a e f C (b+1)):=
 h.aR [47,46,45,1,4,3,28,27,26] [4,1]
theorem as3(h:ah (C3 C b c A j k l F [.b (a==7) false,.b (a != 7) false,.u b])):
 aY (av Tryz.f179 1) (iQ E f A g i a d e C b) .normal (iQ E f A g i a d e C (b+1)):=
 h.aR [47,46,45,1,4,3,28,27,26] [4,1]
def Mv(A:ak)(a:Int)(C:ak)(b c:Int):aG:=bp 90 [(1,bE 1),(26,eP 4 A),(27,bf (A.length:Int)),(28,bf a)] [(1,[.J .free 4 C,aM b,aM c])]
theorem as4(h:ah [.f C a false]):
 aY (av Tryz.f179 1) (iQ A b E c d e f g C a) (.exit 2) (Mv A b E c d):=
 h.aR [28,27,26,1] [1]
theorem as5(h:ah (G4 A b a c d C q [.n q false,.b (!(a==1)==(b==0)) false,.l [] [47,46,45,1,4,3,28,27,26] [4,1] (av Tryz.f179 1) (iQ A b E e f a c d C 0) .ret (sv r)])):
 aY (av Tryz.f179 0) (pw A b E e f) .ret (wY r):=
 h.aR [2] []
theorem as6(h:ah (G4 A a b e f E q [.n q false,.b (!(b==1)==(a==0)) false,.l [] [47,46,45,1,4,3,28,27,26] [4,1] (av Tryz.f179 1) (iQ A a C c d b e f E 0) (.exit 2) (Mv A a C c d),.u a])):
 aY (av Tryz.f179 0) (pw A a C c d) .normal (pw A (a+1) C c d):=
 h.aR [28,27,26,1] [1]
def Mw:aG:=bp 90 [] []
theorem as7(h:ah [.f A a false]):
 aY (av Tryz.f179 0) (pw A a C b c) (.exit 0) Mw:=
 h.aR [] []
theorem ash(h:ah (G6 A q a r [.n r false,.r 190 [ag b,ag 1,ag 4] [al s],.n s false,.l [] [28,27,26,1] [1] (av Tryz.f179 0) (pw A 0 A a b) .ret (wY t)])):
 aw 179 [.agg (bP A a b)] [al t]:=
 h.of
theorem asi(h:ah (G6 A q a r [.n r false,.r 190 [ag b,ag 1,ag 4] [al s],.n s false,.l [] [28,27,26,1] [1] (av Tryz.f179 0) (pw A 0 A a b) (.exit 0) Mw])):
 aw 179 [.agg (bP A a b)] [al true]:=
 h.of
def NI(a:Int)(q:Bool)(b c:Int)(r:Bool)(l:List O):List O:=.r 168 [ag a,ag 0,ag 7] [al q]::.b q true::.r 244 [.agg [I b,I c]] [al r]::l
theorem asj(h:ah (NI a q b c r [.b r true,.r 168 [ag d,ag 0,ag 99] [al s],.b s true,.r 168 [ag e,ag 0,ag 999] [al t]])):
 aw 122 [.agg (bA a b c d e)] [al t]:=
 h.of
theorem asl(h:ah (NI a q b c r [.b r true,.r 168 [ag d,ag 0,ag 99] [al s],.b s false])):
 aw 122 [.agg (bA a b c d e)] [al false]:=
 h.of
theorem asm(h:ah (NI a q b c r [.b r false])):
 aw 122 [.agg (bA a b c d e)] [al false]:=
 h.of
theorem asn(h:ah [.r 168 [ag a,ag 0,ag 7] [al q],.b q false]):
 aw 122 [.agg (bA a b c d e)] [al false]:=
 h.of
theorem aso(h:ah [.r 190 [ag a,ag 0,ag 7] [al q],.b q true,.r 274 [.agg [I b,I c]] [al r],.b r true,.r 275 [ag d,ag e] [al s]]):
 aw 180 [.agg (bA a b c d e)] [al s]:=
 h.of
theorem asp(h:ah [.r 190 [ag a,ag 0,ag 7] [al q],.b q true,.r 274 [.agg [I b,I c]] [al r],.b r false]):
 aw 180 [.agg (bA a b c d e)] [al false]:=
 h.of
theorem asq(h:ah [.r 190 [ag a,ag 0,ag 7] [al q],.b q false]):
 aw 180 [.agg (bA a b c d e)] [al false]:=
 h.of
theorem asr(h:ah [.r 168 [ag a,ag 0,ag 3] [al q],.b q true,.r 168 [ag b,ag 0,ag 6] [al r]]):
 aw 244 [.agg [I a,I b]] [al r]:=
 h.of
theorem ass(h:ah [.r 168 [ag a,ag 0,ag 3] [al q],.b q false]):
 aw 244 [.agg [I a,I b]] [al false]:=
 h.of
theorem ast(h:ah [.r 190 [ag a,ag 0,ag 3] [al q],.b q true,.r 190 [ag b,ag 0,ag 6] [al r]]):
 aw 274 [.agg [I a,I b]] [al r]:=
 h.of
theorem asu(h:ah [.r 190 [ag a,ag 0,ag 3] [al q],.b q false]):
 aw 274 [.agg [I a,I b]] [al false]:=
 h.of
theorem asv(h:ah [.r 244 [.agg [I a,I b]] [al q],.n q true]):
 aw 270 [.agg [I a,I b]] [.agg [I a,I b],al false]:=
 h.of
theorem asw(h:ah [.r 244 [.agg [I b,I a]] [al q],.n q false,.b (decide (a>=6)) true]):
 aw 270 [.agg [I b,I a]] [.agg [I b,I a],al false]:=
 h.of
theorem asx(h:ah [.r 244 [.agg [I b,I a]] [al q],.n q false,.b (decide (a>=6)) false,.u a]):
 aw 270 [.agg [I b,I a]] [.agg [I b,I (a+1)],al true]:=
 h.of
theorem asy(h:ah [.r 274 [.agg [I a,I b]] [al q],.n q true]):
 aw 300 [.agg [I a,I b]] [.agg [I a,I b],al false]:=
 h.of
theorem asz(h:ah [.r 274 [.agg [I b,I a]] [al q],.n q false,.b (a==6) true]):
 aw 300 [.agg [I b,I a]] [.agg [I b,I a],al false]:=
 h.of
theorem asA(h:ah [.r 274 [.agg [I b,I a]] [al q],.n q false,.b (a==6) false,.u a]):
 aw 300 [.agg [I b,I a]] [.agg [I b,I (a+1)],al true]:=
 h.of
def WD(a b c:Int)(A:ak)(q:Bool)(l:List O):List O:=.r 243 [.agg (bF a b c A)] [al q]::l
theorem asB(h:ah (WD a b c A q [.n q true])):
 aw 267 [.agg (bF a b c A),ag d,ag e] [ag d,ag e,al false]:=
 h.of
def WE(a b c:Int)(A:ak)(q:Bool)(d:Int)(r:Bool)(l:List O):List O:=WD a b c A q (.n q false::.r 168 [ag d,ag 0,ag 99] [al r]::l)
theorem asC(h:ah (WE b c d A q a r [.n r true])):
 aw 267 [.agg (bF b c d A),ag a,ag e] [ag a,ag e,al false]:=
 h.of
def C4(a b c:Int)(A:ak)(q:Bool)(d:Int)(r:Bool)(e:Int)(s:Bool)(l:List O):List O:=WE a b c A q d r (.n r false::.r 168 [ag e,ag 0,ag 999] [al s]::l)
theorem asD(h:ah (C4 c d e A q a r b s [.n s true])):
 aw 267 [.agg (bF c d e A),ag a,ag b] [ag a,ag b,al false]:=
 h.of
theorem asE(h:ah (C4 c a e A q d r b s [.n s false,.b (c==2) true,.v (b+a),.r 323 [ag (b+a),ag 999] [ag f]])):
 aw 267 [.agg (bF c a e A),ag d,ag b] [ag d,ag f,al true]:=
 h.of
theorem asF(h:ah (C4 a b e A q c r d s [.n s false,.b (a==2) false,.b (a==4) true,.v (c+b),.p ((100:Int)≠0)])):
 aw 267 [.agg (bF a b e A),ag c,ag d] [ag ((c+b).tmod 100),ag d,al true]:=
 h.of
theorem asG(h:ah (C4 a b d A q c r e s [.n s false,.b (a==2) false,.b (a==4) false,.b (a==3) true,.p (b≠0)])):
 aw 267 [.agg (bF a b d A),ag c,ag e] [ag c,ag e,al (c.tmod b==d)]:=
 h.of
theorem asH(h:ah (C4 a d e A q b r c s [.n s false,.b (a==2) false,.b (a==4) false,.b (a==3) false])):
 aw 267 [.agg (bF a d e A),ag b,ag c] [ag b,ag c,al (a != 8)]:=
 h.of
def WG(a b c:Int)(A:ak)(q:Bool)(l:List O):List O:=.r 273 [.agg (bF a b c A)] [al q]::l
theorem ar7(h:ah (WG a b c A q [.n q true])):
 aw 298 [.agg (bF a b c A),ag d,ag e] [ag d,ag e,al false]:=
 h.of
def C5(a b c:Int)(A:ak)(q:Bool)(d e:Int)(r:Bool)(l:List O):List O:=WG a b c A q (.n q false::.r 275 [ag d,ag e] [al r]::l)
theorem ar8(h:ah (C5 c d e A q a b r [.n r true])):
 aw 298 [.agg (bF c d e A),ag a,ag b] [ag a,ag b,al false]:=
 h.of
theorem ar9(h:ah (C5 c a e A q d b r [.n r false,.b (c==2) true,.v (b+a)])):
 aw 298 [.agg (bF c a e A),ag d,ag b] [ag d,ag (if b+a<999 then b+a else 999),al true]:=
 h.of
theorem asa(h:ah (C5 a b e A q c d r [.n r false,.b (a==2) false,.b (a==4) true,.v (c+b),.p ((100:Int)≠0)])):
 aw 298 [.agg (bF a b e A),ag c,ag d] [ag ((c+b).tmod 100),ag d,al true]:=
 h.of
theorem asb(h:ah (C5 a b d A q c e r [.n r false,.b (a==2) false,.b (a==4) false,.b (a==3) true,.p (b≠0)])):
 aw 298 [.agg (bF a b d A),ag c,ag e] [ag c,ag e,al (c.tmod b==d)]:=
 h.of
theorem asc(h:ah (C5 a d e A q b c r [.n r false,.b (a==2) false,.b (a==4) false,.b (a==3) false])):
 aw 298 [.agg (bF a d e A),ag b,ag c] [ag b,ag c,al (a != 8)]:=
 h.of
theorem asd(h:ah [.b (decide (a<b)) true]):
 aw 323 [ag b,ag a] [ag a]:=
 h.of
theorem ase(h:ah [.b (decide (b<a)) false]):
 aw 323 [ag a,ag b] [ag a]:=
 h.of
theorem asf(h:ah [.r 190 [ag a,ag 0,ag 99] [al q],.b q true,.r 190 [ag b,ag 0,ag 999] [al r]]):
 aw 275 [ag a,ag b] [al r]:=
 h.of
theorem asg(h:ah [.r 190 [ag a,ag 0,ag 99] [al q],.b q false]):
 aw 275 [ag a,ag b] [al false]:=
 h.of
