import Derived.Test.YtdchjefneblpgaaGreatGE
set_option linter.unusedVariables false
set_option linter.unusedSimpArgs false
namespace Go.Proofs.YtdchjefneblpgaaGreat
open Go.Sx Go.RowKit
variable {a b c d e f g i j k l : Int} {A C E F : ah} {q r s t : Bool}
def aaw(A:ah)(q:Bool)(l:List O):List O:=.r 168 [ag (A.length:Int),ag 1,ag 8] [ak q]::l
theorem agK(h:af (aaw A q [.n q true])):
 av 121 [.agg (bg A a b)] [ak false]:=
 h.of
def IY(A:ah)(q:Bool)(a:Int)(r:Bool)(l:List O):List O:=aaw A q (.n q false::.r 168 [ag a,ag 1,ag 4] [ak r]::l)
theorem agL(h:af (IY A q a r [.n r true])):
 av 121 [.agg (bg A a b)] [ak false]:=
 h.of
theorem agM(h:af (IY A q a r [.n r false,.r 168 [ag b,ag 1,ag 4] [ak s],.n s true])):
 av 121 [.agg (bg A a b)] [ak false]:=
 h.of
def pO(a:Int)(A:ah)(b c:Int):aD:=ba 97 [(1,a1 1),(3,aY a)] [(1,[.J .free 4 A,az b,az c])]
def x0(q:Bool):aD:=ba 97 [(2,.aR (.one (.bR q)))] []
def IZ(A:ah)(a b c d:Int)(C:ah)(q:Bool)(l:List O):List O:=.i A a (bj b c d C)::.r 243 [.agg (bj b c d C)] [ak q]::l
theorem agN(h:af (IZ C d a b c A q [.n q true])):
 aT (ap Tryz.f121 0) (pO d C e f) .ret (x0 false):=
 h.aQ [2] []
theorem agO(h:af (IZ C b a c d A q [.n q false,.b (!(a==1)==(b==0)) true])):
 aT (ap Tryz.f121 0) (pO b C e f) .ret (x0 false):=
 h.aQ [2] []
def i'(a:Int)(A:ah)(b c d e f:Int)(C:ah)(g:Int):aD:=ba 97 [(1,a1 1),(3,aY a),(4,a1 4),(5,aY g)] [(4,[az d,az e,az f,.J .free 1 C]),(1,[.J .free 4 A,az b,az c])]
def s5(q:Bool):aD:=ba 97 [(2,.aR (.one (.bR q)))] []
theorem agP(h:af [.i A a [I b],.b (decide (b>=(C.length:Int))) true]):
 aT (ap Tryz.f121 1) (i' f C g i c d e A a) .ret (s5 false):=
 h.aQ [2] []
def IU(A:ah)(a b:Int)(C:ah)(l:List O):List O:=.i A a [I b]::.b (decide (b>=(C.length:Int))) false::l
theorem agQ(h:af (IU A c a C [.b (b != 7) true,.b (decide (a<=d)) true])):
 aT (ap Tryz.f121 1) (i' d C g i b e f A c) .ret (s5 false):=
 h.aQ [2] []
def Eo(A:ah)(a b:Int)(C:ah)(c d e f g:Int)(E:ah)(l:List O):List O:=IU A a b C (.b (c != 7) true::.b (decide (b<=d)) false::.x C b (bj e f g E)::l)
theorem agR(h:af (Eo C d a A b c g i j E [.b (b==7) true,.b (decide (a>c)) true])):
 aT (ap Tryz.f121 1) (i' c A k l b e f C d) .ret (s5 false):=
 h.aQ [2] []
theorem agS(h:af (Eo C e a A b d c i j E [.b (b==7) true,.b (decide (a>d)) false,.b (c != 5) true,.b (c != 6) true])):
 aT (ap Tryz.f121 1) (i' d A k l b f g C e) .ret (s5 false):=
 h.aQ [2] []
theorem agT(h:af (Eo C c a A b d e k l E [.b (b==7) true,.b (decide (a>d)) false,.b (e != 5) true,.b (e != 6) false,.u c])):
 aT (ap Tryz.f121 1) (i' d A i j b f g C c) .normal (i' d A i j b f g C (c+1)):=
 h.aQ [5,4,1,3] [4,1]
theorem agU(h:af (Eo C c a A b d g k l E [.b (b==7) true,.b (decide (a>d)) false,.b (g != 5) false,.u c])):
 aT (ap Tryz.f121 1) (i' d A i j b e f C c) .normal (i' d A i j b e f C (c+1)):=
 h.aQ [5,4,1,3] [4,1]
theorem agV(h:af (Eo C b c A a d j k l E [.b (a==7) false,.u b])):
 aT (ap Tryz.f121 1) (i' d A g i a e f C b) .normal (i' d A g i a e f C (b+1)):=
 h.aQ [5,4,1,3] [4,1]
def Ep(A:ah)(a b:Int)(C:ah)(c d e f:Int)(E:ah)(l:List O):List O:=IU A a b C (.b (c != 7) false::.x C b (bj d e f E)::l)
theorem agW(h:af (Ep C c a A b g i j E [.b (b==7) true,.b (decide (a>d)) true])):
 aT (ap Tryz.f121 1) (i' d A k l b e f C c) .ret (s5 false):=
 h.aQ [2] []
theorem agX(h:af (Ep C d a A b c i j E [.b (b==7) true,.b (decide (a>e)) false,.b (c != 5) true,.b (c != 6) true])):
 aT (ap Tryz.f121 1) (i' e A k l b f g C d) .ret (s5 false):=
 h.aQ [2] []
theorem agY(h:af (Ep C b c A a d k l E [.b (a==7) true,.b (decide (c>e)) false,.b (d != 5) true,.b (d != 6) false,.u b])):
 aT (ap Tryz.f121 1) (i' e A i j a f g C b) .normal (i' e A i j a f g C (b+1)):=
 h.aQ [5,4,1,3] [4,1]
theorem agZ(h:af (Ep C b c A a g k l E [.b (a==7) true,.b (decide (c>d)) false,.b (g != 5) false,.u b])):
 aT (ap Tryz.f121 1) (i' d A i j a e f C b) .normal (i' d A i j a e f C (b+1)):=
 h.aQ [5,4,1,3] [4,1]
theorem ag0(h:af (Ep C b c A a j k l E [.b (a==7) false,.u b])):
 aT (ap Tryz.f121 1) (i' f A g i a d e C b) .normal (i' f A g i a d e C (b+1)):=
 h.aQ [5,4,1,3] [4,1]
def NT(a:Int)(A:ah)(b c:Int):aD:=ba 97 [(1,a1 1),(3,aY a)] [(1,[.J .free 4 A,az b,az c])]
theorem ag1(h:af [.f A a false]):
 aT (ap Tryz.f121 1) (i' b C c d e f g A a) (.exit 2) (NT b C c d):=
 h.aQ [3,1] [1]
theorem ag2(h:af (IZ C b a c d A q [.n q false,.b (!(a==1)==(b==0)) false,.l [] [5,4,1,3] [4,1] (ap Tryz.f121 1) (i' b C e f a c d A 0) .ret (s5 r)])):
 aT (ap Tryz.f121 0) (pO b C e f) .ret (x0 r):=
 h.aQ [2] []
theorem ag3(h:af (IZ A a b e f C q [.n q false,.b (!(b==1)==(a==0)) false,.l [] [5,4,1,3] [4,1] (ap Tryz.f121 1) (i' a A c d b e f C 0) (.exit 2) (NT a A c d),.u a])):
 aT (ap Tryz.f121 0) (pO a A c d) .normal (pO (a+1) A c d):=
 h.aQ [3,1] [1]
def NU:aD:=ba 97 [] []
theorem ag4(h:af [.f A a false]):
 aT (ap Tryz.f121 0) (pO a A b c) (.exit 0) NU:=
 h.aQ [] []
theorem ag5(h:af (IY A q a r [.n r false,.r 168 [ag b,ag 1,ag 4] [ak s],.n s false,.l [] [3,1] [1] (ap Tryz.f121 0) (pO 0 A a b) .ret (x0 t)])):
 av 121 [.agg (bg A a b)] [ak t]:=
 h.of
theorem agf(h:af (IY A q a r [.n r false,.r 168 [ag b,ag 1,ag 4] [ak s],.n s false,.l [] [3,1] [1] (ap Tryz.f121 0) (pO 0 A a b) (.exit 0) NU])):
 av 121 [.agg (bg A a b)] [ak true]:=
 h.of
def aaf(A:ah)(q:Bool)(l:List O):List O:=.r 190 [ag (A.length:Int),ag 1,ag 8] [ak q]::l
theorem agh(h:af (aaf A q [.n q true])):
 av 179 [.agg (bg A a b)] [ak false]:=
 h.of
def IV(A:ah)(q:Bool)(a:Int)(r:Bool)(l:List O):List O:=aaf A q (.n q false::.r 190 [ag a,ag 1,ag 4] [ak r]::l)
theorem agi(h:af (IV A q a r [.n r true])):
 av 179 [.agg (bg A a b)] [ak false]:=
 h.of
theorem agj(h:af (IV A q a r [.n r false,.r 190 [ag b,ag 1,ag 4] [ak s],.n s true])):
 av 179 [.agg (bg A a b)] [ak false]:=
 h.of
def pP(A:ah)(a:Int)(C:ah)(b c:Int):aD:=ba 90 [(1,a1 1),(26,c6 4 A),(27,aY (A.length:Int)),(28,aY a)] [(1,[.J .free 4 C,az b,az c])]
def x1(q:Bool):aD:=ba 90 [(2,.aR (.one (.bR q)))] []
def IT(A:ah)(a b c d:Int)(C:ah)(q:Bool)(l:List O):List O:=.i A a (bj b c d C)::.r 273 [.agg (bj b c d C)] [ak q]::l
theorem agk(h:af (IT A d a b c C q [.n q true])):
 aT (ap Tryz.f179 0) (pP A d E e f) .ret (x1 false):=
 h.aQ [2] []
theorem agl(h:af (IT A b a c d C q [.n q false,.b (!(a==1)==(b==0)) true])):
 aT (ap Tryz.f179 0) (pP A b E e f) .ret (x1 false):=
 h.aQ [2] []
def ja(C:ah)(a:Int)(E:ah)(b c d e f:Int)(A:ah)(g:Int):aD:=ba 90 [(1,a1 1),(3,aY a),(4,a1 4),(26,c6 4 C),(27,aY (C.length:Int)),(28,aY a),(45,c6 1 A),(46,aY (A.length:Int)),(47,aY g)] [(4,[az d,az e,az f,.J .free 1 A]),(1,[.J .free 4 E,az b,az c])]
def s6(q:Bool):aD:=ba 90 [(2,.aR (.one (.bR q)))] []
theorem agm(h:af [.i A a [I b],.b (decide (b>=(C.length:Int))) true]):
 aT (ap Tryz.f179 1) (ja E f C g i c d e A a) .ret (s6 false):=
 h.aQ [2] []
def Er(A:ah)(a b:Int)(C:ah)(c d e:Int)(E:ah)(l:List O):List O:=IU A a b C (.x C b (bj c d e E)::l)
theorem agn(h:af (Er C c a A g i j F [.b (b==7) true,.b (decide (a>d)) true])):
 aT (ap Tryz.f179 1) (ja E d A k l b e f C c) .ret (s6 false):=
 h.aQ [2] []
def yW(A:ah)(a b:Int)(C:ah)(c d e:Int)(E:ah)(f g:Int)(l:List O):List O:=Er A a b C c d e E (.b (f==7) true::.b (decide (b>g)) false::l)
theorem ago(h:af (yW C d a A b i j F c e [.b (b != 5) true,.b (b != 6) true])):
 aT (ap Tryz.f179 1) (ja E e A k l c f g C d) .ret (s6 false):=
 h.aQ [2] []
theorem agp(h:af (yW C e a A c i j F b d [.b (c != 5) true,.b (c != 6) false,.b (b != 7) true,.b (decide (a<=d)) true])):
 aT (ap Tryz.f179 1) (ja E d A k l b f g C e) .ret (s6 false):=
 h.aQ [2] []
theorem agq(h:af (yW C c a A e k l F b d [.b (e != 5) true,.b (e != 6) false,.b (b != 7) true,.b (decide (a<=d)) false,.u c])):
 aT (ap Tryz.f179 1) (ja E d A i j b f g C c) .normal (ja E d A i j b f g C (c+1)):=
 h.aQ [47,46,45,1,4,3,28,27,26] [4,1]
theorem agr(h:af (yW C b c A d k l F a e [.b (d != 5) true,.b (d != 6) false,.b (a != 7) false,.u b])):
 aT (ap Tryz.f179 1) (ja E e A i j a f g C b) .normal (ja E e A i j a f g C (b+1)):=
 h.aQ [47,46,45,1,4,3,28,27,26] [4,1]
theorem ags(h:af (yW C d a A e i j F b c [.b (e != 5) false,.b (b != 7) true,.b (decide (a<=c)) true])):
 aT (ap Tryz.f179 1) (ja E c A k l b f g C d) .ret (s6 false):=
 h.aQ [2] []
theorem agt(h:af (yW C c a A g k l F b d [.b (g != 5) false,.b (b != 7) true,.b (decide (a<=d)) false,.u c])):
 aT (ap Tryz.f179 1) (ja E d A i j b e f C c) .normal (ja E d A i j b e f C (c+1)):=
 h.aQ [47,46,45,1,4,3,28,27,26] [4,1]
theorem agu(h:af (yW C b c A g k l F a d [.b (g != 5) false,.b (a != 7) false,.u b])):
 aT (ap Tryz.f179 1) (ja E d A i j a e f C b) .normal (ja E d A i j a e f C (b+1)):=
 h.aQ [47,46,45,1,4,3,28,27,26] [4,1]
theorem agv(h:af (Er C c a A g i j F [.b (b==7) false,.b (b != 7) true,.b (decide (a<=d)) true])):
 aT (ap Tryz.f179 1) (ja E d A k l b e f C c) .ret (s6 false):=
 h.aQ [2] []
theorem agw(h:af (Er C b c A j k l F [.b (a==7) false,.b (a != 7) true,.b (decide (c<=d)) false,.u b])):
 aT (ap Tryz.f179 1) (ja E d A g i a e f C b) .normal (ja E d A g i a e f C (b+1)):=
 h.aQ [47,46,45,1,4,3,28,27,26] [4,1]
theorem agx(h:af (Er C b c A j k l F [.b (a==7) false,.b (a != 7) false,.u b])):
 aT (ap Tryz.f179 1) (ja E f A g i a d e C b) .normal (ja E f A g i a d e C (b+1)):=
 h.aQ [47,46,45,1,4,3,28,27,26] [4,1]
def NV(A:ah)(a:Int)(C:ah)(b c:Int):aD:=ba 90 [(1,a1 1),(26,c6 4 A),(27,aY (A.length:Int)),(28,aY a)] [(1,[.J .free 4 C,az b,az c])]
theorem agy(h:af [.f C a false]):
 aT (ap Tryz.f179 1) (ja A b E c d e f g C a) (.exit 2) (NV A b E c d):=
 h.aQ [28,27,26,1] [1]
theorem agz(h:af (IT A b a c d C q [.n q false,.b (!(a==1)==(b==0)) false,.l [] [47,46,45,1,4,3,28,27,26] [4,1] (ap Tryz.f179 1) (ja A b E e f a c d C 0) .ret (s6 r)])):
 aT (ap Tryz.f179 0) (pP A b E e f) .ret (x1 r):=
 h.aQ [2] []
theorem agA(h:af (IT A a b e f E q [.n q false,.b (!(b==1)==(a==0)) false,.l [] [47,46,45,1,4,3,28,27,26] [4,1] (ap Tryz.f179 1) (ja A a C c d b e f E 0) (.exit 2) (NV A a C c d),.u a])):
 aT (ap Tryz.f179 0) (pP A a C c d) .normal (pP A (a+1) C c d):=
 h.aQ [28,27,26,1] [1]
def NW:aD:=ba 90 [] []
theorem agB(h:af [.f A a false]):
 aT (ap Tryz.f179 0) (pP A a C b c) (.exit 0) NW:=
 h.aQ [] []
theorem agC(h:af (IV A q a r [.n r false,.r 190 [ag b,ag 1,ag 4] [ak s],.n s false,.l [] [28,27,26,1] [1] (ap Tryz.f179 0) (pP A 0 A a b) .ret (x1 t)])):
 av 179 [.agg (bg A a b)] [ak t]:=
 h.of
theorem agD(h:af (IV A q a r [.n r false,.r 190 [ag b,ag 1,ag 4] [ak s],.n s false,.l [] [28,27,26,1] [1] (ap Tryz.f179 0) (pP A 0 A a b) (.exit 0) NW])):
 av 179 [.agg (bg A a b)] [ak true]:=
 h.of
def Qn(a:Int)(q:Bool)(b c:Int)(r:Bool)(l:List O):List O:=.r 168 [ag a,ag 0,ag 7] [ak q]::.b q true::.r 244 [.agg [I b,I c]] [ak r]::l
theorem agE(h:af (Qn a q b c r [.b r true,.r 168 [ag d,ag 0,ag 99] [ak s],.b s true,.r 168 [ag e,ag 0,ag 999] [ak t]])):
 av 122 [.agg (bz a b c d e)] [ak t]:=
 h.of
theorem agF(h:af (Qn a q b c r [.b r true,.r 168 [ag d,ag 0,ag 99] [ak s],.b s false])):
 av 122 [.agg (bz a b c d e)] [ak false]:=
 h.of
theorem af5(h:af (Qn a q b c r [.b r false])):
 av 122 [.agg (bz a b c d e)] [ak false]:=
 h.of
theorem af6(h:af [.r 168 [ag a,ag 0,ag 7] [ak q],.b q false]):
 av 122 [.agg (bz a b c d e)] [ak false]:=
 h.of
theorem af7(h:af [.r 190 [ag a,ag 0,ag 7] [ak q],.b q true,.r 274 [.agg [I b,I c]] [ak r],.b r true,.r 275 [ag d,ag e] [ak s]]):
 av 180 [.agg (bz a b c d e)] [ak s]:=
 h.of
theorem af8(h:af [.r 190 [ag a,ag 0,ag 7] [ak q],.b q true,.r 274 [.agg [I b,I c]] [ak r],.b r false]):
 av 180 [.agg (bz a b c d e)] [ak false]:=
 h.of
theorem af9(h:af [.r 190 [ag a,ag 0,ag 7] [ak q],.b q false]):
 av 180 [.agg (bz a b c d e)] [ak false]:=
 h.of
theorem aga(h:af [.r 168 [ag a,ag 0,ag 3] [ak q],.b q true,.r 168 [ag b,ag 0,ag 6] [ak r]]):
 av 244 [.agg [I a,I b]] [ak r]:=
 h.of
theorem agb(h:af [.r 168 [ag a,ag 0,ag 3] [ak q],.b q false]):
 av 244 [.agg [I a,I b]] [ak false]:=
 h.of
theorem agc(h:af [.r 190 [ag a,ag 0,ag 3] [ak q],.b q true,.r 190 [ag b,ag 0,ag 6] [ak r]]):
 av 274 [.agg [I a,I b]] [ak r]:=
 h.of
theorem agd(h:af [.r 190 [ag a,ag 0,ag 3] [ak q],.b q false]):
 av 274 [.agg [I a,I b]] [ak false]:=
 h.of
theorem age(h:af [.r 244 [.agg [I a,I b]] [ak q],.n q true]):
 av 270 [.agg [I a,I b]] [.agg [I a,I b],ak false]:=
 h.of
theorem ahG(h:af [.r 244 [.agg [I b,I a]] [ak q],.n q false,.b (decide (a>=6)) true]):
 av 270 [.agg [I b,I a]] [.agg [I b,I a],ak false]:=
 h.of
theorem ahH(h:af [.r 244 [.agg [I b,I a]] [ak q],.n q false,.b (decide (a>=6)) false,.u a]):
 av 270 [.agg [I b,I a]] [.agg [I b,I (a+1)],ak true]:=
 h.of
theorem ahI(h:af [.r 274 [.agg [I a,I b]] [ak q],.n q true]):
 av 300 [.agg [I a,I b]] [.agg [I a,I b],ak false]:=
 h.of
theorem ahJ(h:af [.r 274 [.agg [I b,I a]] [ak q],.n q false,.b (a==6) true]):
 av 300 [.agg [I b,I a]] [.agg [I b,I a],ak false]:=
 h.of
theorem ahK(h:af [.r 274 [.agg [I b,I a]] [ak q],.n q false,.b (a==6) false,.u a]):
 av 300 [.agg [I b,I a]] [.agg [I b,I (a+1)],ak true]:=
 h.of
def aag(a b c:Int)(A:ah)(q:Bool)(l:List O):List O:=.r 243 [.agg (bj a b c A)] [ak q]::l
theorem ahL(h:af (aag a b c A q [.n q true])):
 av 267 [.agg (bj a b c A),ag d,ag e] [ag d,ag e,ak false]:=
 h.of
def aah(a b c:Int)(A:ah)(q:Bool)(d:Int)(r:Bool)(l:List O):List O:=aag a b c A q (.n q false::.r 168 [ag d,ag 0,ag 99] [ak r]::l)
theorem ahM(h:af (aah b c d A q a r [.n r true])):
 av 267 [.agg (bj b c d A),ag a,ag e] [ag a,ag e,ak false]:=
 h.of
def Es(a b c:Int)(A:ah)(q:Bool)(d:Int)(r:Bool)(e:Int)(s:Bool)(l:List O):List O:=aah a b c A q d r (.n r false::.r 168 [ag e,ag 0,ag 999] [ak s]::l)
theorem ahN(h:af (Es c d e A q a r b s [.n s true])):
 av 267 [.agg (bj c d e A),ag a,ag b] [ag a,ag b,ak false]:=
 h.of
theorem ahO(h:af (Es c a e A q d r b s [.n s false,.b (c==2) true,.v (b+a),.r 323 [ag (b+a),ag 999] [ag f]])):
 av 267 [.agg (bj c a e A),ag d,ag b] [ag d,ag f,ak true]:=
 h.of
theorem ahP(h:af (Es a b e A q c r d s [.n s false,.b (a==2) false,.b (a==4) true,.v (c+b),.p ((100:Int)≠0)])):
 av 267 [.agg (bj a b e A),ag c,ag d] [ag ((c+b).tmod 100),ag d,ak true]:=
 h.of
theorem ahQ(h:af (Es a b d A q c r e s [.n s false,.b (a==2) false,.b (a==4) false,.b (a==3) true,.p (b≠0)])):
 av 267 [.agg (bj a b d A),ag c,ag e] [ag c,ag e,ak (c.tmod b==d)]:=
 h.of
theorem ahR(h:af (Es a d e A q b r c s [.n s false,.b (a==2) false,.b (a==4) false,.b (a==3) false])):
 av 267 [.agg (bj a d e A),ag b,ag c] [ag b,ag c,ak (a != 8)]:=
 h.of
def aai(a b c:Int)(A:ah)(q:Bool)(l:List O):List O:=.r 273 [.agg (bj a b c A)] [ak q]::l
theorem ahS(h:af (aai a b c A q [.n q true])):
 av 298 [.agg (bj a b c A),ag d,ag e] [ag d,ag e,ak false]:=
 h.of
def Et(a b c:Int)(A:ah)(q:Bool)(d e:Int)(r:Bool)(l:List O):List O:=aai a b c A q (.n q false::.r 275 [ag d,ag e] [ak r]::l)
theorem ahT(h:af (Et c d e A q a b r [.n r true])):
 av 298 [.agg (bj c d e A),ag a,ag b] [ag a,ag b,ak false]:=
 h.of
theorem ahU(h:af (Et c a e A q d b r [.n r false,.b (c==2) true,.v (b+a)])):
 av 298 [.agg (bj c a e A),ag d,ag b] [ag d,ag (if b+a<999 then b+a else 999),ak true]:=
 h.of
theorem ahV(h:af (Et a b e A q c d r [.n r false,.b (a==2) false,.b (a==4) true,.v (c+b),.p ((100:Int)≠0)])):
 av 298 [.agg (bj a b e A),ag c,ag d] [ag ((c+b).tmod 100),ag d,ak true]:=
 h.of
theorem ahW(h:af (Et a b d A q c e r [.n r false,.b (a==2) false,.b (a==4) false,.b (a==3) true,.p (b≠0)])):
 av 298 [.agg (bj a b d A),ag c,ag e] [ag c,ag e,ak (c.tmod b==d)]:=
 h.of
theorem ahX(h:af (Et a d e A q b c r [.n r false,.b (a==2) false,.b (a==4) false,.b (a==3) false])):
 av 298 [.agg (bj a d e A),ag b,ag c] [ag b,ag c,ak (a != 8)]:=
 h.of
theorem ahY(h:af [.b (decide (a<b)) true]):
 av 323 [ag b,ag a] [ag a]:=
 h.of
theorem ahZ(h:af [.b (decide (b<a)) false]):
 av 323 [ag a,ag b] [ag a]:=
 h.of
theorem ah0(h:af [.r 190 [ag a,ag 0,ag 99] [ak q],.b q true,.r 190 [ag b,ag 0,ag 999] [ak r]]):
 av 275 [ag a,ag b] [ak r]:=
 h.of
theorem ah1(h:af [.r 190 [ag a,ag 0,ag 99] [ak q],.b q false]):
 av 275 [ag a,ag b] [ak false]:=
 h.of
