import Derived.Test.YtdchjefneblpgaaGreatGE
namespace Go.Proofs.YtdchjefneblpgaaGreat
open Go.Sx Go.RowKit
variable {a b c d e f g i j k l : Int} {A C E F : ae} {q r s t : Bool}
def Ul(A:ae)(q:Bool)(l:List O):List O:=.r 168 [af (A.length:Int),af 1,af 8] [ak q]::l
theorem apA(h:ad (Ul A q [.n q true])):
av 121 [.agg (bq A a b)] [ak false]:=
h.of
def EA(A:ae)(q:Bool)(a:Int)(r:Bool)(l:List O):List O:=Ul A q (.n q false::.r 168 [af a,af 1,af 4] [ak r]::l)
theorem apB(h:ad (EA A q a r [.n r true])):
av 121 [.agg (bq A a b)] [ak false]:=
h.of
theorem apC(h:ad (EA A q a r [.n r false,.r 168 [af b,af 1,af 4] [ak s],.n s true])):
av 121 [.agg (bq A a b)] [ak false]:=
h.of
def nT(a:Int)(A:ae)(b c:Int):aI:=bg 97 [(1,aQ 1),(3,aY a)] [(1,[.J .free 4 A,ax b,ax c])]
def va(q:Bool):aI:=bg 97 [(2,.aK (.one (.ba q)))] []
def EB(A:ae)(a b c d:Int)(C:ae)(q:Bool)(l:List O):List O:=.i A a (bj b c d C)::.r 243 [.agg (bj b c d C)] [ak q]::l
theorem aoM(h:ad (EB C d a b c A q [.n q true])):
a7 (aq Tryz.f121 0) (nT d C e f) .ret (va false):=
h.aX [2] []
theorem aoN(h:ad (EB C b a c d A q [.n q false,.b (!(a==1)==(b==0)) true])):
a7 (aq Tryz.f121 0) (nT b C e f) .ret (va false):=
h.aX [2] []
def hS(a:Int)(A:ae)(b c d e f:Int)(C:ae)(g:Int):aI:=bg 97 [(1,aQ 1),(3,aY a),(4,aQ 4),(5,aY g)] [(4,[ax d,ax e,ax f,.J .free 1 C]),(1,[.J .free 4 A,ax b,ax c])]
def qz(q:Bool):aI:=bg 97 [(2,.aK (.one (.ba q)))] []
theorem aoO(h:ad [.i A a [I b],.b (decide (b>=(C.length:Int))) true]):
a7 (aq Tryz.f121 1) (hS f C g i c d e A a) .ret (qz false):=
h.aX [2] []
def ED(A:ae)(a b:Int)(C:ae)(l:List O):List O:=.i A a [I b]::.b (decide (b>=(C.length:Int))) false::l
theorem aoP(h:ad (ED A c a C [.b (b != 7) true,.b (decide (a<=d)) true])):
a7 (aq Tryz.f121 1) (hS d C g i b e f A c) .ret (qz false):=
h.aX [2] []
def AS(A:ae)(a b:Int)(C:ae)(c d e f g:Int)(E:ae)(l:List O):List O:=ED A a b C (.b (c != 7) true::.b (decide (b<=d)) false::.x C b (bj e f g E)::l)
theorem aoQ(h:ad (AS C d a A b c g i j E [.b (b==7) true,.b (decide (a>c)) true])):
a7 (aq Tryz.f121 1) (hS c A k l b e f C d) .ret (qz false):=
h.aX [2] []
theorem aoR(h:ad (AS C e a A b d c i j E [.b (b==7) true,.b (decide (a>d)) false,.b (c != 5) true,.b (c != 6) true])):
a7 (aq Tryz.f121 1) (hS d A k l b f g C e) .ret (qz false):=
h.aX [2] []
theorem aoS(h:ad (AS C c a A b d e k l E [.b (b==7) true,.b (decide (a>d)) false,.b (e != 5) true,.b (e != 6) false,.u c])):
a7 (aq Tryz.f121 1) (hS d A i j b f g C c) .normal (hS d A i j b f g C (c+1)):=
h.aX [5,4,1,3] [4,1]
theorem aoT(h:ad (AS C c a A b d g k l E [.b (b==7) true,.b (decide (a>d)) false,.b (g != 5) false,.u c])):
a7 (aq Tryz.f121 1) (hS d A i j b e f C c) .normal (hS d A i j b e f C (c+1)):=
h.aX [5,4,1,3] [4,1]
theorem aoU(h:ad (AS C b c A a d j k l E [.b (a==7) false,.u b])):
a7 (aq Tryz.f121 1) (hS d A g i a e f C b) .normal (hS d A g i a e f C (b+1)):=
h.aX [5,4,1,3] [4,1]
def AT(A:ae)(a b:Int)(C:ae)(c d e f:Int)(E:ae)(l:List O):List O:=ED A a b C (.b (c != 7) false::.x C b (bj d e f E)::l)
theorem aoV(h:ad (AT C c a A b g i j E [.b (b==7) true,.b (decide (a>d)) true])):
a7 (aq Tryz.f121 1) (hS d A k l b e f C c) .ret (qz false):=
h.aX [2] []
theorem aoW(h:ad (AT C d a A b c i j E [.b (b==7) true,.b (decide (a>e)) false,.b (c != 5) true,.b (c != 6) true])):
a7 (aq Tryz.f121 1) (hS e A k l b f g C d) .ret (qz false):=
h.aX [2] []
theorem aoX(h:ad (AT C b c A a d k l E [.b (a==7) true,.b (decide (c>e)) false,.b (d != 5) true,.b (d != 6) false,.u b])):
a7 (aq Tryz.f121 1) (hS e A i j a f g C b) .normal (hS e A i j a f g C (b+1)):=
h.aX [5,4,1,3] [4,1]
theorem aoY(h:ad (AT C b c A a g k l E [.b (a==7) true,.b (decide (c>d)) false,.b (g != 5) false,.u b])):
a7 (aq Tryz.f121 1) (hS d A i j a e f C b) .normal (hS d A i j a e f C (b+1)):=
h.aX [5,4,1,3] [4,1]
theorem aoZ(h:ad (AT C b c A a j k l E [.b (a==7) false,.u b])):
a7 (aq Tryz.f121 1) (hS f A g i a d e C b) .normal (hS f A g i a d e C (b+1)):=
h.aX [5,4,1,3] [4,1]
def Kt(a:Int)(A:ae)(b c:Int):aI:=bg 97 [(1,aQ 1),(3,aY a)] [(1,[.J .free 4 A,ax b,ax c])]
theorem ao0(h:ad [.f A a false]):
a7 (aq Tryz.f121 1) (hS b C c d e f g A a) (.exit 2) (Kt b C c d):=
h.aX [3,1] [1]
theorem ao1(h:ad (EB C b a c d A q [.n q false,.b (!(a==1)==(b==0)) false,.l [] [5,4,1,3] [4,1] (aq Tryz.f121 1) (hS b C e f a c d A 0) .ret (qz r)])):
a7 (aq Tryz.f121 0) (nT b C e f) .ret (va r):=
h.aX [2] []
theorem ao2(h:ad (EB A a b e f C q [.n q false,.b (!(b==1)==(a==0)) false,.l [] [5,4,1,3] [4,1] (aq Tryz.f121 1) (hS a A c d b e f C 0) (.exit 2) (Kt a A c d),.u a])):
a7 (aq Tryz.f121 0) (nT a A c d) .normal (nT (a+1) A c d):=
h.aX [3,1] [1]
def Ku:aI:=bg 97 [] []
theorem ao3(h:ad [.f A a false]):
a7 (aq Tryz.f121 0) (nT a A b c) (.exit 0) Ku:=
h.aX [] []
theorem ao4(h:ad (EA A q a r [.n r false,.r 168 [af b,af 1,af 4] [ak s],.n s false,.l [] [3,1] [1] (aq Tryz.f121 0) (nT 0 A a b) .ret (va t)])):
av 121 [.agg (bq A a b)] [ak t]:=
h.of
theorem ao5(h:ad (EA A q a r [.n r false,.r 168 [af b,af 1,af 4] [ak s],.n s false,.l [] [3,1] [1] (aq Tryz.f121 0) (nT 0 A a b) (.exit 0) Ku])):
av 121 [.agg (bq A a b)] [ak true]:=
h.of
def Um(A:ae)(q:Bool)(l:List O):List O:=.r 190 [af (A.length:Int),af 1,af 8] [ak q]::l
theorem ao6(h:ad (Um A q [.n q true])):
av 179 [.agg (bq A a b)] [ak false]:=
h.of
def EE(A:ae)(q:Bool)(a:Int)(r:Bool)(l:List O):List O:=Um A q (.n q false::.r 190 [af a,af 1,af 4] [ak r]::l)
theorem ao7(h:ad (EE A q a r [.n r true])):
av 179 [.agg (bq A a b)] [ak false]:=
h.of
theorem ao8(h:ad (EE A q a r [.n r false,.r 190 [af b,af 1,af 4] [ak s],.n s true])):
av 179 [.agg (bq A a b)] [ak false]:=
h.of
def nU(A:ae)(a:Int)(C:ae)(b c:Int):aI:=bg 90 [(1,aQ 1),(26,dw 4 A),(27,aY (A.length:Int)),(28,aY a)] [(1,[.J .free 4 C,ax b,ax c])]
def vb(q:Bool):aI:=bg 90 [(2,.aK (.one (.ba q)))] []
def EC(A:ae)(a b c d:Int)(C:ae)(q:Bool)(l:List O):List O:=.i A a (bj b c d C)::.r 273 [.agg (bj b c d C)] [ak q]::l
theorem ao9(h:ad (EC A d a b c C q [.n q true])):
a7 (aq Tryz.f179 0) (nU A d E e f) .ret (vb false):=
h.aX [2] []
theorem apa(h:ad (EC A b a c d C q [.n q false,.b (!(a==1)==(b==0)) true])):
a7 (aq Tryz.f179 0) (nU A b E e f) .ret (vb false):=
h.aX [2] []
def hT(C:ae)(a:Int)(E:ae)(b c d e f:Int)(A:ae)(g:Int):aI:=bg 90 [(1,aQ 1),(3,aY a),(4,aQ 4),(26,dw 4 C),(27,aY (C.length:Int)),(28,aY a),(45,dw 1 A),(46,aY (A.length:Int)),(47,aY g)] [(4,[ax d,ax e,ax f,.J .free 1 A]),(1,[.J .free 4 E,ax b,ax c])]
def qA(q:Bool):aI:=bg 90 [(2,.aK (.one (.ba q)))] []
theorem apb(h:ad [.i A a [I b],.b (decide (b>=(C.length:Int))) true]):
a7 (aq Tryz.f179 1) (hT E f C g i c d e A a) .ret (qA false):=
h.aX [2] []
def AU(A:ae)(a b:Int)(C:ae)(c d e:Int)(E:ae)(l:List O):List O:=ED A a b C (.x C b (bj c d e E)::l)
theorem aoC(h:ad (AU C c a A g i j F [.b (b==7) true,.b (decide (a>d)) true])):
a7 (aq Tryz.f179 1) (hT E d A k l b e f C c) .ret (qA false):=
h.aX [2] []
def vU(A:ae)(a b:Int)(C:ae)(c d e:Int)(E:ae)(f g:Int)(l:List O):List O:=AU A a b C c d e E (.b (f==7) true::.b (decide (b>g)) false::l)
theorem aoD(h:ad (vU C d a A b i j F c e [.b (b != 5) true,.b (b != 6) true])):
a7 (aq Tryz.f179 1) (hT E e A k l c f g C d) .ret (qA false):=
h.aX [2] []
theorem aoE(h:ad (vU C e a A c i j F b d [.b (c != 5) true,.b (c != 6) false,.b (b != 7) true,.b (decide (a<=d)) true])):
a7 (aq Tryz.f179 1) (hT E d A k l b f g C e) .ret (qA false):=
h.aX [2] []
theorem aoF(h:ad (vU C c a A e k l F b d [.b (e != 5) true,.b (e != 6) false,.b (b != 7) true,.b (decide (a<=d)) false,.u c])):
a7 (aq Tryz.f179 1) (hT E d A i j b f g C c) .normal (hT E d A i j b f g C (c+1)):=
h.aX [47,46,45,1,4,3,28,27,26] [4,1]
theorem aoG(h:ad (vU C b c A d k l F a e [.b (d != 5) true,.b (d != 6) false,.b (a != 7) false,.u b])):
a7 (aq Tryz.f179 1) (hT E e A i j a f g C b) .normal (hT E e A i j a f g C (b+1)):=
h.aX [47,46,45,1,4,3,28,27,26] [4,1]
theorem aoH(h:ad (vU C d a A e i j F b c [.b (e != 5) false,.b (b != 7) true,.b (decide (a<=c)) true])):
a7 (aq Tryz.f179 1) (hT E c A k l b f g C d) .ret (qA false):=
h.aX [2] []
theorem aoI(h:ad (vU C c a A g k l F b d [.b (g != 5) false,.b (b != 7) true,.b (decide (a<=d)) false,.u c])):
a7 (aq Tryz.f179 1) (hT E d A i j b e f C c) .normal (hT E d A i j b e f C (c+1)):=
h.aX [47,46,45,1,4,3,28,27,26] [4,1]
theorem aoJ(h:ad (vU C b c A g k l F a d [.b (g != 5) false,.b (a != 7) false,.u b])):
a7 (aq Tryz.f179 1) (hT E d A i j a e f C b) .normal (hT E d A i j a e f C (b+1)):=
h.aX [47,46,45,1,4,3,28,27,26] [4,1]
theorem aoK(h:ad (AU C c a A g i j F [.b (b==7) false,.b (b != 7) true,.b (decide (a<=d)) true])):
a7 (aq Tryz.f179 1) (hT E d A k l b e f C c) .ret (qA false):=
h.aX [2] []
theorem aoL(h:ad (AU C b c A j k l F [.b (a==7) false,.b (a != 7) true,.b (decide (c<=d)) false,.u b])):
a7 (aq Tryz.f179 1) (hT E d A g i a e f C b) .normal (hT E d A g i a e f C (b+1)):=
h.aX [47,46,45,1,4,3,28,27,26] [4,1]
theorem aqd(h:ad (AU C b c A j k l F [.b (a==7) false,.b (a != 7) false,.u b])):
a7 (aq Tryz.f179 1) (hT E f A g i a d e C b) .normal (hT E f A g i a d e C (b+1)):=
h.aX [47,46,45,1,4,3,28,27,26] [4,1]
def Kv(A:ae)(a:Int)(C:ae)(b c:Int):aI:=bg 90 [(1,aQ 1),(26,dw 4 A),(27,aY (A.length:Int)),(28,aY a)] [(1,[.J .free 4 C,ax b,ax c])]
theorem aqe(h:ad [.f C a false]):
a7 (aq Tryz.f179 1) (hT A b E c d e f g C a) (.exit 2) (Kv A b E c d):=
h.aX [28,27,26,1] [1]
theorem aqf(h:ad (EC A b a c d C q [.n q false,.b (!(a==1)==(b==0)) false,.l [] [47,46,45,1,4,3,28,27,26] [4,1] (aq Tryz.f179 1) (hT A b E e f a c d C 0) .ret (qA r)])):
a7 (aq Tryz.f179 0) (nU A b E e f) .ret (vb r):=
h.aX [2] []
theorem aqg(h:ad (EC A a b e f E q [.n q false,.b (!(b==1)==(a==0)) false,.l [] [47,46,45,1,4,3,28,27,26] [4,1] (aq Tryz.f179 1) (hT A a C c d b e f E 0) (.exit 2) (Kv A a C c d),.u a])):
a7 (aq Tryz.f179 0) (nU A a C c d) .normal (nU A (a+1) C c d):=
h.aX [28,27,26,1] [1]
def Kw:aI:=bg 90 [] []
theorem aqh(h:ad [.f A a false]):
a7 (aq Tryz.f179 0) (nU A a C b c) (.exit 0) Kw:=
h.aX [] []
theorem aqi(h:ad (EE A q a r [.n r false,.r 190 [af b,af 1,af 4] [ak s],.n s false,.l [] [28,27,26,1] [1] (aq Tryz.f179 0) (nU A 0 A a b) .ret (vb t)])):
av 179 [.agg (bq A a b)] [ak t]:=
h.of
theorem aqj(h:ad (EE A q a r [.n r false,.r 190 [af b,af 1,af 4] [ak s],.n s false,.l [] [28,27,26,1] [1] (aq Tryz.f179 0) (nU A 0 A a b) (.exit 0) Kw])):
av 179 [.agg (bq A a b)] [ak true]:=
h.of
def LI(a:Int)(q:Bool)(b c:Int)(r:Bool)(l:List O):List O:=.r 168 [af a,af 0,af 7] [ak q]::.b q true::.r 244 [.agg [I b,I c]] [ak r]::l
theorem aqk(h:ad (LI a q b c r [.b r true,.r 168 [af d,af 0,af 99] [ak s],.b s true,.r 168 [af e,af 0,af 999] [ak t]])):
av 122 [.agg (bn a b c d e)] [ak t]:=
h.of
theorem aql(h:ad (LI a q b c r [.b r true,.r 168 [af d,af 0,af 99] [ak s],.b s false])):
av 122 [.agg (bn a b c d e)] [ak false]:=
h.of
theorem aqm(h:ad (LI a q b c r [.b r false])):
av 122 [.agg (bn a b c d e)] [ak false]:=
h.of
theorem aqn(h:ad [.r 168 [af a,af 0,af 7] [ak q],.b q false]):
av 122 [.agg (bn a b c d e)] [ak false]:=
h.of
theorem aqo(h:ad [.r 190 [af a,af 0,af 7] [ak q],.b q true,.r 274 [.agg [I b,I c]] [ak r],.b r true,.r 275 [af d,af e] [ak s]]):
av 180 [.agg (bn a b c d e)] [ak s]:=
h.of
theorem aqp(h:ad [.r 190 [af a,af 0,af 7] [ak q],.b q true,.r 274 [.agg [I b,I c]] [ak r],.b r false]):
av 180 [.agg (bn a b c d e)] [ak false]:=
h.of
theorem aqq(h:ad [.r 190 [af a,af 0,af 7] [ak q],.b q false]):
av 180 [.agg (bn a b c d e)] [ak false]:=
h.of
theorem aqr(h:ad [.r 168 [af a,af 0,af 3] [ak q],.b q true,.r 168 [af b,af 0,af 6] [ak r]]):
av 244 [.agg [I a,I b]] [ak r]:=
h.of
theorem aqs(h:ad [.r 168 [af a,af 0,af 3] [ak q],.b q false]):
av 244 [.agg [I a,I b]] [ak false]:=
h.of
theorem aqt(h:ad [.r 190 [af a,af 0,af 3] [ak q],.b q true,.r 190 [af b,af 0,af 6] [ak r]]):
av 274 [.agg [I a,I b]] [ak r]:=
h.of
theorem aqu(h:ad [.r 190 [af a,af 0,af 3] [ak q],.b q false]):
av 274 [.agg [I a,I b]] [ak false]:=
h.of
theorem aqv(h:ad [.r 244 [.agg [I a,I b]] [ak q],.n q true]):
av 270 [.agg [I a,I b]] [.agg [I a,I b],ak false]:=
h.of
theorem aqw(h:ad [.r 244 [.agg [I b,I a]] [ak q],.n q false,.b (decide (a>=6)) true]):
av 270 [.agg [I b,I a]] [.agg [I b,I a],ak false]:=
h.of
theorem aqx(h:ad [.r 244 [.agg [I b,I a]] [ak q],.n q false,.b (decide (a>=6)) false,.u a]):
av 270 [.agg [I b,I a]] [.agg [I b,I (a+1)],ak true]:=
h.of
theorem aqy(h:ad [.r 274 [.agg [I a,I b]] [ak q],.n q true]):
av 300 [.agg [I a,I b]] [.agg [I a,I b],ak false]:=
h.of
theorem aqz(h:ad [.r 274 [.agg [I b,I a]] [ak q],.n q false,.b (a==6) true]):
av 300 [.agg [I b,I a]] [.agg [I b,I a],ak false]:=
h.of
theorem aqA(h:ad [.r 274 [.agg [I b,I a]] [ak q],.n q false,.b (a==6) false,.u a]):
av 300 [.agg [I b,I a]] [.agg [I b,I (a+1)],ak true]:=
h.of
def Un(a b c:Int)(A:ae)(q:Bool)(l:List O):List O:=.r 243 [.agg (bj a b c A)] [ak q]::l
theorem aqB(h:ad (Un a b c A q [.n q true])):
av 267 [.agg (bj a b c A),af d,af e] [af d,af e,ak false]:=
h.of
def Uo(a b c:Int)(A:ae)(q:Bool)(d:Int)(r:Bool)(l:List O):List O:=Un a b c A q (.n q false::.r 168 [af d,af 0,af 99] [ak r]::l)
theorem aqC(h:ad (Uo b c d A q a r [.n r true])):
av 267 [.agg (bj b c d A),af a,af e] [af a,af e,ak false]:=
h.of
def AV(a b c:Int)(A:ae)(q:Bool)(d:Int)(r:Bool)(e:Int)(s:Bool)(l:List O):List O:=Uo a b c A q d r (.n r false::.r 168 [af e,af 0,af 999] [ak s]::l)
theorem apN(h:ad (AV c d e A q a r b s [.n s true])):
av 267 [.agg (bj c d e A),af a,af b] [af a,af b,ak false]:=
h.of
theorem apO(h:ad (AV c a e A q d r b s [.n s false,.b (c==2) true,.v (b+a),.r 323 [af (b+a),af 999] [af f]])):
av 267 [.agg (bj c a e A),af d,af b] [af d,af f,ak true]:=
h.of
theorem apP(h:ad (AV a b e A q c r d s [.n s false,.b (a==2) false,.b (a==4) true,.v (c+b),.p ((100:Int)≠0)])):
av 267 [.agg (bj a b e A),af c,af d] [af ((c+b).tmod 100),af d,ak true]:=
h.of
theorem apQ(h:ad (AV a b d A q c r e s [.n s false,.b (a==2) false,.b (a==4) false,.b (a==3) true,.p (b≠0)])):
av 267 [.agg (bj a b d A),af c,af e] [af c,af e,ak (c.tmod b==d)]:=
h.of
theorem apR(h:ad (AV a d e A q b r c s [.n s false,.b (a==2) false,.b (a==4) false,.b (a==3) false])):
av 267 [.agg (bj a d e A),af b,af c] [af b,af c,ak (a != 8)]:=
h.of
def Up(a b c:Int)(A:ae)(q:Bool)(l:List O):List O:=.r 273 [.agg (bj a b c A)] [ak q]::l
theorem apS(h:ad (Up a b c A q [.n q true])):
av 298 [.agg (bj a b c A),af d,af e] [af d,af e,ak false]:=
h.of
def AW(a b c:Int)(A:ae)(q:Bool)(d e:Int)(r:Bool)(l:List O):List O:=Up a b c A q (.n q false::.r 275 [af d,af e] [ak r]::l)
theorem apT(h:ad (AW c d e A q a b r [.n r true])):
av 298 [.agg (bj c d e A),af a,af b] [af a,af b,ak false]:=
h.of
theorem apU(h:ad (AW c a e A q d b r [.n r false,.b (c==2) true,.v (b+a)])):
av 298 [.agg (bj c a e A),af d,af b] [af d,af (if b+a<999 then b+a else 999),ak true]:=
h.of
theorem apV(h:ad (AW a b e A q c d r [.n r false,.b (a==2) false,.b (a==4) true,.v (c+b),.p ((100:Int)≠0)])):
av 298 [.agg (bj a b e A),af c,af d] [af ((c+b).tmod 100),af d,ak true]:=
h.of
theorem apW(h:ad (AW a b d A q c e r [.n r false,.b (a==2) false,.b (a==4) false,.b (a==3) true,.p (b≠0)])):
av 298 [.agg (bj a b d A),af c,af e] [af c,af e,ak (c.tmod b==d)]:=
h.of
theorem apX(h:ad (AW a d e A q b c r [.n r false,.b (a==2) false,.b (a==4) false,.b (a==3) false])):
av 298 [.agg (bj a d e A),af b,af c] [af b,af c,ak (a != 8)]:=
h.of
theorem apY(h:ad [.b (decide (a<b)) true]):
av 323 [af b,af a] [af a]:=
h.of
theorem apZ(h:ad [.b (decide (b<a)) false]):
av 323 [af a,af b] [af a]:=
h.of
theorem ap0(h:ad [.r 190 [af a,af 0,af 99] [ak q],.b q true,.r 190 [af b,af 0,af 999] [ak r]]):
av 275 [af a,af b] [ak r]:=
h.of
theorem ap1(h:ad [.r 190 [af a,af 0,af 99] [ak q],.b q false]):
av 275 [af a,af b] [ak false]:=
h.of
