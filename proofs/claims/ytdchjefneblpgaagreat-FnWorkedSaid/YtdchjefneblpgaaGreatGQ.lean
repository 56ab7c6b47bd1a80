import Derived.Test.YtdchjefneblpgaaGreatGE
namespace Go.Proofs.YtdchjefneblpgaaGreat
open Go.Sx Go.RowKit
variable {a b c d e f g i j k l : Int} {A C E F : ae} {q r s t : Bool}
def TU(A:ae)(q:Bool)(l:List O):List O:=.r 168 [af (A.length:Int),af 1,af 8] [ah q]::l
theorem aoY(h:ad (TU A q [.n q true])):
ar 121 [.agg (bl A a b)] [ah false]:=
h.of
def D9(A:ae)(q:Bool)(a:Int)(r:Bool)(l:List O):List O:=TU A q (.n q false::.r 168 [af a,af 1,af 4] [ah r]::l)
theorem aoZ(h:ad (D9 A q a r [.n r true])):
ar 121 [.agg (bl A a b)] [ah false]:=
h.of
theorem ao0(h:ad (D9 A q a r [.n r false,.r 168 [af b,af 1,af 4] [ah s],.n s true])):
ar 121 [.agg (bl A a b)] [ah false]:=
h.of
def nr(a:Int)(A:ae)(b c:Int):aD:=bd 97 [(1,aQ 1),(3,aW a)] [(1,[.J .free 4 A,au b,au c])]
def uN(q:Bool):aD:=bd 97 [(2,.aF (.one (.a' q)))] []
def D'(A:ae)(a b c d:Int)(C:ae)(q:Bool)(l:List O):List O:=.i A a (bf b c d C)::.r 243 [.agg (bf b c d C)] [ah q]::l
theorem ao1(h:ad (D' C d a b c A q [.n q true])):
aY (ao Tryz.f121 0) (nr d C e f) .ret (uN false):=
h.aV [2] []
theorem ao2(h:ad (D' C b a c d A q [.n q false,.b (!(a==1)==(b==0)) true])):
aY (ao Tryz.f121 0) (nr b C e f) .ret (uN false):=
h.aV [2] []
def hv(a:Int)(A:ae)(b c d e f:Int)(C:ae)(g:Int):aD:=bd 97 [(1,aQ 1),(3,aW a),(4,aQ 4),(5,aW g)] [(4,[au d,au e,au f,.J .free 1 C]),(1,[.J .free 4 A,au b,au c])]
def qh(q:Bool):aD:=bd 97 [(2,.aF (.one (.a' q)))] []
theorem ao3(h:ad [.i A a [I b],.b (decide (b>=(C.length:Int))) true]):
aY (ao Tryz.f121 1) (hv f C g i c d e A a) .ret (qh false):=
h.aV [2] []
def Eb(A:ae)(a b:Int)(C:ae)(l:List O):List O:=.i A a [I b]::.b (decide (b>=(C.length:Int))) false::l
theorem ao4(h:ad (Eb A c a C [.b (b != 7) true,.b (decide (a<=d)) true])):
aY (ao Tryz.f121 1) (hv d C g i b e f A c) .ret (qh false):=
h.aV [2] []
def Ao(A:ae)(a b:Int)(C:ae)(c d e f g:Int)(E:ae)(l:List O):List O:=Eb A a b C (.b (c != 7) true::.b (decide (b<=d)) false::.x C b (bf e f g E)::l)
theorem ao5(h:ad (Ao C d a A b c g i j E [.b (b==7) true,.b (decide (a>c)) true])):
aY (ao Tryz.f121 1) (hv c A k l b e f C d) .ret (qh false):=
h.aV [2] []
theorem aog(h:ad (Ao C e a A b d c i j E [.b (b==7) true,.b (decide (a>d)) false,.b (c != 5) true,.b (c != 6) true])):
aY (ao Tryz.f121 1) (hv d A k l b f g C e) .ret (qh false):=
h.aV [2] []
theorem aoh(h:ad (Ao C c a A b d e k l E [.b (b==7) true,.b (decide (a>d)) false,.b (e != 5) true,.b (e != 6) false,.u c])):
aY (ao Tryz.f121 1) (hv d A i j b f g C c) .normal (hv d A i j b f g C (c+1)):=
h.aV [5,4,1,3] [4,1]
theorem aoi(h:ad (Ao C c a A b d g k l E [.b (b==7) true,.b (decide (a>d)) false,.b (g != 5) false,.u c])):
aY (ao Tryz.f121 1) (hv d A i j b e f C c) .normal (hv d A i j b e f C (c+1)):=
h.aV [5,4,1,3] [4,1]
theorem aoj(h:ad (Ao C b c A a d j k l E [.b (a==7) false,.u b])):
aY (ao Tryz.f121 1) (hv d A g i a e f C b) .normal (hv d A g i a e f C (b+1)):=
h.aV [5,4,1,3] [4,1]
def Ap(A:ae)(a b:Int)(C:ae)(c d e f:Int)(E:ae)(l:List O):List O:=Eb A a b C (.b (c != 7) false::.x C b (bf d e f E)::l)
theorem aok(h:ad (Ap C c a A b g i j E [.b (b==7) true,.b (decide (a>d)) true])):
aY (ao Tryz.f121 1) (hv d A k l b e f C c) .ret (qh false):=
h.aV [2] []
theorem aol(h:ad (Ap C d a A b c i j E [.b (b==7) true,.b (decide (a>e)) false,.b (c != 5) true,.b (c != 6) true])):
aY (ao Tryz.f121 1) (hv e A k l b f g C d) .ret (qh false):=
h.aV [2] []
theorem aom(h:ad (Ap C b c A a d k l E [.b (a==7) true,.b (decide (c>e)) false,.b (d != 5) true,.b (d != 6) false,.u b])):
aY (ao Tryz.f121 1) (hv e A i j a f g C b) .normal (hv e A i j a f g C (b+1)):=
h.aV [5,4,1,3] [4,1]
theorem aon(h:ad (Ap C b c A a g k l E [.b (a==7) true,.b (decide (c>d)) false,.b (g != 5) false,.u b])):
aY (ao Tryz.f121 1) (hv d A i j a e f C b) .normal (hv d A i j a e f C (b+1)):=
h.aV [5,4,1,3] [4,1]
theorem aoo(h:ad (Ap C b c A a j k l E [.b (a==7) false,.u b])):
aY (ao Tryz.f121 1) (hv f A g i a d e C b) .normal (hv f A g i a d e C (b+1)):=
h.aV [5,4,1,3] [4,1]
def J5(a:Int)(A:ae)(b c:Int):aD:=bd 97 [(1,aQ 1),(3,aW a)] [(1,[.J .free 4 A,au b,au c])]
theorem aop(h:ad [.f A a false]):
aY (ao Tryz.f121 1) (hv b C c d e f g A a) (.exit 2) (J5 b C c d):=
h.aV [3,1] [1]
theorem aoq(h:ad (D' C b a c d A q [.n q false,.b (!(a==1)==(b==0)) false,.l [] [5,4,1,3] [4,1] (ao Tryz.f121 1) (hv b C e f a c d A 0) .ret (qh r)])):
aY (ao Tryz.f121 0) (nr b C e f) .ret (uN r):=
h.aV [2] []
theorem aor(h:ad (D' A a b e f C q [.n q false,.b (!(b==1)==(a==0)) false,.l [] [5,4,1,3] [4,1] (ao Tryz.f121 1) (hv a A c d b e f C 0) (.exit 2) (J5 a A c d),.u a])):
aY (ao Tryz.f121 0) (nr a A c d) .normal (nr (a+1) A c d):=
h.aV [3,1] [1]
def J6:aD:=bd 97 [] []
theorem aos(h:ad [.f A a false]):
aY (ao Tryz.f121 0) (nr a A b c) (.exit 0) J6:=
h.aV [] []
theorem aot(h:ad (D9 A q a r [.n r false,.r 168 [af b,af 1,af 4] [ah s],.n s false,.l [] [3,1] [1] (ao Tryz.f121 0) (nr 0 A a b) .ret (uN t)])):
ar 121 [.agg (bl A a b)] [ah t]:=
h.of
theorem aou(h:ad (D9 A q a r [.n r false,.r 168 [af b,af 1,af 4] [ah s],.n s false,.l [] [3,1] [1] (ao Tryz.f121 0) (nr 0 A a b) (.exit 0) J6])):
ar 121 [.agg (bl A a b)] [ah true]:=
h.of
def TV(A:ae)(q:Bool)(l:List O):List O:=.r 190 [af (A.length:Int),af 1,af 8] [ah q]::l
theorem aov(h:ad (TV A q [.n q true])):
ar 179 [.agg (bl A a b)] [ah false]:=
h.of
def Ec(A:ae)(q:Bool)(a:Int)(r:Bool)(l:List O):List O:=TV A q (.n q false::.r 190 [af a,af 1,af 4] [ah r]::l)
theorem aow(h:ad (Ec A q a r [.n r true])):
ar 179 [.agg (bl A a b)] [ah false]:=
h.of
theorem aox(h:ad (Ec A q a r [.n r false,.r 190 [af b,af 1,af 4] [ah s],.n s true])):
ar 179 [.agg (bl A a b)] [ah false]:=
h.of
def nt(A:ae)(a:Int)(C:ae)(b c:Int):aD:=bd 90 [(1,aQ 1),(26,dj 4 A),(27,aW (A.length:Int)),(28,aW a)] [(1,[.J .free 4 C,au b,au c])]
def uO(q:Bool):aD:=bd 90 [(2,.aF (.one (.a' q)))] []
def Ea(A:ae)(a b c d:Int)(C:ae)(q:Bool)(l:List O):List O:=.i A a (bf b c d C)::.r 273 [.agg (bf b c d C)] [ah q]::l
theorem aoy(h:ad (Ea A d a b c C q [.n q true])):
aY (ao Tryz.f179 0) (nt A d E e f) .ret (uO false):=
h.aV [2] []
theorem aoz(h:ad (Ea A b a c d C q [.n q false,.b (!(a==1)==(b==0)) true])):
aY (ao Tryz.f179 0) (nt A b E e f) .ret (uO false):=
h.aV [2] []
def hx(C:ae)(a:Int)(E:ae)(b c d e f:Int)(A:ae)(g:Int):aD:=bd 90 [(1,aQ 1),(3,aW a),(4,aQ 4),(26,dj 4 C),(27,aW (C.length:Int)),(28,aW a),(45,dj 1 A),(46,aW (A.length:Int)),(47,aW g)] [(4,[au d,au e,au f,.J .free 1 A]),(1,[.J .free 4 E,au b,au c])]
def qi(q:Bool):aD:=bd 90 [(2,.aF (.one (.a' q)))] []
theorem aoA(h:ad [.i A a [I b],.b (decide (b>=(C.length:Int))) true]):
aY (ao Tryz.f179 1) (hx E f C g i c d e A a) .ret (qi false):=
h.aV [2] []
def Aq(A:ae)(a b:Int)(C:ae)(c d e:Int)(E:ae)(l:List O):List O:=Eb A a b C (.x C b (bf c d e E)::l)
theorem aoB(h:ad (Aq C c a A g i j F [.b (b==7) true,.b (decide (a>d)) true])):
aY (ao Tryz.f179 1) (hx E d A k l b e f C c) .ret (qi false):=
h.aV [2] []
def vz(A:ae)(a b:Int)(C:ae)(c d e:Int)(E:ae)(f g:Int)(l:List O):List O:=Aq A a b C c d e E (.b (f==7) true::.b (decide (b>g)) false::l)
theorem aoC(h:ad (vz C d a A b i j F c e [.b (b != 5) true,.b (b != 6) true])):
aY (ao Tryz.f179 1) (hx E e A k l c f g C d) .ret (qi false):=
h.aV [2] []
theorem aoD(h:ad (vz C e a A c i j F b d [.b (c != 5) true,.b (c != 6) false,.b (b != 7) true,.b (decide (a<=d)) true])):
aY (ao Tryz.f179 1) (hx E d A k l b f g C e) .ret (qi false):=
h.aV [2] []
theorem aoE(h:ad (vz C c a A e k l F b d [.b (e != 5) true,.b (e != 6) false,.b (b != 7) true,.b (decide (a<=d)) false,.u c])):
aY (ao Tryz.f179 1) (hx E d A i j b f g C c) .normal (hx E d A i j b f g C (c+1)):=
h.aV [47,46,45,1,4,3,28,27,26] [4,1]
theorem aoF(h:ad (vz C b c A d k l F a e [.b (d != 5) true,.b (d != 6) false,.b (a != 7) false,.u b])):
aY (ao Tryz.f179 1) (hx E e A i j a f g C b) .normal (hx E e A i j a f g C (b+1)):=
h.aV [47,46,45,1,4,3,28,27,26] [4,1]
theorem an6(h:ad (vz C d a A e i j F b c [.b (e != 5) false,.b (b != 7) true,.b (decide (a<=c)) true])):
aY (ao Tryz.f179 1) (hx E c A k l b f g C d) .ret (qi false):=
h.aV [2] []
theorem an7(h:ad (vz C c a A g k l F b d [.b (g != 5) false,.b (b != 7) true,.b (decide (a<=d)) false,.u c])):
aY (ao Tryz.f179 1) (hx E d A i j b e f C c) .normal (hx E d A i j b e f C (c+1)):=
h.aV [47,46,45,1,4,3,28,27,26] [4,1]
theorem an8(h:ad (vz C b c A g k l F a d [.b (g != 5) false,.b (a != 7) false,.u b])):
aY (ao Tryz.f179 1) (hx E d A i j a e f C b) .normal (hx E d A i j a e f C (b+1)):=
h.aV [47,46,45,1,4,3,28,27,26] [4,1]
theorem an9(h:ad (Aq C c a A g i j F [.b (b==7) false,.b (b != 7) true,.b (decide (a<=d)) true])):
aY (ao Tryz.f179 1) (hx E d A k l b e f C c) .ret (qi false):=
h.aV [2] []
theorem aoa(h:ad (Aq C b c A j k l F [.b (a==7) false,.b (a != 7) true,.b (decide (c<=d)) false,.u b])):
aY (ao Tryz.f179 1) (hx E d A g i a e f C b) .normal (hx E d A g i a e f C (b+1)):=
h.aV [47,46,45,1,4,3,28,27,26] [4,1]
theorem aob(h:ad (Aq C b c A j k l F [.b (a==7) false,.b (a != 7) false,.u b])):
aY (ao Tryz.f179 1) (hx E f A g i a d e C b) .normal (hx E f A g i a d e C (b+1)):=
h.aV [47,46,45,1,4,3,28,27,26] [4,1]
def J7(A:ae)(a:Int)(C:ae)(b c:Int):aD:=bd 90 [(1,aQ 1),(26,dj 4 A),(27,aW (A.length:Int)),(28,aW a)] [(1,[.J .free 4 C,au b,au c])]
theorem aoc(h:ad [.f C a false]):
aY (ao Tryz.f179 1) (hx A b E c d e f g C a) (.exit 2) (J7 A b E c d):=
h.aV [28,27,26,1] [1]
theorem aod(h:ad (Ea A b a c d C q [.n q false,.b (!(a==1)==(b==0)) false,.l [] [47,46,45,1,4,3,28,27,26] [4,1] (ao Tryz.f179 1) (hx A b E e f a c d C 0) .ret (qi r)])):
aY (ao Tryz.f179 0) (nt A b E e f) .ret (uO r):=
h.aV [2] []
theorem aoe(h:ad (Ea A a b e f E q [.n q false,.b (!(b==1)==(a==0)) false,.l [] [47,46,45,1,4,3,28,27,26] [4,1] (ao Tryz.f179 1) (hx A a C c d b e f E 0) (.exit 2) (J7 A a C c d),.u a])):
aY (ao Tryz.f179 0) (nt A a C c d) .normal (nt A (a+1) C c d):=
h.aV [28,27,26,1] [1]
def J8:aD:=bd 90 [] []
theorem aof(h:ad [.f A a false]):
aY (ao Tryz.f179 0) (nt A a C b c) (.exit 0) J8:=
h.aV [] []
theorem apH(h:ad (Ec A q a r [.n r false,.r 190 [af b,af 1,af 4] [ah s],.n s false,.l [] [28,27,26,1] [1] (ao Tryz.f179 0) (nt A 0 A a b) .ret (uO t)])):
ar 179 [.agg (bl A a b)] [ah t]:=
h.of
theorem apI(h:ad (Ec A q a r [.n r false,.r 190 [af b,af 1,af 4] [ah s],.n s false,.l [] [28,27,26,1] [1] (ao Tryz.f179 0) (nt A 0 A a b) (.exit 0) J8])):
ar 179 [.agg (bl A a b)] [ah true]:=
h.of
def Le(a:Int)(q:Bool)(b c:Int)(r:Bool)(l:List O):List O:=.r 168 [af a,af 0,af 7] [ah q]::.b q true::.r 244 [.agg [I b,I c]] [ah r]::l
theorem apJ(h:ad (Le a q b c r [.b r true,.r 168 [af d,af 0,af 99] [ah s],.b s true,.r 168 [af e,af 0,af 999] [ah t]])):
ar 122 [.agg (bj a b c d e)] [ah t]:=
h.of
theorem apK(h:ad (Le a q b c r [.b r true,.r 168 [af d,af 0,af 99] [ah s],.b s false])):
ar 122 [.agg (bj a b c d e)] [ah false]:=
h.of
theorem apL(h:ad (Le a q b c r [.b r false])):
ar 122 [.agg (bj a b c d e)] [ah false]:=
h.of
theorem apM(h:ad [.r 168 [af a,af 0,af 7] [ah q],.b q false]):
ar 122 [.agg (bj a b c d e)] [ah false]:=
h.of
theorem apN(h:ad [.r 190 [af a,af 0,af 7] [ah q],.b q true,.r 274 [.agg [I b,I c]] [ah r],.b r true,.r 275 [af d,af e] [ah s]]):
ar 180 [.agg (bj a b c d e)] [ah s]:=
h.of
theorem apO(h:ad [.r 190 [af a,af 0,af 7] [ah q],.b q true,.r 274 [.agg [I b,I c]] [ah r],.b r false]):
ar 180 [.agg (bj a b c d e)] [ah false]:=
h.of
theorem apP(h:ad [.r 190 [af a,af 0,af 7] [ah q],.b q false]):
ar 180 [.agg (bj a b c d e)] [ah false]:=
h.of
theorem apQ(h:ad [.r 168 [af a,af 0,af 3] [ah q],.b q true,.r 168 [af b,af 0,af 6] [ah r]]):
ar 244 [.agg [I a,I b]] [ah r]:=
h.of
theorem apR(h:ad [.r 168 [af a,af 0,af 3] [ah q],.b q false]):
ar 244 [.agg [I a,I b]] [ah false]:=
h.of
theorem apS(h:ad [.r 190 [af a,af 0,af 3] [ah q],.b q true,.r 190 [af b,af 0,af 6] [ah r]]):
ar 274 [.agg [I a,I b]] [ah r]:=
h.of
theorem apT(h:ad [.r 190 [af a,af 0,af 3] [ah q],.b q false]):
ar 274 [.agg [I a,I b]] [ah false]:=
h.of
theorem apU(h:ad [.r 244 [.agg [I a,I b]] [ah q],.n q true]):
ar 270 [.agg [I a,I b]] [.agg [I a,I b],ah false]:=
h.of
theorem apV(h:ad [.r 244 [.agg [I b,I a]] [ah q],.n q false,.b (decide (a>=6)) true]):
ar 270 [.agg [I b,I a]] [.agg [I b,I a],ah false]:=
h.of
theorem apW(h:ad [.r 244 [.agg [I b,I a]] [ah q],.n q false,.b (decide (a>=6)) false,.u a]):
ar 270 [.agg [I b,I a]] [.agg [I b,I (a+1)],ah true]:=
h.of
theorem apX(h:ad [.r 274 [.agg [I a,I b]] [ah q],.n q true]):
ar 300 [.agg [I a,I b]] [.agg [I a,I b],ah false]:=
h.of
theorem apY(h:ad [.r 274 [.agg [I b,I a]] [ah q],.n q false,.b (a==6) true]):
ar 300 [.agg [I b,I a]] [.agg [I b,I a],ah false]:=
h.of
theorem apZ(h:ad [.r 274 [.agg [I b,I a]] [ah q],.n q false,.b (a==6) false,.u a]):
ar 300 [.agg [I b,I a]] [.agg [I b,I (a+1)],ah true]:=
h.of
def TW(a b c:Int)(A:ae)(q:Bool)(l:List O):List O:=.r 243 [.agg (bf a b c A)] [ah q]::l
theorem ap0(h:ad (TW a b c A q [.n q true])):
ar 267 [.agg (bf a b c A),af d,af e] [af d,af e,ah false]:=
h.of
def TX(a b c:Int)(A:ae)(q:Bool)(d:Int)(r:Bool)(l:List O):List O:=TW a b c A q (.n q false::.r 168 [af d,af 0,af 99] [ah r]::l)
theorem ap1(h:ad (TX b c d A q a r [.n r true])):
ar 267 [.agg (bf b c d A),af a,af e] [af a,af e,ah false]:=
h.of
def Ar(a b c:Int)(A:ae)(q:Bool)(d:Int)(r:Bool)(e:Int)(s:Bool)(l:List O):List O:=TX a b c A q d r (.n r false::.r 168 [af e,af 0,af 999] [ah s]::l)
theorem ap2(h:ad (Ar c d e A q a r b s [.n s true])):
ar 267 [.agg (bf c d e A),af a,af b] [af a,af b,ah false]:=
h.of
theorem ap3(h:ad (Ar c a e A q d r b s [.n s false,.b (c==2) true,.v (b+a),.r 323 [af (b+a),af 999] [af f]])):
ar 267 [.agg (bf c a e A),af d,af b] [af d,af f,ah true]:=
h.of
theorem ap4(h:ad (Ar a b e A q c r d s [.n s false,.b (a==2) false,.b (a==4) true,.v (c+b),.p ((100:Int)≠0)])):
ar 267 [.agg (bf a b e A),af c,af d] [af ((c+b).tmod 100),af d,ah true]:=
h.of
theorem ap5(h:ad (Ar a b d A q c r e s [.n s false,.b (a==2) false,.b (a==4) false,.b (a==3) true,.p (b≠0)])):
ar 267 [.agg (bf a b d A),af c,af e] [af c,af e,ah (c.tmod b==d)]:=
h.of
theorem ap6(h:ad (Ar a d e A q b r c s [.n s false,.b (a==2) false,.b (a==4) false,.b (a==3) false])):
ar 267 [.agg (bf a d e A),af b,af c] [af b,af c,ah (a != 8)]:=
h.of
def TY(a b c:Int)(A:ae)(q:Bool)(l:List O):List O:=.r 273 [.agg (bf a b c A)] [ah q]::l
theorem apg(h:ad (TY a b c A q [.n q true])):
ar 298 [.agg (bf a b c A),af d,af e] [af d,af e,ah false]:=
h.of
def As(a b c:Int)(A:ae)(q:Bool)(d e:Int)(r:Bool)(l:List O):List O:=TY a b c A q (.n q false::.r 275 [af d,af e] [ah r]::l)
theorem aph(h:ad (As c d e A q a b r [.n r true])):
ar 298 [.agg (bf c d e A),af a,af b] [af a,af b,ah false]:=
h.of
theorem api(h:ad (As c a e A q d b r [.n r false,.b (c==2) true,.v (b+a)])):
ar 298 [.agg (bf c a e A),af d,af b] [af d,af (if b+a<999 then b+a else 999),ah true]:=
h.of
theorem apj(h:ad (As a b e A q c d r [.n r false,.b (a==2) false,.b (a==4) true,.v (c+b),.p ((100:Int)≠0)])):
ar 298 [.agg (bf a b e A),af c,af d] [af ((c+b).tmod 100),af d,ah true]:=
h.of
theorem apk(h:ad (As a b d A q c e r [.n r false,.b (a==2) false,.b (a==4) false,.b (a==3) true,.p (b≠0)])):
ar 298 [.agg (bf a b d A),af c,af e] [af c,af e,ah (c.tmod b==d)]:=
h.of
theorem apl(h:ad (As a d e A q b c r [.n r false,.b (a==2) false,.b (a==4) false,.b (a==3) false])):
ar 298 [.agg (bf a d e A),af b,af c] [af b,af c,ah (a != 8)]:=
h.of
theorem apm(h:ad [.b (decide (a<b)) true]):
ar 323 [af b,af a] [af a]:=
h.of
theorem apn(h:ad [.b (decide (b<a)) false]):
ar 323 [af a,af b] [af a]:=
h.of
theorem apo(h:ad [.r 190 [af a,af 0,af 99] [ah q],.b q true,.r 190 [af b,af 0,af 999] [ah r]]):
ar 275 [af a,af b] [ah r]:=
h.of
theorem apq(h:ad [.r 190 [af a,af 0,af 99] [ah q],.b q false]):
ar 275 [af a,af b] [ah false]:=
h.of
