import Derived.Test.YtdchjefneblpgaaGreatGE
set_option linter.unusedVariables false
set_option linter.unusedSimpArgs false
namespace Go.Proofs.YtdchjefneblpgaaGreat
open Go.Sx Go.RowKit
variable {a b c d e f g i j k l : Int} {A C E F : ae} {q r s t : Bool}
def TS(A:ae)(q:Bool)(l:List O):List O:=.r 168 [af (A.length:Int),af 1,af 8] [ag q]::l
theorem aoU(h:ad (TS A q [.n q true])):
 ar 121 [.agg (bk A a b)] [ag false]:=
 h.of
def D7(A:ae)(q:Bool)(a:Int)(r:Bool)(l:List O):List O:=TS A q (.n q false::.r 168 [af a,af 1,af 4] [ag r]::l)
theorem aoV(h:ad (D7 A q a r [.n r true])):
 ar 121 [.agg (bk A a b)] [ag false]:=
 h.of
theorem aoW(h:ad (D7 A q a r [.n r false,.r 168 [af b,af 1,af 4] [ag s],.n s true])):
 ar 121 [.agg (bk A a b)] [ag false]:=
 h.of
def nq(a:Int)(A:ae)(b c:Int):aD:=bd 97 [(1,aQ 1),(3,aW a)] [(1,[.J .free 4 A,au b,au c])]
def uK(q:Bool):aD:=bd 97 [(2,.aF (.one (.a' q)))] []
def D8(A:ae)(a b c d:Int)(C:ae)(q:Bool)(l:List O):List O:=.i A a (bf b c d C)::.r 243 [.agg (bf b c d C)] [ag q]::l
theorem aoX(h:ad (D8 C d a b c A q [.n q true])):
 aX (ao Tryz.f121 0) (nq d C e f) .ret (uK false):=
 h.aV [2] []
theorem aoY(h:ad (D8 C b a c d A q [.n q false,.b (!(a==1)==(b==0)) true])):
 aX (ao Tryz.f121 0) (nq b C e f) .ret (uK false):=
 h.aV [2] []
def hs(a:Int)(A:ae)(b c d e f:Int)(C:ae)(g:Int):aD:=bd 97 [(1,aQ 1),(3,aW a),(4,aQ 4),(5,aW g)] [(4,[au d,au e,au f,.J .free 1 C]),(1,[.J .free 4 A,au b,au c])]
def qh(q:Bool):aD:=bd 97 [(2,.aF (.one (.a' q)))] []
theorem aoZ(h:ad [.i A a [I b],.b (decide (b>=(C.length:Int))) true]):
 aX (ao Tryz.f121 1) (hs f C g i c d e A a) .ret (qh false):=
 h.aV [2] []
def D'(A:ae)(a b:Int)(C:ae)(l:List O):List O:=.i A a [I b]::.b (decide (b>=(C.length:Int))) false::l
theorem ao0(h:ad (D' A c a C [.b (b != 7) true,.b (decide (a<=d)) true])):
 aX (ao Tryz.f121 1) (hs d C g i b e f A c) .ret (qh false):=
 h.aV [2] []
def Am(A:ae)(a b:Int)(C:ae)(c d e f g:Int)(E:ae)(l:List O):List O:=D' A a b C (.b (c != 7) true::.b (decide (b<=d)) false::.x C b (bf e f g E)::l)
theorem ao1(h:ad (Am C d a A b c g i j E [.b (b==7) true,.b (decide (a>c)) true])):
 aX (ao Tryz.f121 1) (hs c A k l b e f C d) .ret (qh false):=
 h.aV [2] []
theorem aoc(h:ad (Am C e a A b d c i j E [.b (b==7) true,.b (decide (a>d)) false,.b (c != 5) true,.b (c != 6) true])):
 aX (ao Tryz.f121 1) (hs d A k l b f g C e) .ret (qh false):=
 h.aV [2] []
theorem aod(h:ad (Am C c a A b d e k l E [.b (b==7) true,.b (decide (a>d)) false,.b (e != 5) true,.b (e != 6) false,.u c])):
 aX (ao Tryz.f121 1) (hs d A i j b f g C c) .normal (hs d A i j b f g C (c+1)):=
 h.aV [5,4,1,3] [4,1]
theorem aoe(h:ad (Am C c a A b d g k l E [.b (b==7) true,.b (decide (a>d)) false,.b (g != 5) false,.u c])):
 aX (ao Tryz.f121 1) (hs d A i j b e f C c) .normal (hs d A i j b e f C (c+1)):=
 h.aV [5,4,1,3] [4,1]
theorem aof(h:ad (Am C b c A a d j k l E [.b (a==7) false,.u b])):
 aX (ao Tryz.f121 1) (hs d A g i a e f C b) .normal (hs d A g i a e f C (b+1)):=
 h.aV [5,4,1,3] [4,1]
def An(A:ae)(a b:Int)(C:ae)(c d e f:Int)(E:ae)(l:List O):List O:=D' A a b C (.b (c != 7) false::.x C b (bf d e f E)::l)
theorem aog(h:ad (An C c a A b g i j E [.b (b==7) true,.b (decide (a>d)) true])):
 aX (ao Tryz.f121 1) (hs d A k l b e f C c) .ret (qh false):=
 h.aV [2] []
theorem aoh(h:ad (An C d a A b c i j E [.b (b==7) true,.b (decide (a>e)) false,.b (c != 5) true,.b (c != 6) true])):
 aX (ao Tryz.f121 1) (hs e A k l b f g C d) .ret (qh false):=
 h.aV [2] []
theorem aoi(h:ad (An C b c A a d k l E [.b (a==7) true,.b (decide (c>e)) false,.b (d != 5) true,.b (d != 6) false,.u b])):
 aX (ao Tryz.f121 1) (hs e A i j a f g C b) .normal (hs e A i j a f g C (b+1)):=
 h.aV [5,4,1,3] [4,1]
theorem aoj(h:ad (An C b c A a g k l E [.b (a==7) true,.b (decide (c>d)) false,.b (g != 5) false,.u b])):
 aX (ao Tryz.f121 1) (hs d A i j a e f C b) .normal (hs d A i j a e f C (b+1)):=
 h.aV [5,4,1,3] [4,1]
theorem aok(h:ad (An C b c A a j k l E [.b (a==7) false,.u b])):
 aX (ao Tryz.f121 1) (hs f A g i a d e C b) .normal (hs f A g i a d e C (b+1)):=
 h.aV [5,4,1,3] [4,1]
def J4(a:Int)(A:ae)(b c:Int):aD:=bd 97 [(1,aQ 1),(3,aW a)] [(1,[.J .free 4 A,au b,au c])]
theorem aol(h:ad [.f A a false]):
 aX (ao Tryz.f121 1) (hs b C c d e f g A a) (.exit 2) (J4 b C c d):=
 h.aV [3,1] [1]
theorem aom(h:ad (D8 C b a c d A q [.n q false,.b (!(a==1)==(b==0)) false,.l [] [5,4,1,3] [4,1] (ao Tryz.f121 1) (hs b C e f a c d A 0) .ret (qh r)])):
 aX (ao Tryz.f121 0) (nq b C e f) .ret (uK r):=
 h.aV [2] []
theorem aon(h:ad (D8 A a b e f C q [.n q false,.b (!(b==1)==(a==0)) false,.l [] [5,4,1,3] [4,1] (ao Tryz.f121 1) (hs a A c d b e f C 0) (.exit 2) (J4 a A c d),.u a])):
 aX (ao Tryz.f121 0) (nq a A c d) .normal (nq (a+1) A c d):=
 h.aV [3,1] [1]
def J5:aD:=bd 97 [] []
theorem aoo(h:ad [.f A a false]):
 aX (ao Tryz.f121 0) (nq a A b c) (.exit 0) J5:=
 h.aV [] []
theorem aop(h:ad (D7 A q a r [.n r false,.r 168 [af b,af 1,af 4] [ag s],.n s false,.l [] [3,1] [1] (ao Tryz.f121 0) (nq 0 A a b) .ret (uK t)])):
 ar 121 [.agg (bk A a b)] [ag t]:=
 h.of
theorem aoq(h:ad (D7 A q a r [.n r false,.r 168 [af b,af 1,af 4] [ag s],.n s false,.l [] [3,1] [1] (ao Tryz.f121 0) (nq 0 A a b) (.exit 0) J5])):
 ar 121 [.agg (bk A a b)] [ag true]:=
 h.of
def TT(A:ae)(q:Bool)(l:List O):List O:=.r 190 [af (A.length:Int),af 1,af 8] [ag q]::l
theorem aor(h:ad (TT A q [.n q true])):
 ar 179 [.agg (bk A a b)] [ag false]:=
 h.of
def Ea(A:ae)(q:Bool)(a:Int)(r:Bool)(l:List O):List O:=TT A q (.n q false::.r 190 [af a,af 1,af 4] [ag r]::l)
theorem aos(h:ad (Ea A q a r [.n r true])):
 ar 179 [.agg (bk A a b)] [ag false]:=
 h.of
theorem aot(h:ad (Ea A q a r [.n r false,.r 190 [af b,af 1,af 4] [ag s],.n s true])):
 ar 179 [.agg (bk A a b)] [ag false]:=
 h.of
def nr(A:ae)(a:Int)(C:ae)(b c:Int):aD:=bd 90 [(1,aQ 1),(26,dj 4 A),(27,aW (A.length:Int)),(28,aW a)] [(1,[.J .free 4 C,au b,au c])]
def uL(q:Bool):aD:=bd 90 [(2,.aF (.one (.a' q)))] []
def D9(A:ae)(a b c d:Int)(C:ae)(q:Bool)(l:List O):List O:=.i A a (bf b c d C)::.r 273 [.agg (bf b c d C)] [ag q]::l
theorem aou(h:ad (D9 A d a b c C q [.n q true])):
 aX (ao Tryz.f179 0) (nr A d E e f) .ret (uL false):=
 h.aV [2] []
theorem aov(h:ad (D9 A b a c d C q [.n q false,.b (!(a==1)==(b==0)) true])):
 aX (ao Tryz.f179 0) (nr A b E e f) .ret (uL false):=
 h.aV [2] []
def ht(C:ae)(a:Int)(E:ae)(b c d e f:Int)(A:ae)(g:Int):aD:=bd 90 [(1,aQ 1),(3,aW a),(4,aQ 4),(26,dj 4 C),(27,aW (C.length:Int)),(28,aW a),(45,dj 1 A),(46,aW (A.length:Int)),(47,aW g)] [(4,[au d,au e,au f,.J .free 1 A]),(1,[.J .free 4 E,au b,au c])]
def qi(q:Bool):aD:=bd 90 [(2,.aF (.one (.a' q)))] []
theorem aow(h:ad [.i A a [I b],.b (decide (b>=(C.length:Int))) true]):
 aX (ao Tryz.f179 1) (ht E f C g i c d e A a) .ret (qi false):=
 h.aV [2] []
def Ao(A:ae)(a b:Int)(C:ae)(c d e:Int)(E:ae)(l:List O):List O:=D' A a b C (.x C b (bf c d e E)::l)
theorem aox(h:ad (Ao C c a A g i j F [.b (b==7) true,.b (decide (a>d)) true])):
 aX (ao Tryz.f179 1) (ht E d A k l b e f C c) .ret (qi false):=
 h.aV [2] []
def vx(A:ae)(a b:Int)(C:ae)(c d e:Int)(E:ae)(f g:Int)(l:List O):List O:=Ao A a b C c d e E (.b (f==7) true::.b (decide (b>g)) false::l)
theorem aoy(h:ad (vx C d a A b i j F c e [.b (b != 5) true,.b (b != 6) true])):
 aX (ao Tryz.f179 1) (ht E e A k l c f g C d) .ret (qi false):=
 h.aV [2] []
theorem aoz(h:ad (vx C e a A c i j F b d [.b (c != 5) true,.b (c != 6) false,.b (b != 7) true,.b (decide (a<=d)) true])):
 aX (ao Tryz.f179 1) (ht E d A k l b f g C e) .ret (qi false):=
 h.aV [2] []
theorem aoA(h:ad (vx C c a A e k l F b d [.b (e != 5) true,.b (e != 6) false,.b (b != 7) true,.b (decide (a<=d)) false,.u c])):
 aX (ao Tryz.f179 1) (ht E d A i j b f g C c) .normal (ht E d A i j b f g C (c+1)):=
 h.aV [47,46,45,1,4,3,28,27,26] [4,1]
theorem aoB(h:ad (vx C b c A d k l F a e [.b (d != 5) true,.b (d != 6) false,.b (a != 7) false,.u b])):
 aX (ao Tryz.f179 1) (ht E e A i j a f g C b) .normal (ht E e A i j a f g C (b+1)):=
 h.aV [47,46,45,1,4,3,28,27,26] [4,1]
theorem an2(h:ad (vx C d a A e i j F b c [.b (e != 5) false,.b (b != 7) true,.b (decide (a<=c)) true])):
 aX (ao Tryz.f179 1) (ht E c A k l b f g C d) .ret (qi false):=
 h.aV [2] []
theorem an3(h:ad (vx C c a A g k l F b d [.b (g != 5) false,.b (b != 7) true,.b (decide (a<=d)) false,.u c])):
 aX (ao Tryz.f179 1) (ht E d A i j b e f C c) .normal (ht E d A i j b e f C (c+1)):=
 h.aV [47,46,45,1,4,3,28,27,26] [4,1]
theorem an4(h:ad (vx C b c A g k l F a d [.b (g != 5) false,.b (a != 7) false,.u b])):
 aX (ao Tryz.f179 1) (ht E d A i j a e f C b) .normal (ht E d A i j a e f C (b+1)):=
 h.aV [47,46,45,1,4,3,28,27,26] [4,1]
theorem an5(h:ad (Ao C c a A g i j F [.b (b==7) false,.b (b != 7) true,.b (decide (a<=d)) true])):
 aX (ao Tryz.f179 1) (ht E d A k l b e f C c) .ret (qi false):=
 h.aV [2] []
theorem an6(h:ad (Ao C b c A j k l F [.b (a==7) false,.b (a != 7) true,.b (decide (c<=d)) false,.u b])):
 aX (ao Tryz.f179 1) (ht E d A g i a e f C b) .normal (ht E d A g i a e f C (b+1)):=
 h.aV [47,46,45,1,4,3,28,27,26] [4,1]
theorem an7(h:ad (Ao C b c A j k l F [.b (a==7) false,.b (a != 7) false,.u b])):
 aX (ao Tryz.f179 1) (ht E f A g i a d e C b) .normal (ht E f A g i a d e C (b+1)):=
 h.aV [47,46,45,1,4,3,28,27,26] [4,1]
def J6(A:ae)(a:Int)(C:ae)(b c:Int):aD:=bd 90 [(1,aQ 1),(26,dj 4 A),(27,aW (A.length:Int)),(28,aW a)] [(1,[.J .free 4 C,au b,au c])]
theorem an8(h:ad [.f C a false]):
 aX (ao Tryz.f179 1) (ht A b E c d e f g C a) (.exit 2) (J6 A b E c d):=
 h.aV [28,27,26,1] [1]
theorem an9(h:ad (D9 A b a c d C q [.n q false,.b (!(a==1)==(b==0)) false,.l [] [47,46,45,1,4,3,28,27,26] [4,1] (ao Tryz.f179 1) (ht A b E e f a c d C 0) .ret (qi r)])):
 aX (ao Tryz.f179 0) (nr A b E e f) .ret (uL r):=
 h.aV [2] []
theorem aoa(h:ad (D9 A a b e f E q [.n q false,.b (!(b==1)==(a==0)) false,.l [] [47,46,45,1,4,3,28,27,26] [4,1] (ao Tryz.f179 1) (ht A a C c d b e f E 0) (.exit 2) (J6 A a C c d),.u a])):
 aX (ao Tryz.f179 0) (nr A a C c d) .normal (nr A (a+1) C c d):=
 h.aV [28,27,26,1] [1]
def J7:aD:=bd 90 [] []
theorem aob(h:ad [.f A a false]):
 aX (ao Tryz.f179 0) (nr A a C b c) (.exit 0) J7:=
 h.aV [] []
theorem apD(h:ad (Ea A q a r [.n r false,.r 190 [af b,af 1,af 4] [ag s],.n s false,.l [] [28,27,26,1] [1] (ao Tryz.f179 0) (nr A 0 A a b) .ret (uL t)])):
 ar 179 [.agg (bk A a b)] [ag t]:=
 h.of
theorem apE(h:ad (Ea A q a r [.n r false,.r 190 [af b,af 1,af 4] [ag s],.n s false,.l [] [28,27,26,1] [1] (ao Tryz.f179 0) (nr A 0 A a b) (.exit 0) J7])):
 ar 179 [.agg (bk A a b)] [ag true]:=
 h.of
def Ld(a:Int)(q:Bool)(b c:Int)(r:Bool)(l:List O):List O:=.r 168 [af a,af 0,af 7] [ag q]::.b q true::.r 244 [.agg [I b,I c]] [ag r]::l
theorem apF(h:ad (Ld a q b c r [.b r true,.r 168 [af d,af 0,af 99] [ag s],.b s true,.r 168 [af e,af 0,af 999] [ag t]])):
 ar 122 [.agg (bj a b c d e)] [ag t]:=
 h.of
theorem apG(h:ad (Ld a q b c r [.b r true,.r 168 [af d,af 0,af 99] [ag s],.b s false])):
 ar 122 [.agg (bj a b c d e)] [ag false]:=
 h.of
theorem apH(h:ad (Ld a q b c r [.b r false])):
 ar 122 [.agg (bj a b c d e)] [ag false]:=
 h.of
theorem apI(h:ad [.r 168 [af a,af 0,af 7] [ag q],.b q false]):
 ar 122 [.agg (bj a b c d e)] [ag false]:=
 h.of
theorem apJ(h:ad [.r 190 [af a,af 0,af 7] [ag q],.b q true,.r 274 [.agg [I b,I c]] [ag r],.b r true,.r 275 [af d,af e] [ag s]]):
 ar 180 [.agg (bj a b c d e)] [ag s]:=
 h.of
theorem apK(h:ad [.r 190 [af a,af 0,af 7] [ag q],.b q true,.r 274 [.agg [I b,I c]] [ag r],.b r false]):
 ar 180 [.agg (bj a b c d e)] [ag false]:=
 h.of
theorem apL(h:ad [.r 190 [af a,af 0,af 7] [ag q],.b q false]):
 ar 180 [.agg (bj a b c d e)] [ag false]:=
 h.of
theorem apM(h:ad [.r 168 [af a,af 0,af 3] [ag q],.b q true,.r 168 [af b,af 0,af 6] [ag r]]):
 ar 244 [.agg [I a,I b]] [ag r]:=
 h.of
theorem apN(h:ad [.r 168 [af a,af 0,af 3] [ag q],.b q false]):
 ar 244 [.agg [I a,I b]] [ag false]:=
 h.of
theorem apO(h:ad [.r 190 [af a,af 0,af 3] [ag q],.b q true,.r 190 [af b,af 0,af 6] [ag r]]):
 ar 274 [.agg [I a,I b]] [ag r]:=
 h.of
theorem apP(h:ad [.r 190 [af a,af 0,af 3] [ag q],.b q false]):
 ar 274 [.agg [I a,I b]] [ag false]:=
 h.of
theorem apQ(h:ad [.r 244 [.agg [I a,I b]] [ag q],.n q true]):
 ar 270 [.agg [I a,I b]] [.agg [I a,I b],ag false]:=
 h.of
theorem apR(h:ad [.r 244 [.agg [I b,I a]] [ag q],.n q false,.b (decide (a>=6)) true]):
 ar 270 [.agg [I b,I a]] [.agg [I b,I a],ag false]:=
 h.of
theorem apS(h:ad [.r 244 [.agg [I b,I a]] [ag q],.n q false,.b (decide (a>=6)) false,.u a]):
 ar 270 [.agg [I b,I a]] [.agg [I b,I (a+1)],ag true]:=
 h.of
theorem apT(h:ad [.r 274 [.agg [I a,I b]] [ag q],.n q true]):
 ar 300 [.agg [I a,I b]] [.agg [I a,I b],ag false]:=
 h.of
theorem apU(h:ad [.r 274 [.agg [I b,I a]] [ag q],.n q false,.b (a==6) true]):
 ar 300 [.agg [I b,I a]] [.agg [I b,I a],ag false]:=
 h.of
theorem apV(h:ad [.r 274 [.agg [I b,I a]] [ag q],.n q false,.b (a==6) false,.u a]):
 ar 300 [.agg [I b,I a]] [.agg [I b,I (a+1)],ag true]:=
 h.of
def TU(a b c:Int)(A:ae)(q:Bool)(l:List O):List O:=.r 243 [.agg (bf a b c A)] [ag q]::l
theorem apW(h:ad (TU a b c A q [.n q true])):
 ar 267 [.agg (bf a b c A),af d,af e] [af d,af e,ag false]:=
 h.of
def TV(a b c:Int)(A:ae)(q:Bool)(d:Int)(r:Bool)(l:List O):List O:=TU a b c A q (.n q false::.r 168 [af d,af 0,af 99] [ag r]::l)
theorem apX(h:ad (TV b c d A q a r [.n r true])):
 ar 267 [.agg (bf b c d A),af a,af e] [af a,af e,ag false]:=
 h.of
def Ap(a b c:Int)(A:ae)(q:Bool)(d:Int)(r:Bool)(e:Int)(s:Bool)(l:List O):List O:=TV a b c A q d r (.n r false::.r 168 [af e,af 0,af 999] [ag s]::l)
theorem apY(h:ad (Ap c d e A q a r b s [.n s true])):
 ar 267 [.agg (bf c d e A),af a,af b] [af a,af b,ag false]:=
 h.of
theorem apZ(h:ad (Ap c a e A q d r b s [.n s false,.b (c==2) true,.v (b+a),.r 323 [af (b+a),af 999] [af f]])):
 ar 267 [.agg (bf c a e A),af d,af b] [af d,af f,ag true]:=
 h.of
theorem ap0(h:ad (Ap a b e A q c r d s [.n s false,.b (a==2) false,.b (a==4) true,.v (c+b),.p ((100:Int)≠0)])):
 ar 267 [.agg (bf a b e A),af c,af d] [af ((c+b).tmod 100),af d,ag true]:=
 h.of
theorem ap1(h:ad (Ap a b d A q c r e s [.n s false,.b (a==2) false,.b (a==4) false,.b (a==3) true,.p (b≠0)])):
 ar 267 [.agg (bf a b d A),af c,af e] [af c,af e,ag (c.tmod b==d)]:=
 h.of
theorem ap2(h:ad (Ap a d e A q b r c s [.n s false,.b (a==2) false,.b (a==4) false,.b (a==3) false])):
 ar 267 [.agg (bf a d e A),af b,af c] [af b,af c,ag (a != 8)]:=
 h.of
def TW(a b c:Int)(A:ae)(q:Bool)(l:List O):List O:=.r 273 [.agg (bf a b c A)] [ag q]::l
theorem apc(h:ad (TW a b c A q [.n q true])):
 ar 298 [.agg (bf a b c A),af d,af e] [af d,af e,ag false]:=
 h.of
def Aq(a b c:Int)(A:ae)(q:Bool)(d e:Int)(r:Bool)(l:List O):List O:=TW a b c A q (.n q false::.r 275 [af d,af e] [ag r]::l)
theorem apd(h:ad (Aq c d e A q a b r [.n r true])):
 ar 298 [.agg (bf c d e A),af a,af b] [af a,af b,ag false]:=
 h.of
theorem ape(h:ad (Aq c a e A q d b r [.n r false,.b (c==2) true,.v (b+a)])):
 ar 298 [.agg (bf c a e A),af d,af b] [af d,af (if b+a<999 then b+a else 999),ag true]:=
 h.of
theorem apf(h:ad (Aq a b e A q c d r [.n r false,.b (a==2) false,.b (a==4) true,.v (c+b),.p ((100:Int)≠0)])):
 ar 298 [.agg (bf a b e A),af c,af d] [af ((c+b).tmod 100),af d,ag true]:=
 h.of
theorem apg(h:ad (Aq a b d A q c e r [.n r false,.b (a==2) false,.b (a==4) false,.b (a==3) true,.p (b≠0)])):
 ar 298 [.agg (bf a b d A),af c,af e] [af c,af e,ag (c.tmod b==d)]:=
 h.of
theorem aph(h:ad (Aq a d e A q b c r [.n r false,.b (a==2) false,.b (a==4) false,.b (a==3) false])):
 ar 298 [.agg (bf a d e A),af b,af c] [af b,af c,ag (a != 8)]:=
 h.of
theorem api(h:ad [.b (decide (a<b)) true]):
 ar 323 [af b,af a] [af a]:=
 h.of
theorem apj(h:ad [.b (decide (b<a)) false]):
 ar 323 [af a,af b] [af a]:=
 h.of
theorem apk(h:ad [.r 190 [af a,af 0,af 99] [ag q],.b q true,.r 190 [af b,af 0,af 999] [ag r]]):
 ar 275 [af a,af b] [ag r]:=
 h.of
theorem apl(h:ad [.r 190 [af a,af 0,af 99] [ag q],.b q false]):
 ar 275 [af a,af b] [ag false]:=
 h.of
