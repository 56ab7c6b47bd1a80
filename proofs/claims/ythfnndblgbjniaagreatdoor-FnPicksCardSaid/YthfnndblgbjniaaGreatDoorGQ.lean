import Derived.Test.YthfnndblgbjniaaGreatDoorGE
namespace Go.Proofs.YthfnndblgbjniaaGreatDoor
open Go.Sx Go.RowKit
variable {a b c d e f g i j k l : Int} {A C E F : af} {q r s t : Bool}
def VW(A:af)(q:Bool)(l:List O):List O:=.r 65 [ag (A.length:Int),ag 1,ag 8] [ai q]::l
theorem auF(h:ae (VW A q [.n q true])):
 al 138 [.agg (bq A a b)] [ai false]:=
 h.of
def FF(A:af)(q:Bool)(a:Int)(r:Bool)(l:List O):List O:=VW A q (.n q false::.r 65 [ag a,ag 1,ag 4] [ai r]::l)
theorem auG(h:ae (FF A q a r [.n r true])):
 al 138 [.agg (bq A a b)] [ai false]:=
 h.of
theorem auH(h:ae (FF A q a r [.n r false,.r 65 [ag b,ag 1,ag 4] [ai s],.n s true])):
 al 138 [.agg (bq A a b)] [ai false]:=
 h.of
def oB(a:Int)(A:af)(b c:Int):aF:=bf 97 [(1,aS 1),(3,aU a)] [(1,[.J .free 4 A,au b,au c])]
def v7(q:Bool):aF:=bf 97 [(2,.aC (.one (.bg q)))] []
def FG(A:af)(a b c d:Int)(C:af)(q:Bool)(l:List O):List O:=.i A a (bk b c d C)::.r 183 [.agg (bk b c d C)] [ai q]::l
theorem auI(h:ae (FG C d a b c A q [.n q true])):
 aY (ap Tryz.f138 0) (oB d C e f) .ret (v7 false):=
 h.aT [2] []
theorem auJ(h:ae (FG C b a c d A q [.n q false,.b (!(a==1)==(b==0)) true])):
 aY (ap Tryz.f138 0) (oB b C e f) .ret (v7 false):=
 h.aT [2] []
def h6(a:Int)(A:af)(b c d e f:Int)(C:af)(g:Int):aF:=bf 97 [(1,aS 1),(3,aU a),(4,aS 4),(5,aU g)] [(4,[au d,au e,au f,.J .free 1 C]),(1,[.J .free 4 A,au b,au c])]
def ru(q:Bool):aF:=bf 97 [(2,.aC (.one (.bg q)))] []
theorem auK(h:ae [.i A a [I b],.b (decide (b>=(C.length:Int))) true]):
 aY (ap Tryz.f138 1) (h6 f C g i c d e A a) .ret (ru false):=
 h.aT [2] []
def FI(A:af)(a b:Int)(C:af)(l:List O):List O:=.i A a [I b]::.b (decide (b>=(C.length:Int))) false::l
theorem auL(h:ae (FI A c a C [.b (b != 7) true,.b (decide (a<=d)) true])):
 aY (ap Tryz.f138 1) (h6 d C g i b e f A c) .ret (ru false):=
 h.aT [2] []
def Bw(A:af)(a b:Int)(C:af)(c d e f g:Int)(E:af)(l:List O):List O:=FI A a b C (.b (c != 7) true::.b (decide (b<=d)) false::.x C b (bk e f g E)::l)
theorem auM(h:ae (Bw C d a A b c g i j E [.b (b==7) true,.b (decide (a>c)) true])):
 aY (ap Tryz.f138 1) (h6 c A k l b e f C d) .ret (ru false):=
 h.aT [2] []
theorem auN(h:ae (Bw C e a A b d c i j E [.b (b==7) true,.b (decide (a>d)) false,.b (c != 5) true,.b (c != 6) true])):
 aY (ap Tryz.f138 1) (h6 d A k l b f g C e) .ret (ru false):=
 h.aT [2] []
theorem auO(h:ae (Bw C c a A b d e k l E [.b (b==7) true,.b (decide (a>d)) false,.b (e != 5) true,.b (e != 6) false,.u c])):
 aY (ap Tryz.f138 1) (h6 d A i j b f g C c) .normal (h6 d A i j b f g C (c+1)):=
 h.aT [5,4,1,3] [4,1]
theorem auP(h:ae (Bw C c a A b d g k l E [.b (b==7) true,.b (decide (a>d)) false,.b (g != 5) false,.u c])):
 aY (ap Tryz.f138 1) (h6 d A i j b e f C c) .normal (h6 d A i j b e f C (c+1)):=
 h.aT [5,4,1,3] [4,1]
theorem auQ(h:ae (Bw C b c A a d j k l E [.b (a==7) false,.u b])):
 aY (ap Tryz.f138 1) (h6 d A g i a e f C b) .normal (h6 d A g i a e f C (b+1)):=
 h.aT [5,4,1,3] [4,1]
def Bx(A:af)(a b:Int)(C:af)(c d e f:Int)(E:af)(l:List O):List O:=FI A a b C (.b (c != 7) false::.x C b (bk d e f E)::l)
theorem auR(h:ae (Bx C c a A b g i j E [.b (b==7) true,.b (decide (a>d)) true])):
 aY (ap Tryz.f138 1) (h6 d A k l b e f C c) .ret (ru false):=
 h.aT [2] []
theorem auS(h:ae (Bx C d a A b c i j E [.b (b==7) true,.b (decide (a>e)) false,.b (c != 5) true,.b (c != 6) true])):
 aY (ap Tryz.f138 1) (h6 e A k l b f g C d) .ret (ru false):=
 h.aT [2] []
theorem auT(h:ae (Bx C b c A a d k l E [.b (a==7) true,.b (decide (c>e)) false,.b (d != 5) true,.b (d != 6) false,.u b])):
 aY (ap Tryz.f138 1) (h6 e A i j a f g C b) .normal (h6 e A i j a f g C (b+1)):=
 h.aT [5,4,1,3] [4,1]
theorem auU(h:ae (Bx C b c A a g k l E [.b (a==7) true,.b (decide (c>d)) false,.b (g != 5) false,.u b])):
 aY (ap Tryz.f138 1) (h6 d A i j a e f C b) .normal (h6 d A i j a e f C (b+1)):=
 h.aT [5,4,1,3] [4,1]
theorem auV(h:ae (Bx C b c A a j k l E [.b (a==7) false,.u b])):
 aY (ap Tryz.f138 1) (h6 f A g i a d e C b) .normal (h6 f A g i a d e C (b+1)):=
 h.aT [5,4,1,3] [4,1]
def Lu(a:Int)(A:af)(b c:Int):aF:=bf 97 [(1,aS 1),(3,aU a)] [(1,[.J .free 4 A,au b,au c])]
theorem auW(h:ae [.f A a false]):
 aY (ap Tryz.f138 1) (h6 b C c d e f g A a) (.exit 2) (Lu b C c d):=
 h.aT [3,1] [1]
theorem auX(h:ae (FG C b a c d A q [.n q false,.b (!(a==1)==(b==0)) false,.l [] [5,4,1,3] [4,1] (ap Tryz.f138 1) (h6 b C e f a c d A 0) .ret (ru r)])):
 aY (ap Tryz.f138 0) (oB b C e f) .ret (v7 r):=
 h.aT [2] []
theorem auY(h:ae (FG A a b e f C q [.n q false,.b (!(b==1)==(a==0)) false,.l [] [5,4,1,3] [4,1] (ap Tryz.f138 1) (h6 a A c d b e f C 0) (.exit 2) (Lu a A c d),.u a])):
 aY (ap Tryz.f138 0) (oB a A c d) .normal (oB (a+1) A c d):=
 h.aT [3,1] [1]
def Lv:aF:=bf 97 [] []
theorem auZ(h:ae [.f A a false]):
 aY (ap Tryz.f138 0) (oB a A b c) (.exit 0) Lv:=
 h.aT [] []
theorem au0(h:ae (FF A q a r [.n r false,.r 65 [ag b,ag 1,ag 4] [ai s],.n s false,.l [] [3,1] [1] (ap Tryz.f138 0) (oB 0 A a b) .ret (v7 t)])):
 al 138 [.agg (bq A a b)] [ai t]:=
 h.of
theorem auq(h:ae (FF A q a r [.n r false,.r 65 [ag b,ag 1,ag 4] [ai s],.n s false,.l [] [3,1] [1] (ap Tryz.f138 0) (oB 0 A a b) (.exit 0) Lv])):
 al 138 [.agg (bq A a b)] [ai true]:=
 h.of
def VX(A:af)(q:Bool)(l:List O):List O:=.r 64 [ag (A.length:Int),ag 1,ag 8] [ai q]::l
theorem aur(h:ae (VX A q [.n q true])):
 al 78 [.agg (bq A a b)] [ai false]:=
 h.of
def FJ(A:af)(q:Bool)(a:Int)(r:Bool)(l:List O):List O:=VX A q (.n q false::.r 64 [ag a,ag 1,ag 4] [ai r]::l)
theorem aus(h:ae (FJ A q a r [.n r true])):
 al 78 [.agg (bq A a b)] [ai false]:=
 h.of
theorem aut(h:ae (FJ A q a r [.n r false,.r 64 [ag b,ag 1,ag 4] [ai s],.n s true])):
 al 78 [.agg (bq A a b)] [ai false]:=
 h.of
def oC(A:af)(a:Int)(C:af)(b c:Int):aF:=bf 90 [(1,aS 1),(26,du 4 A),(27,aU (A.length:Int)),(28,aU a)] [(1,[.J .free 4 C,au b,au c])]
def v8(q:Bool):aF:=bf 90 [(2,.aC (.one (.bg q)))] []
def FH(A:af)(a b c d:Int)(C:af)(q:Bool)(l:List O):List O:=.i A a (bk b c d C)::.r 128 [.agg (bk b c d C)] [ai q]::l
theorem auu(h:ae (FH A d a b c C q [.n q true])):
 aY (ap Tryz.f78 0) (oC A d E e f) .ret (v8 false):=
 h.aT [2] []
theorem auv(h:ae (FH A b a c d C q [.n q false,.b (!(a==1)==(b==0)) true])):
 aY (ap Tryz.f78 0) (oC A b E e f) .ret (v8 false):=
 h.aT [2] []
def h7(C:af)(a:Int)(E:af)(b c d e f:Int)(A:af)(g:Int):aF:=bf 90 [(1,aS 1),(3,aU a),(4,aS 4),(26,du 4 C),(27,aU (C.length:Int)),(28,aU a),(45,du 1 A),(46,aU (A.length:Int)),(47,aU g)] [(4,[au d,au e,au f,.J .free 1 A]),(1,[.J .free 4 E,au b,au c])]
def rv(q:Bool):aF:=bf 90 [(2,.aC (.one (.bg q)))] []
theorem auw(h:ae [.i A a [I b],.b (decide (b>=(C.length:Int))) true]):
 aY (ap Tryz.f78 1) (h7 E f C g i c d e A a) .ret (rv false):=
 h.aT [2] []
def By(A:af)(a b:Int)(C:af)(c d e:Int)(E:af)(l:List O):List O:=FI A a b C (.x C b (bk c d e E)::l)
theorem auy(h:ae (By C c a A g i j F [.b (b==7) true,.b (decide (a>d)) true])):
 aY (ap Tryz.f78 1) (h7 E d A k l b e f C c) .ret (rv false):=
 h.aT [2] []
def wI(A:af)(a b:Int)(C:af)(c d e:Int)(E:af)(f g:Int)(l:List O):List O:=By A a b C c d e E (.b (f==7) true::.b (decide (b>g)) false::l)
theorem auz(h:ae (wI C d a A b i j F c e [.b (b != 5) true,.b (b != 6) true])):
 aY (ap Tryz.f78 1) (h7 E e A k l c f g C d) .ret (rv false):=
 h.aT [2] []
theorem auA(h:ae (wI C e a A c i j F b d [.b (c != 5) true,.b (c != 6) false,.b (b != 7) true,.b (decide (a<=d)) true])):
 aY (ap Tryz.f78 1) (h7 E d A k l b f g C e) .ret (rv false):=
 h.aT [2] []
theorem av1(h:ae (wI C c a A e k l F b d [.b (e != 5) true,.b (e != 6) false,.b (b != 7) true,.b (decide (a<=d)) false,.u c])):
 aY (ap Tryz.f78 1) (h7 E d A i j b f g C c) .normal (h7 E d A i j b f g C (c+1)):=
 h.aT [47,46,45,1,4,3,28,27,26] [4,1]
theorem av2(h:ae (wI C b c A d k l F a e [.b (d != 5) true,.b (d != 6) false,.b (a != 7) false,.u b])):
 aY (ap Tryz.f78 1) (h7 E e A i j a f g C b) .normal (h7 E e A i j a f g C (b+1)):=
 h.aT [47,46,45,1,4,3,28,27,26] [4,1]
theorem av3(h:ae (wI C d a A e i j F b c [.b (e != 5) false,.b (b != 7) true,.b (decide (a<=c)) true])):
 aY (ap Tryz.f78 1) (h7 E c A k l b f g C d) .ret (rv false):=
 h.aT [2] []
theorem av4(h:ae (wI C c a A g k l F b d [.b (g != 5) false,.b (b != 7) true,.b (decide (a<=d)) false,.u c])):
 aY (ap Tryz.f78 1) (h7 E d A i j b e f C c) .normal (h7 E d A i j b e f C (c+1)):=
 h.aT [47,46,45,1,4,3,28,27,26] [4,1]
theorem av5(h:ae (wI C b c A g k l F a d [.b (g != 5) false,.b (a != 7) false,.u b])):
 aY (ap Tryz.f78 1) (h7 E d A i j a e f C b) .normal (h7 E d A i j a e f C (b+1)):=
 h.aT [47,46,45,1,4,3,28,27,26] [4,1]
theorem av6(h:ae (By C c a A g i j F [.b (b==7) false,.b (b != 7) true,.b (decide (a<=d)) true])):
 aY (ap Tryz.f78 1) (h7 E d A k l b e f C c) .ret (rv false):=
 h.aT [2] []
theorem av7(h:ae (By C b c A j k l F [.b (a==7) false,.b (a != 7) true,.b (decide (c<=d)) false,.u b])):
 aY (ap Tryz.f78 1) (h7 E d A g i a e f C b) .normal (h7 E d A g i a e f C (b+1)):=
 h.aT [47,46,45,1,4,3,28,27,26] [4,1]
theorem av8(h:ae (By C b c A j k l F [.b (a==7) false,.b (a != 7) false,.u b])):
 aY (ap Tryz.f78 1) (h7 E f A g i a d e C b) .normal (h7 E f A g i a d e C (b+1)):=
 h.aT [47,46,45,1,4,3,28,27,26] [4,1]
def Lw(A:af)(a:Int)(C:af)(b c:Int):aF:=bf 90 [(1,aS 1),(26,du 4 A),(27,aU (A.length:Int)),(28,aU a)] [(1,[.J .free 4 C,au b,au c])]
theorem av9(h:ae [.f C a false]):
 aY (ap Tryz.f78 1) (h7 A b E c d e f g C a) (.exit 2) (Lw A b E c d):=
 h.aT [28,27,26,1] [1]
theorem awa(h:ae (FH A b a c d C q [.n q false,.b (!(a==1)==(b==0)) false,.l [] [47,46,45,1,4,3,28,27,26] [4,1] (ap Tryz.f78 1) (h7 A b E e f a c d C 0) .ret (rv r)])):
 aY (ap Tryz.f78 0) (oC A b E e f) .ret (v8 r):=
 h.aT [2] []
theorem awb(h:ae (FH A a b e f E q [.n q false,.b (!(b==1)==(a==0)) false,.l [] [47,46,45,1,4,3,28,27,26] [4,1] (ap Tryz.f78 1) (h7 A a C c d b e f E 0) (.exit 2) (Lw A a C c d),.u a])):
 aY (ap Tryz.f78 0) (oC A a C c d) .normal (oC A (a+1) C c d):=
 h.aT [28,27,26,1] [1]
def Lx:aF:=bf 90 [] []
theorem awc(h:ae [.f A a false]):
 aY (ap Tryz.f78 0) (oC A a C b c) (.exit 0) Lx:=
 h.aT [] []
theorem awd(h:ae (FJ A q a r [.n r false,.r 64 [ag b,ag 1,ag 4] [ai s],.n s false,.l [] [28,27,26,1] [1] (ap Tryz.f78 0) (oC A 0 A a b) .ret (v8 t)])):
 al 78 [.agg (bq A a b)] [ai t]:=
 h.of
theorem awe(h:ae (FJ A q a r [.n r false,.r 64 [ag b,ag 1,ag 4] [ai s],.n s false,.l [] [28,27,26,1] [1] (ap Tryz.f78 0) (oC A 0 A a b) (.exit 0) Lx])):
 al 78 [.agg (bq A a b)] [ai true]:=
 h.of
def MB(a:Int)(q:Bool)(b c:Int)(r:Bool)(l:List O):List O:=.r 65 [ag a,ag 0,ag 7] [ai q]::.b q true::.r 201 [.agg [I b,I c]] [ai r]::l
theorem awf(h:ae (MB a q b c r [.b r true,.r 65 [ag d,ag 0,ag 99] [ai s],.b s true,.r 65 [ag e,ag 0,ag 999] [ai t]])):
 al 167 [.agg (bj a b c d e)] [ai t]:=
 h.of
theorem awg(h:ae (MB a q b c r [.b r true,.r 65 [ag d,ag 0,ag 99] [ai s],.b s false])):
 al 167 [.agg (bj a b c d e)] [ai false]:=
 h.of
theorem awh(h:ae (MB a q b c r [.b r false])):
 al 167 [.agg (bj a b c d e)] [ai false]:=
 h.of
theorem awi(h:ae [.r 65 [ag a,ag 0,ag 7] [ai q],.b q false]):
 al 167 [.agg (bj a b c d e)] [ai false]:=
 h.of
theorem awj(h:ae [.r 64 [ag a,ag 0,ag 7] [ai q],.b q true,.r 180 [.agg [I b,I c]] [ai r],.b r true,.r 181 [ag d,ag e] [ai s]]):
 al 131 [.agg (bj a b c d e)] [ai s]:=
 h.of
theorem awk(h:ae [.r 64 [ag a,ag 0,ag 7] [ai q],.b q true,.r 180 [.agg [I b,I c]] [ai r],.b r false]):
 al 131 [.agg (bj a b c d e)] [ai false]:=
 h.of
theorem awl(h:ae [.r 64 [ag a,ag 0,ag 7] [ai q],.b q false]):
 al 131 [.agg (bj a b c d e)] [ai false]:=
 h.of
theorem awm(h:ae [.r 65 [ag a,ag 0,ag 3] [ai q],.b q true,.r 65 [ag b,ag 0,ag 6] [ai r]]):
 al 201 [.agg [I a,I b]] [ai r]:=
 h.of
theorem awn(h:ae [.r 65 [ag a,ag 0,ag 3] [ai q],.b q false]):
 al 201 [.agg [I a,I b]] [ai false]:=
 h.of
theorem awo(h:ae [.r 64 [ag a,ag 0,ag 3] [ai q],.b q true,.r 64 [ag b,ag 0,ag 6] [ai r]]):
 al 180 [.agg [I a,I b]] [ai r]:=
 h.of
theorem awp(h:ae [.r 64 [ag a,ag 0,ag 3] [ai q],.b q false]):
 al 180 [.agg [I a,I b]] [ai false]:=
 h.of
theorem awq(h:ae [.r 201 [.agg [I a,I b]] [ai q],.n q true]):
 al 198 [.agg [I a,I b]] [.agg [I a,I b],ai false]:=
 h.of
theorem avB(h:ae [.r 201 [.agg [I b,I a]] [ai q],.n q false,.b (decide (a>=6)) true]):
 al 198 [.agg [I b,I a]] [.agg [I b,I a],ai false]:=
 h.of
theorem avC(h:ae [.r 201 [.agg [I b,I a]] [ai q],.n q false,.b (decide (a>=6)) false,.u a]):
 al 198 [.agg [I b,I a]] [.agg [I b,I (a+1)],ai true]:=
 h.of
theorem avD(h:ae [.r 180 [.agg [I a,I b]] [ai q],.n q true]):
 al 190 [.agg [I a,I b]] [.agg [I a,I b],ai false]:=
 h.of
theorem avE(h:ae [.r 180 [.agg [I b,I a]] [ai q],.n q false,.b (a==6) true]):
 al 190 [.agg [I b,I a]] [.agg [I b,I a],ai false]:=
 h.of
theorem avF(h:ae [.r 180 [.agg [I b,I a]] [ai q],.n q false,.b (a==6) false,.u a]):
 al 190 [.agg [I b,I a]] [.agg [I b,I (a+1)],ai true]:=
 h.of
def VY(a b c:Int)(A:af)(q:Bool)(l:List O):List O:=.r 183 [.agg (bk a b c A)] [ai q]::l
theorem avG(h:ae (VY a b c A q [.n q true])):
 al 195 [.agg (bk a b c A),ag d,ag e] [ag d,ag e,ai false]:=
 h.of
def VZ(a b c:Int)(A:af)(q:Bool)(d:Int)(r:Bool)(l:List O):List O:=VY a b c A q (.n q false::.r 65 [ag d,ag 0,ag 99] [ai r]::l)
theorem avH(h:ae (VZ b c d A q a r [.n r true])):
 al 195 [.agg (bk b c d A),ag a,ag e] [ag a,ag e,ai false]:=
 h.of
def Bz(a b c:Int)(A:af)(q:Bool)(d:Int)(r:Bool)(e:Int)(s:Bool)(l:List O):List O:=VZ a b c A q d r (.n r false::.r 65 [ag e,ag 0,ag 999] [ai s]::l)
theorem avI(h:ae (Bz c d e A q a r b s [.n s true])):
 al 195 [.agg (bk c d e A),ag a,ag b] [ag a,ag b,ai false]:=
 h.of
theorem avJ(h:ae (Bz c a e A q d r b s [.n s false,.b (c==2) true,.v (b+a),.r 213 [ag (b+a),ag 999] [ag f]])):
 al 195 [.agg (bk c a e A),ag d,ag b] [ag d,ag f,ai true]:=
 h.of
theorem avK(h:ae (Bz a b e A q c r d s [.n s false,.b (a==2) false,.b (a==4) true,.v (c+b),.p ((100:Int)≠0)])):
 al 195 [.agg (bk a b e A),ag c,ag d] [ag ((c+b).tmod 100),ag d,ai true]:=
 h.of
theorem avL(h:ae (Bz a b d A q c r e s [.n s false,.b (a==2) false,.b (a==4) false,.b (a==3) true,.p (b≠0)])):
 al 195 [.agg (bk a b d A),ag c,ag e] [ag c,ag e,ai (c.tmod b==d)]:=
 h.of
theorem avM(h:ae (Bz a d e A q b r c s [.n s false,.b (a==2) false,.b (a==4) false,.b (a==3) false])):
 al 195 [.agg (bk a d e A),ag b,ag c] [ag b,ag c,ai (a != 8)]:=
 h.of
def V0(a b c:Int)(A:af)(q:Bool)(l:List O):List O:=.r 128 [.agg (bk a b c A)] [ai q]::l
theorem avN(h:ae (V0 a b c A q [.n q true])):
 al 188 [.agg (bk a b c A),ag d,ag e] [ag d,ag e,ai false]:=
 h.of
def BA(a b c:Int)(A:af)(q:Bool)(d e:Int)(r:Bool)(l:List O):List O:=V0 a b c A q (.n q false::.r 181 [ag d,ag e] [ai r]::l)
theorem avO(h:ae (BA c d e A q a b r [.n r true])):
 al 188 [.agg (bk c d e A),ag a,ag b] [ag a,ag b,ai false]:=
 h.of
theorem avP(h:ae (BA c a e A q d b r [.n r false,.b (c==2) true,.v (b+a)])):
 al 188 [.agg (bk c a e A),ag d,ag b] [ag d,ag (if b+a<999 then b+a else 999),ai true]:=
 h.of
theorem avQ(h:ae (BA a b e A q c d r [.n r false,.b (a==2) false,.b (a==4) true,.v (c+b),.p ((100:Int)≠0)])):
 al 188 [.agg (bk a b e A),ag c,ag d] [ag ((c+b).tmod 100),ag d,ai true]:=
 h.of
theorem avR(h:ae (BA a b d A q c e r [.n r false,.b (a==2) false,.b (a==4) false,.b (a==3) true,.p (b≠0)])):
 al 188 [.agg (bk a b d A),ag c,ag e] [ag c,ag e,ai (c.tmod b==d)]:=
 h.of
theorem avS(h:ae (BA a d e A q b c r [.n r false,.b (a==2) false,.b (a==4) false,.b (a==3) false])):
 al 188 [.agg (bk a d e A),ag b,ag c] [ag b,ag c,ai (a != 8)]:=
 h.of
theorem avT(h:ae [.b (decide (a<b)) true]):
 al 213 [ag b,ag a] [ag a]:=
 h.of
theorem avU(h:ae [.b (decide (b<a)) false]):
 al 213 [ag a,ag b] [ag a]:=
 h.of
theorem avV(h:ae [.r 64 [ag a,ag 0,ag 99] [ai q],.b q true,.r 64 [ag b,ag 0,ag 999] [ai r]]):
 al 181 [ag a,ag b] [ai r]:=
 h.of
theorem avW(h:ae [.r 64 [ag a,ag 0,ag 99] [ai q],.b q false]):
 al 181 [ag a,ag b] [ai false]:=
 h.of
