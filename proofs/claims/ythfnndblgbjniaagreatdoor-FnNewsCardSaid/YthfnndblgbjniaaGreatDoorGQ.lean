import Derived.Test.YthfnndblgbjniaaGreatDoorGE
namespace Go.Proofs.YthfnndblgbjniaaGreatDoor
open Go.Sx Go.RowKit
variable {a b c d e f g i j k l : Int} {A C E F : ae} {q r s t : Bool}
def Tl(A:ae)(q:Bool)(l:List O):List O:=.r 65 [ag (A.length:Int),ag 1,ag 8] [ar q]::l
theorem aof(h:af (Tl A q [.n q true])):
 ax 138 [.agg (bC A a b)] [ar false]:=
 h.of
def Dy(A:ae)(q:Bool)(a:Int)(r:Bool)(l:List O):List O:=Tl A q (.n q false::.r 65 [ag a,ag 1,ag 4] [ar r]::l)
theorem aog(h:af (Dy A q a r [.n r true])):
 ax 138 [.agg (bC A a b)] [ar false]:=
 h.of
theorem anp(h:af (Dy A q a r [.n r false,.r 65 [ag b,ag 1,ag 4] [ar s],.n s true])):
 ax 138 [.agg (bC A a b)] [ar false]:=
 h.of
def mO(a:Int)(A:ae)(b c:Int):aD:=bd 97 [(1,aN 1),(3,aU a)] [(1,[.J .free 4 A,ak b,ak c])]
def uh(q:Bool):aD:=bd 97 [(2,.az (.one (.a1 q)))] []
def Dz(A:ae)(a b c d:Int)(C:ae)(q:Bool)(l:List O):List O:=.i A a (bi b c d C)::.r 183 [.agg (bi b c d C)] [ar q]::l
theorem anq(h:af (Dz C d a b c A q [.n q true])):
 aX (aq Tryz.f138 0) (mO d C e f) .ret (uh false):=
 h.aV [2] []
theorem anr(h:af (Dz C b a c d A q [.n q false,.b (!(a==1)==(b==0)) true])):
 aX (aq Tryz.f138 0) (mO b C e f) .ret (uh false):=
 h.aV [2] []
def hn(a:Int)(A:ae)(b c d e f:Int)(C:ae)(g:Int):aD:=bd 97 [(1,aN 1),(3,aU a),(4,aN 4),(5,aU g)] [(4,[ak d,ak e,ak f,.J .free 1 C]),(1,[.J .free 4 A,ak b,ak c])]
def pX(q:Bool):aD:=bd 97 [(2,.az (.one (.a1 q)))] []
theorem ant(h:af [.i A a [I b],.b (decide (b>=(C.length:Int))) true]):
 aX (aq Tryz.f138 1) (hn f C g i c d e A a) .ret (pX false):=
 h.aV [2] []
def DB(A:ae)(a b:Int)(C:ae)(l:List O):List O:=.i A a [I b]::.b (decide (b>=(C.length:Int))) false::l
theorem anu(h:af (DB A c a C [.b (b != 7) true,.b (decide (a<=d)) true])):
 aX (aq Tryz.f138 1) (hn d C g i b e f A c) .ret (pX false):=
 h.aV [2] []
def zI(A:ae)(a b:Int)(C:ae)(c d e f g:Int)(E:ae)(l:List O):List O:=DB A a b C (.b (c != 7) true::.b (decide (b<=d)) false::.x C b (bi e f g E)::l)
theorem anv(h:af (zI C d a A b c g i j E [.b (b==7) true,.b (decide (a>c)) true])):
 aX (aq Tryz.f138 1) (hn c A k l b e f C d) .ret (pX false):=
 h.aV [2] []
theorem anw(h:af (zI C e a A b d c i j E [.b (b==7) true,.b (decide (a>d)) false,.b (c != 5) true,.b (c != 6) true])):
 aX (aq Tryz.f138 1) (hn d A k l b f g C e) .ret (pX false):=
 h.aV [2] []
theorem anx(h:af (zI C c a A b d e k l E [.b (b==7) true,.b (decide (a>d)) false,.b (e != 5) true,.b (e != 6) false,.u c])):
 aX (aq Tryz.f138 1) (hn d A i j b f g C c) .normal (hn d A i j b f g C (c+1)):=
 h.aV [5,4,1,3] [4,1]
theorem anz(h:af (zI C c a A b d g k l E [.b (b==7) true,.b (decide (a>d)) false,.b (g != 5) false,.u c])):
 aX (aq Tryz.f138 1) (hn d A i j b e f C c) .normal (hn d A i j b e f C (c+1)):=
 h.aV [5,4,1,3] [4,1]
theorem anA(h:af (zI C b c A a d j k l E [.b (a==7) false,.u b])):
 aX (aq Tryz.f138 1) (hn d A g i a e f C b) .normal (hn d A g i a e f C (b+1)):=
 h.aV [5,4,1,3] [4,1]
def zJ(A:ae)(a b:Int)(C:ae)(c d e f:Int)(E:ae)(l:List O):List O:=DB A a b C (.b (c != 7) false::.x C b (bi d e f E)::l)
theorem anB(h:af (zJ C c a A b g i j E [.b (b==7) true,.b (decide (a>d)) true])):
 aX (aq Tryz.f138 1) (hn d A k l b e f C c) .ret (pX false):=
 h.aV [2] []
theorem anC(h:af (zJ C d a A b c i j E [.b (b==7) true,.b (decide (a>e)) false,.b (c != 5) true,.b (c != 6) true])):
 aX (aq Tryz.f138 1) (hn e A k l b f g C d) .ret (pX false):=
 h.aV [2] []
theorem anD(h:af (zJ C b c A a d k l E [.b (a==7) true,.b (decide (c>e)) false,.b (d != 5) true,.b (d != 6) false,.u b])):
 aX (aq Tryz.f138 1) (hn e A i j a f g C b) .normal (hn e A i j a f g C (b+1)):=
 h.aV [5,4,1,3] [4,1]
theorem anE(h:af (zJ C b c A a g k l E [.b (a==7) true,.b (decide (c>d)) false,.b (g != 5) false,.u b])):
 aX (aq Tryz.f138 1) (hn d A i j a e f C b) .normal (hn d A i j a e f C (b+1)):=
 h.aV [5,4,1,3] [4,1]
theorem anF(h:af (zJ C b c A a j k l E [.b (a==7) false,.u b])):
 aX (aq Tryz.f138 1) (hn f A g i a d e C b) .normal (hn f A g i a d e C (b+1)):=
 h.aV [5,4,1,3] [4,1]
def Jy(a:Int)(A:ae)(b c:Int):aD:=bd 97 [(1,aN 1),(3,aU a)] [(1,[.J .free 4 A,ak b,ak c])]
theorem anG(h:af [.f A a false]):
 aX (aq Tryz.f138 1) (hn b C c d e f g A a) (.exit 2) (Jy b C c d):=
 h.aV [3,1] [1]
theorem anH(h:af (Dz C b a c d A q [.n q false,.b (!(a==1)==(b==0)) false,.l [] [5,4,1,3] [4,1] (aq Tryz.f138 1) (hn b C e f a c d A 0) .ret (pX r)])):
 aX (aq Tryz.f138 0) (mO b C e f) .ret (uh r):=
 h.aV [2] []
theorem anI(h:af (Dz A a b e f C q [.n q false,.b (!(b==1)==(a==0)) false,.l [] [5,4,1,3] [4,1] (aq Tryz.f138 1) (hn a A c d b e f C 0) (.exit 2) (Jy a A c d),.u a])):
 aX (aq Tryz.f138 0) (mO a A c d) .normal (mO (a+1) A c d):=
 h.aV [3,1] [1]
def Jz:aD:=bd 97 [] []
theorem anJ(h:af [.f A a false]):
 aX (aq Tryz.f138 0) (mO a A b c) (.exit 0) Jz:=
 h.aV [] []
theorem anK(h:af (Dy A q a r [.n r false,.r 65 [ag b,ag 1,ag 4] [ar s],.n s false,.l [] [3,1] [1] (aq Tryz.f138 0) (mO 0 A a b) .ret (uh t)])):
 ax 138 [.agg (bC A a b)] [ar t]:=
 h.of
theorem anL(h:af (Dy A q a r [.n r false,.r 65 [ag b,ag 1,ag 4] [ar s],.n s false,.l [] [3,1] [1] (aq Tryz.f138 0) (mO 0 A a b) (.exit 0) Jz])):
 ax 138 [.agg (bC A a b)] [ar true]:=
 h.of
def Tm(A:ae)(q:Bool)(l:List O):List O:=.r 64 [ag (A.length:Int),ag 1,ag 8] [ar q]::l
theorem anM(h:af (Tm A q [.n q true])):
 ax 78 [.agg (bC A a b)] [ar false]:=
 h.of
def DC(A:ae)(q:Bool)(a:Int)(r:Bool)(l:List O):List O:=Tm A q (.n q false::.r 64 [ag a,ag 1,ag 4] [ar r]::l)
theorem anN(h:af (DC A q a r [.n r true])):
 ax 78 [.agg (bC A a b)] [ar false]:=
 h.of
theorem anO(h:af (DC A q a r [.n r false,.r 64 [ag b,ag 1,ag 4] [ar s],.n s true])):
 ax 78 [.agg (bC A a b)] [ar false]:=
 h.of
def mP(A:ae)(a:Int)(C:ae)(b c:Int):aD:=bd 90 [(1,aN 1),(26,cQ 4 A),(27,aU (A.length:Int)),(28,aU a)] [(1,[.J .free 4 C,ak b,ak c])]
def ui(q:Bool):aD:=bd 90 [(2,.az (.one (.a1 q)))] []
def DA(A:ae)(a b c d:Int)(C:ae)(q:Bool)(l:List O):List O:=.i A a (bi b c d C)::.r 128 [.agg (bi b c d C)] [ar q]::l
theorem anP(h:af (DA A d a b c C q [.n q true])):
 aX (aq Tryz.f78 0) (mP A d E e f) .ret (ui false):=
 h.aV [2] []
theorem anQ(h:af (DA A b a c d C q [.n q false,.b (!(a==1)==(b==0)) true])):
 aX (aq Tryz.f78 0) (mP A b E e f) .ret (ui false):=
 h.aV [2] []
def ho(C:ae)(a:Int)(E:ae)(b c d e f:Int)(A:ae)(g:Int):aD:=bd 90 [(1,aN 1),(3,aU a),(4,aN 4),(26,cQ 4 C),(27,aU (C.length:Int)),(28,aU a),(45,cQ 1 A),(46,aU (A.length:Int)),(47,aU g)] [(4,[ak d,ak e,ak f,.J .free 1 A]),(1,[.J .free 4 E,ak b,ak c])]
def pY(q:Bool):aD:=bd 90 [(2,.az (.one (.a1 q)))] []
theorem anf(h:af [.i A a [I b],.b (decide (b>=(C.length:Int))) true]):
 aX (aq Tryz.f78 1) (ho E f C g i c d e A a) .ret (pY false):=
 h.aV [2] []
def zK(A:ae)(a b:Int)(C:ae)(c d e:Int)(E:ae)(l:List O):List O:=DB A a b C (.x C b (bi c d e E)::l)
theorem ang(h:af (zK C c a A g i j F [.b (b==7) true,.b (decide (a>d)) true])):
 aX (aq Tryz.f78 1) (ho E d A k l b e f C c) .ret (pY false):=
 h.aV [2] []
def vi(A:ae)(a b:Int)(C:ae)(c d e:Int)(E:ae)(f g:Int)(l:List O):List O:=zK A a b C c d e E (.b (f==7) true::.b (decide (b>g)) false::l)
theorem anh(h:af (vi C d a A b i j F c e [.b (b != 5) true,.b (b != 6) true])):
 aX (aq Tryz.f78 1) (ho E e A k l c f g C d) .ret (pY false):=
 h.aV [2] []
theorem ani(h:af (vi C e a A c i j F b d [.b (c != 5) true,.b (c != 6) false,.b (b != 7) true,.b (decide (a<=d)) true])):
 aX (aq Tryz.f78 1) (ho E d A k l b f g C e) .ret (pY false):=
 h.aV [2] []
theorem anj(h:af (vi C c a A e k l F b d [.b (e != 5) true,.b (e != 6) false,.b (b != 7) true,.b (decide (a<=d)) false,.u c])):
 aX (aq Tryz.f78 1) (ho E d A i j b f g C c) .normal (ho E d A i j b f g C (c+1)):=
 h.aV [47,46,45,1,4,3,28,27,26] [4,1]
theorem ank(h:af (vi C b c A d k l F a e [.b (d != 5) true,.b (d != 6) false,.b (a != 7) false,.u b])):
 aX (aq Tryz.f78 1) (ho E e A i j a f g C b) .normal (ho E e A i j a f g C (b+1)):=
 h.aV [47,46,45,1,4,3,28,27,26] [4,1]
theorem anl(h:af (vi C d a A e i j F b c [.b (e != 5) false,.b (b != 7) true,.b (decide (a<=c)) true])):
 aX (aq Tryz.f78 1) (ho E c A k l b f g C d) .ret (pY false):=
 h.aV [2] []
theorem anm(h:af (vi C c a A g k l F b d [.b (g != 5) false,.b (b != 7) true,.b (decide (a<=d)) false,.u c])):
 aX (aq Tryz.f78 1) (ho E d A i j b e f C c) .normal (ho E d A i j b e f C (c+1)):=
 h.aV [47,46,45,1,4,3,28,27,26] [4,1]
theorem ann(h:af (vi C b c A g k l F a d [.b (g != 5) false,.b (a != 7) false,.u b])):
 aX (aq Tryz.f78 1) (ho E d A i j a e f C b) .normal (ho E d A i j a e f C (b+1)):=
 h.aV [47,46,45,1,4,3,28,27,26] [4,1]
theorem ano(h:af (zK C c a A g i j F [.b (b==7) false,.b (b != 7) true,.b (decide (a<=d)) true])):
 aX (aq Tryz.f78 1) (ho E d A k l b e f C c) .ret (pY false):=
 h.aV [2] []
theorem aoR(h:af (zK C b c A j k l F [.b (a==7) false,.b (a != 7) true,.b (decide (c<=d)) false,.u b])):
 aX (aq Tryz.f78 1) (ho E d A g i a e f C b) .normal (ho E d A g i a e f C (b+1)):=
 h.aV [47,46,45,1,4,3,28,27,26] [4,1]
theorem aoS(h:af (zK C b c A j k l F [.b (a==7) false,.b (a != 7) false,.u b])):
 aX (aq Tryz.f78 1) (ho E f A g i a d e C b) .normal (ho E f A g i a d e C (b+1)):=
 h.aV [47,46,45,1,4,3,28,27,26] [4,1]
def JA(A:ae)(a:Int)(C:ae)(b c:Int):aD:=bd 90 [(1,aN 1),(26,cQ 4 A),(27,aU (A.length:Int)),(28,aU a)] [(1,[.J .free 4 C,ak b,ak c])]
theorem aoT(h:af [.f C a false]):
 aX (aq Tryz.f78 1) (ho A b E c d e f g C a) (.exit 2) (JA A b E c d):=
 h.aV [28,27,26,1] [1]
theorem aoU(h:af (DA A b a c d C q [.n q false,.b (!(a==1)==(b==0)) false,.l [] [47,46,45,1,4,3,28,27,26] [4,1] (aq Tryz.f78 1) (ho A b E e f a c d C 0) .ret (pY r)])):
 aX (aq Tryz.f78 0) (mP A b E e f) .ret (ui r):=
 h.aV [2] []
theorem aoV(h:af (DA A a b e f E q [.n q false,.b (!(b==1)==(a==0)) false,.l [] [47,46,45,1,4,3,28,27,26] [4,1] (aq Tryz.f78 1) (ho A a C c d b e f E 0) (.exit 2) (JA A a C c d),.u a])):
 aX (aq Tryz.f78 0) (mP A a C c d) .normal (mP A (a+1) C c d):=
 h.aV [28,27,26,1] [1]
def JB:aD:=bd 90 [] []
theorem aoW(h:af [.f A a false]):
 aX (aq Tryz.f78 0) (mP A a C b c) (.exit 0) JB:=
 h.aV [] []
theorem aoX(h:af (DC A q a r [.n r false,.r 64 [ag b,ag 1,ag 4] [ar s],.n s false,.l [] [28,27,26,1] [1] (aq Tryz.f78 0) (mP A 0 A a b) .ret (ui t)])):
 ax 78 [.agg (bC A a b)] [ar t]:=
 h.of
theorem aoY(h:af (DC A q a r [.n r false,.r 64 [ag b,ag 1,ag 4] [ar s],.n s false,.l [] [28,27,26,1] [1] (aq Tryz.f78 0) (mP A 0 A a b) (.exit 0) JB])):
 ax 78 [.agg (bC A a b)] [ar true]:=
 h.of
def KR(a:Int)(q:Bool)(b c:Int)(r:Bool)(l:List O):List O:=.r 65 [ag a,ag 0,ag 7] [ar q]::.b q true::.r 201 [.agg [I b,I c]] [ar r]::l
theorem aoZ(h:af (KR a q b c r [.b r true,.r 65 [ag d,ag 0,ag 99] [ar s],.b s true,.r 65 [ag e,ag 0,ag 999] [ar t]])):
 ax 167 [.agg (bw a b c d e)] [ar t]:=
 h.of
theorem ao0(h:af (KR a q b c r [.b r true,.r 65 [ag d,ag 0,ag 99] [ar s],.b s false])):
 ax 167 [.agg (bw a b c d e)] [ar false]:=
 h.of
theorem ao1(h:af (KR a q b c r [.b r false])):
 ax 167 [.agg (bw a b c d e)] [ar false]:=
 h.of
theorem ao2(h:af [.r 65 [ag a,ag 0,ag 7] [ar q],.b q false]):
 ax 167 [.agg (bw a b c d e)] [ar false]:=
 h.of
theorem ao3(h:af [.r 64 [ag a,ag 0,ag 7] [ar q],.b q true,.r 180 [.agg [I b,I c]] [ar r],.b r true,.r 181 [ag d,ag e] [ar s]]):
 ax 131 [.agg (bw a b c d e)] [ar s]:=
 h.of
theorem ao4(h:af [.r 64 [ag a,ag 0,ag 7] [ar q],.b q true,.r 180 [.agg [I b,I c]] [ar r],.b r false]):
 ax 131 [.agg (bw a b c d e)] [ar false]:=
 h.of
theorem ao5(h:af [.r 64 [ag a,ag 0,ag 7] [ar q],.b q false]):
 ax 131 [.agg (bw a b c d e)] [ar false]:=
 h.of
theorem ao6(h:af [.r 65 [ag a,ag 0,ag 3] [ar q],.b q true,.r 65 [ag b,ag 0,ag 6] [ar r]]):
 ax 201 [.agg [I a,I b]] [ar r]:=
 h.of
theorem ao7(h:af [.r 65 [ag a,ag 0,ag 3] [ar q],.b q false]):
 ax 201 [.agg [I a,I b]] [ar false]:=
 h.of
theorem ao8(h:af [.r 64 [ag a,ag 0,ag 3] [ar q],.b q true,.r 64 [ag b,ag 0,ag 6] [ar r]]):
 ax 180 [.agg [I a,I b]] [ar r]:=
 h.of
theorem ao9(h:af [.r 64 [ag a,ag 0,ag 3] [ar q],.b q false]):
 ax 180 [.agg [I a,I b]] [ar false]:=
 h.of
theorem apa(h:af [.r 201 [.agg [I a,I b]] [ar q],.n q true]):
 ax 198 [.agg [I a,I b]] [.agg [I a,I b],ar false]:=
 h.of
theorem apb(h:af [.r 201 [.agg [I b,I a]] [ar q],.n q false,.b (decide (a>=6)) true]):
 ax 198 [.agg [I b,I a]] [.agg [I b,I a],ar false]:=
 h.of
theorem apc(h:af [.r 201 [.agg [I b,I a]] [ar q],.n q false,.b (decide (a>=6)) false,.u a]):
 ax 198 [.agg [I b,I a]] [.agg [I b,I (a+1)],ar true]:=
 h.of
def Tn(a b c:Int)(A:ae)(q:Bool)(l:List O):List O:=.r 183 [.agg (bi a b c A)] [ar q]::l
theorem apd(h:af (Tn a b c A q [.n q true])):
 ax 195 [.agg (bi a b c A),ag d,ag e] [ag d,ag e,ar false]:=
 h.of
def To(a b c:Int)(A:ae)(q:Bool)(d:Int)(r:Bool)(l:List O):List O:=Tn a b c A q (.n q false::.r 65 [ag d,ag 0,ag 99] [ar r]::l)
theorem ape(h:af (To b c d A q a r [.n r true])):
 ax 195 [.agg (bi b c d A),ag a,ag e] [ag a,ag e,ar false]:=
 h.of
def zL(a b c:Int)(A:ae)(q:Bool)(d:Int)(r:Bool)(e:Int)(s:Bool)(l:List O):List O:=To a b c A q d r (.n r false::.r 65 [ag e,ag 0,ag 999] [ar s]::l)
theorem apf(h:af (zL c d e A q a r b s [.n s true])):
 ax 195 [.agg (bi c d e A),ag a,ag b] [ag a,ag b,ar false]:=
 h.of
theorem apg(h:af (zL c a e A q d r b s [.n s false,.b (c==2) true,.v (b+a),.r 213 [ag (b+a),ag 999] [ag f]])):
 ax 195 [.agg (bi c a e A),ag d,ag b] [ag d,ag f,ar true]:=
 h.of
theorem aor(h:af (zL a b e A q c r d s [.n s false,.b (a==2) false,.b (a==4) true,.v (c+b),.p ((100:Int)≠0)])):
 ax 195 [.agg (bi a b e A),ag c,ag d] [ag ((c+b).tmod 100),ag d,ar true]:=
 h.of
theorem aos(h:af (zL a b d A q c r e s [.n s false,.b (a==2) false,.b (a==4) false,.b (a==3) true,.p (b≠0)])):
 ax 195 [.agg (bi a b d A),ag c,ag e] [ag c,ag e,ar (c.tmod b==d)]:=
 h.of
theorem aot(h:af (zL a d e A q b r c s [.n s false,.b (a==2) false,.b (a==4) false,.b (a==3) false])):
 ax 195 [.agg (bi a d e A),ag b,ag c] [ag b,ag c,ar (a != 8)]:=
 h.of
theorem aou(h:af [.b (decide (a<b)) true]):
 ax 213 [ag b,ag a] [ag a]:=
 h.of
theorem aov(h:af [.b (decide (b<a)) false]):
 ax 213 [ag a,ag b] [ag a]:=
 h.of
theorem aow(h:af [.r 64 [ag a,ag 0,ag 99] [ar q],.b q true,.r 64 [ag b,ag 0,ag 999] [ar r]]):
 ax 181 [ag a,ag b] [ar r]:=
 h.of
theorem aox(h:af [.r 64 [ag a,ag 0,ag 99] [ar q],.b q false]):
 ax 181 [ag a,ag b] [ar false]:=
 h.of
