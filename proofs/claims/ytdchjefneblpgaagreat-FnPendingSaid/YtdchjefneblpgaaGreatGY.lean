import Derived.Test.YtdchjefneblpgaaGreatGE
set_option linter.unusedVariables false
set_option linter.unusedSimpArgs false
namespace Go.Proofs.YtdchjefneblpgaaGreat
open Go.Sx Go.RowKit
variable {a b c d e f g i j k l m n o p a0 cf dg d0 bE f0 : Int} {A C E F G H aw K L M N Q R S bO V X Y Z fu : ai} {q r : Bool}
theorem afs(h:ak [.r 121 [.agg (bS A a b)] [aI q],.n q true]):
 aK 14 [.agg (bS A a b),a7 5 C] [.agg (cl [] 0 0 [] [] [] []),aI false]:=
 h.of
theorem aft(h:ak [.r 121 [.agg (bS A a b)] [aI q],.n q false,.b (decide ((C.length:Int)>20)) true]):
 aK 14 [.agg (bS A a b),a7 5 C] [.agg (cl [] 0 0 [] [] [] []),aI false]:=
 h.of
def qm(A:ai)(a b c:Int)(C:ai)(d e:Int):aE:=bi 84 [(1,dX 5 A),(2,aS 2),(4,aS 4),(6,aZ a)] [(4,[.v (aO),aq b,aq c,.v (aO),.v (aO),.v (aO),.v (aO)]),(2,[.J .free 4 C,aq d,aq e])]
def yR(q:Bool)(a b:Int):aE:=bi 84 [(4,aS 4),(5,.aD (.one (.bg q)))] [(4,[.v (aO),aq a,aq b,.v (aO),.v (aO),.v (aO),.v (aO)])]
def FM(A:ai)(a b c d e f:Int)(q:Bool)(l:List O):List O:=.i A a (bu b c d e f)::.r 122 [.agg (bu b c d e f)] [aI q]::l
theorem afu(h:ak (FM A f a b c d e q [.n q true])):
 bb (az Tryz.f14 0) (qm A f i j C k g) .ret (yR false 0 0):=
 h.a' [4,5] [4]
theorem afv(h:ak (FM A a b c d e f q [.n q false,.x A a (bu g j k l m),.b (g != 0) true])):
 bb (az Tryz.f14 0) (qm A a n o C p i) .ret (yR false 0 0):=
 h.a' [4,5] [4]
theorem afw(h:ak (FM A a b c d e f q [.n q false,.x A a (bu g k l m n),.b (g != 0) false,.x A a (bu o p i a0 cf),.b (i != 0) true])):
 bb (az Tryz.f14 0) (qm A a dg d0 C bE j) .ret (yR false 0 0):=
 h.a' [4,5] [4]
theorem afx(h:ak (FM A a c d e f g q [.n q false,.x A a (bu i n o p a0),.b (i != 0) false,.x A a (bu cf dg j d0 bE),.b (j != 0) false,.u a])):
 bb (az Tryz.f14 0) (qm A a k l C m b) .normal (qm A (a+1) k l C m b):=
 h.a' [6,1,4,2] [4,2]
def Lx(A:ai)(a b:Int)(C:ai)(c d:Int):aE:=bi 84 [(1,dX 5 A),(2,aS 2),(4,aS 4)] [(4,[.v (aO),aq a,aq b,.v (aO),.v (aO),.v (aO),.v (aO)]),(2,[.J .free 4 C,aq c,aq d])]
theorem afy(h:ak [.f A b false]):
 bb (az Tryz.f14 0) (qm A b c d C e a) (.exit 0) (Lx A c d C e a):=
 h.a' [2,1,4] [4,2]
theorem afz(h:ak [.r 121 [.agg (bS A a b)] [aI q],.n q false,.b (decide ((C.length:Int)>20)) false,.l [] [6,1,4,2] [4,2] (az Tryz.f14 0) (qm C 0 0 0 A a b) .ret (yR r c d)]):
 aK 14 [.agg (bS A a b),a7 5 C] [.agg (cl [] c d [] [] [] []),aI r]:=
 h.of
def yS(A:ai)(a:Int)(E:ai)(d e:Int)(F G H:ai)(f g:Int)(C:ai)(b c:Int):aE:=bi 84 [(1,dX 5 A),(2,aS 2),(4,aS 4),(7,aS 7),(8,aZ a)] [(7,[ay 510000 4 E,aq d,aq e,ay 67 8 F,ay 81 6 G,ay 51 5 H,.v (aO)]),(4,[.v (aO),aq f,aq g,.v (aO),.v (aO),.v (aO),.v (aO)]),(2,[.J .free 4 C,aq b,aq c])]
def BD(A:ai)(a e:Int)(E:ai)(f g:Int)(F G H:ai)(i b:Int)(C:ai)(c d:Int):aE:=bi 84 [(1,dX 5 A),(2,aS 2),(4,aS 4),(7,aS 7),(8,aZ a),(9,aZ e)] [(7,[ay 510000 4 E,aq f,aq g,ay 67 8 F,ay 81 6 G,ay 51 5 H,.v (aO)]),(4,[.v (aO),aq i,aq b,.v (aO),.v (aO),.v (aO),.v (aO)]),(2,[.J .free 4 C,aq c,aq d])]
theorem afA(h:ak [.b (decide (a<b)) true,.r 126 [al c] [.agg (cI d C e f g i)],.a .wr,.g A [(cI d C e f g i)] 64,.u a]):
 bb (az Tryz.f14 2) (BD E j a F k l G A H m n aw b c) .normal (BD E j (a+1) F k l G (A++[(cI d C e f g i)]) H m n aw b c):=
 h.a' [9,2,7,8,1,4] [7,4,2]
def S7(A:ai)(a:Int)(E:ai)(d e:Int)(F G H:ai)(f g:Int)(C:ai)(b c:Int):aE:=bi 84 [(1,dX 5 A),(2,aS 2),(4,aS 4),(7,aS 7),(8,aZ a)] [(7,[ay 510000 4 E,aq d,aq e,ay 67 8 F,ay 81 6 G,ay 51 5 H,.v (aO)]),(4,[.v (aO),aq f,aq g,.v (aO),.v (aO),.v (aO),.v (aO)]),(2,[.J .free 4 C,aq b,aq c])]
theorem afB(h:ak [.b (decide (c<a)) false]):
 bb (az Tryz.f14 2) (BD A b c C d e E F G f g H a i) (.exit 4) (S7 A b C d e E F G f g H a i):=
 h.a' [8,2,7,1,4] [7,4,2]
theorem aeM(h:ak [.b (decide (a<b)) true,.r 125 [.agg (bS E b c),a7 5 A,al a] [a7 5 bO],.r 124 [a7 5 bO] [.agg (bz F G H aw K L M N)],.a .wr,.g C [(bz F G H aw K L M N)] 192,.l [] [9,2,7,8,1,4] [7,4,2] (az Tryz.f14 2) (BD A a 0 Q d e (C++[(bz F G H aw K L M N)]) R S f g E b c) (.exit 4) (S7 A a V i j X Y Z k l fu m n),.u a]):
 bb (az Tryz.f14 1) (yS A a Q d e C R S f g E b c) .normal (yS A (a+1) V i j X Y Z k l fu m n):=
 h.a' [8,2,7,1,4] [7,4,2]
def Ly(A:ai)(a b:Int)(C E F:ai)(c d:Int):aE:=bi 84 [(4,aS 4),(7,aS 7)] [(7,[ay 510000 4 A,aq a,aq b,ay 67 8 C,ay 81 6 E,ay 51 5 F,.v (aO)]),(4,[.v (aO),aq c,aq d,.v (aO),.v (aO),.v (aO),.v (aO)])]
theorem aeN(h:ak [.b (decide (a<f)) false]):
 bb (az Tryz.f14 1) (yS H a A b c C E F d e G f g) (.exit 2) (Ly A b c C E F d e):=
 h.a' [7,4] [7,4]
theorem aeO(h:ak [.r 121 [.agg (bS C a b)] [aI q],.n q false,.b (decide ((A.length:Int)>20)) false,.l [] [6,1,4,2] [4,2] (az Tryz.f14 0) (qm A 0 0 0 C a b) (.exit 0) (Lx A j k E c d),.r 123 [.agg (bS E c d)] [.agg (bS F e f)],.p ((0:Int)<=4),.p ((4:Int)<=4),.p (((↑32:Int)*4:Int)<=281474976710656),.p ((4:Int)<=9223372036854775807),.l [(8000003,67,8),(8000004,81,6)] [8,2,7,1,4] [7,4,2] (az Tryz.f14 1) (yS A 0 F e f [] [] (List.replicate 4 [B false,I 0,I 0,B false,B false]) j k E c d) (.exit 2) (Ly G g i H aw K l m)]):
 aK 14 [.agg (bS C a b),a7 5 A] [.agg (cl G g i H aw K []),aI true]:=
 h.of
def BE(A:ai)(a b:Int)(C:ai)(c d:Int)(E:ai):aE:=bi 49 [(1,dX 5 C),(2,aZ c),(3,aS 3),(7,aB.aD (bd.one (ay 10 5 E))),(8,aZ d)] [(3,[.J .free 4 A,aq a,aq b])]
def s4(A:ai)(a b:Int)(C:ai)(c d e:Int)(E:ai):aE:=bi 49 [(1,dX 5 C),(2,aZ c),(3,aS 3),(7,aB.aD (bd.one (ay 10 5 E))),(8,aZ d),(9,aZ e)] [(3,[.J .free 4 A,aq a,aq b])]
theorem aeP(h:ak [.i A a (bu f0 k o p a0),.b (k==j) true,.x A a (bu cf dg d0 l bE),.r 245 [al l,al g] [al m],.b (m==i) true,.x A a (bu b c d e f),.g C [(bu b c d e f)] 40,.h [(bu b c d e f)],.u a]):
 bb (az Tryz.f125 1) (s4 E g n A i j a C) .normal (s4 E g n A i j (a+1) (C++[(bu b c d e f)])):=
 h.a' [9,1,8,3,2,7] [3]
theorem aeQ(h:ak [.i A a (bu a0 e j k l),.b (e==d) true,.x A a (bu m n o f p),.r 245 [al f,al b] [al g],.b (g==c) false,.u a]):
 bb (az Tryz.f125 1) (s4 C b i A c d a E) .normal (s4 C b i A c d (a+1) E):=
 h.a' [9,1,8,3,2,7] [3]
theorem aeR(h:ak [.i A a (bu k d g i j),.b (d==b) false,.u a]):
 bb (az Tryz.f125 1) (s4 C c e A f b a E) .normal (s4 C c e A f b (a+1) E):=
 h.a' [9,1,8,3,2,7] [3]
def S8(A:ai)(a b:Int)(C:ai)(c d:Int)(E:ai):aE:=bi 49 [(1,dX 5 C),(2,aZ c),(3,aS 3),(7,aB.aD (bd.one (ay 10 5 E))),(8,aZ d)] [(3,[.J .free 4 A,aq a,aq b])]
theorem aeS(h:ak [.f A e false]):
 bb (az Tryz.f125 1) (s4 C a b A c d e E) (.exit 2) (S8 C a b A c d E):=
 h.a' [8,1,3,2,7] [3]
theorem aeT(h:ak [.b (decide (a<=3)) true,.l [] [9,1,8,3,2,7] [3] (az Tryz.f125 1) (s4 A b c C d a 0 E) (.exit 2) (S8 A b c C d a F),.u a]):
 bb (az Tryz.f125 0) (BE A b c C d a E) .normal (BE A b c C d (a+1) F):=
 h.a' [8,1,3,2,7] [3]
def S9(A:ai):aE:=bi 49 [(7,aB.aD (bd.one (ay 10 5 A)))] []
theorem aeU(h:ak [.b (decide (a<=3)) false]):
 bb (az Tryz.f125 0) (BE C b c E d a A) (.exit 0) (S9 A):=
 h.a' [7] []
theorem aeV(h:ak [.l [] [8,1,3,2,7] [3] (az Tryz.f125 0) (BE A a b C c 0 []) (.exit 0) (S9 E)]):
 aK 125 [.agg (bS A a b),a7 5 C,al c] [a7 5 E]:=
 h.of
theorem aeW(h:ak [.r 130 [al b,al 1,al 4] [al a]]):
 aK 126 [al b] [.agg (cI a [] a 0 0 0)]:=
 h.of
theorem aeX(h:ak [.g ([]:ai) A 40,.h A,.p ((0:Int)<=4),.p ((4:Int)<=4),.p (((↑8:Int)*4:Int)<=281474976710656),.p ((4:Int)<=9223372036854775807),.p ((0:Int)<=4),.p ((4:Int)<=4),.p (((↑1:Int)*4:Int)<=281474976710656),.p ((4:Int)<=9223372036854775807),.p ((0:Int)<=4),.p ((4:Int)<=4),.p (((↑1:Int)*4:Int)<=281474976710656),.p ((4:Int)<=9223372036854775807)]):
 aK 124 [a7 5 A] [.agg (bz [] [] ([]++A) [] (List.replicate 4 [I 0]) (List.replicate 4 [B false]) (List.replicate 4 [B false]) [])]:=
 h.of
