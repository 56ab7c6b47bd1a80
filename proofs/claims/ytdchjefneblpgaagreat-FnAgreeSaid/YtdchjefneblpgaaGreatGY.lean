import Derived.Test.YtdchjefneblpgaaGreatGE
set_option linter.unusedVariables false
set_option linter.unusedSimpArgs false
namespace Go.Proofs.YtdchjefneblpgaaGreat
open Go.Sx Go.RowKit
variable {a b c d e f g i j k l m n o p a0 ck dT d0 cc f0 : Int} {A C E F G H au K L M N Q R S bi V X Y Z dz : ak} {q r : Bool}
theorem ajg(h:ah [.r 121 [.agg (bP A a b)] [al q],.n q true]):
 aw 14 [.agg (bP A a b),aS 5 C] [.agg (cl [] 0 0 [] [] [] []),al false]:=
 h.of
theorem ajh(h:ah [.r 121 [.agg (bP A a b)] [al q],.n q false,.b (decide ((C.length:Int)>20)) true]):
 aw 14 [.agg (bP A a b),aS 5 C] [.agg (cl [] 0 0 [] [] [] []),al false]:=
 h.of
def rE(A:ak)(a b c:Int)(C:ak)(d e:Int):aG:=bp 84 [(1,eP 5 A),(2,bE 2),(4,bE 4),(6,bf a)] [(4,[.v (a8),aM b,aM c,.v (a8),.v (a8),.v (a8),.v (a8)]),(2,[.J .free 4 C,aM d,aM e])]
def zQ(q:Bool)(a b:Int):aG:=bp 84 [(4,bE 4),(5,.bd (.one (.cg q)))] [(4,[.v (a8),aM a,aM b,.v (a8),.v (a8),.v (a8),.v (a8)])]
def Hq(A:ak)(a b c d e f:Int)(q:Bool)(l:List O):List O:=.i A a (bA b c d e f)::.r 122 [.agg (bA b c d e f)] [al q]::l
theorem aji(h:ah (Hq A f a b c d e q [.n q true])):
 aY (av Tryz.f14 0) (rE A f i j C k g) .ret (zQ false 0 0):=
 h.aR [4,5] [4]
theorem ajj(h:ah (Hq A a b c d e f q [.n q false,.x A a (bA g j k l m),.b (g != 0) true])):
 aY (av Tryz.f14 0) (rE A a n o C p i) .ret (zQ false 0 0):=
 h.aR [4,5] [4]
theorem aiu(h:ah (Hq A a b c d e f q [.n q false,.x A a (bA g k l m n),.b (g != 0) false,.x A a (bA o p i a0 ck),.b (i != 0) true])):
 aY (av Tryz.f14 0) (rE A a dT d0 C cc j) .ret (zQ false 0 0):=
 h.aR [4,5] [4]
theorem aiv(h:ah (Hq A a c d e f g q [.n q false,.x A a (bA i n o p a0),.b (i != 0) false,.x A a (bA ck dT j d0 cc),.b (j != 0) false,.u a])):
 aY (av Tryz.f14 0) (rE A a k l C m b) .normal (rE A (a+1) k l C m b):=
 h.aR [6,1,4,2] [4,2]
def LL(A:ak)(a b:Int)(C:ak)(c d:Int):aG:=bp 84 [(1,eP 5 A),(2,bE 2),(4,bE 4)] [(4,[.v (a8),aM a,aM b,.v (a8),.v (a8),.v (a8),.v (a8)]),(2,[.J .free 4 C,aM c,aM d])]
theorem aiw(h:ah [.f A b false]):
 aY (av Tryz.f14 0) (rE A b c d C e a) (.exit 0) (LL A c d C e a):=
 h.aR [2,1,4] [4,2]
theorem aix(h:ah [.r 121 [.agg (bP A a b)] [al q],.n q false,.b (decide ((C.length:Int)>20)) false,.l [] [6,1,4,2] [4,2] (av Tryz.f14 0) (rE C 0 0 0 A a b) .ret (zQ r c d)]):
 aw 14 [.agg (bP A a b),aS 5 C] [.agg (cl [] c d [] [] [] []),al r]:=
 h.of
def zR(A:ak)(a:Int)(E:ak)(d e:Int)(F G H:ak)(f g:Int)(C:ak)(b c:Int):aG:=bp 84 [(1,eP 5 A),(2,bE 2),(4,bE 4),(7,bE 7),(8,bf a)] [(7,[aV 510000 4 E,aM d,aM e,aV 67 8 F,aV 81 6 G,aV 51 5 H,.v (a8)]),(4,[.v (a8),aM f,aM g,.v (a8),.v (a8),.v (a8),.v (a8)]),(2,[.J .free 4 C,aM b,aM c])]
def CK(A:ak)(a e:Int)(E:ak)(f g:Int)(F G H:ak)(i b:Int)(C:ak)(c d:Int):aG:=bp 84 [(1,eP 5 A),(2,bE 2),(4,bE 4),(7,bE 7),(8,bf a),(9,bf e)] [(7,[aV 510000 4 E,aM f,aM g,aV 67 8 F,aV 81 6 G,aV 51 5 H,.v (a8)]),(4,[.v (a8),aM i,aM b,.v (a8),.v (a8),.v (a8),.v (a8)]),(2,[.J .free 4 C,aM c,aM d])]
theorem aiy(h:ah [.b (decide (a<b)) true,.r 126 [ag c] [.agg (b7 d C e f g i)],.a .wr,.g A [(b7 d C e f g i)] 64,.u a]):
 aY (av Tryz.f14 2) (CK E j a F k l G A H m n au b c) .normal (CK E j (a+1) F k l G (A++[(b7 d C e f g i)]) H m n au b c):=
 h.aR [9,2,7,8,1,4] [7,4,2]
def TP(A:ak)(a:Int)(E:ak)(d e:Int)(F G H:ak)(f g:Int)(C:ak)(b c:Int):aG:=bp 84 [(1,eP 5 A),(2,bE 2),(4,bE 4),(7,bE 7),(8,bf a)] [(7,[aV 510000 4 E,aM d,aM e,aV 67 8 F,aV 81 6 G,aV 51 5 H,.v (a8)]),(4,[.v (a8),aM f,aM g,.v (a8),.v (a8),.v (a8),.v (a8)]),(2,[.J .free 4 C,aM b,aM c])]
theorem aiz(h:ah [.b (decide (c<a)) false]):
 aY (av Tryz.f14 2) (CK A b c C d e E F G f g H a i) (.exit 4) (TP A b C d e E F G f g H a i):=
 h.aR [8,2,7,1,4] [7,4,2]
theorem aiA(h:ah [.b (decide (a<b)) true,.r 125 [.agg (bP E b c),aS 5 A,ag a] [aS 5 bi],.r 124 [aS 5 bi] [.agg (a' F G H au K L M N)],.a .wr,.g C [(a' F G H au K L M N)] 192,.l [] [9,2,7,8,1,4] [7,4,2] (av Tryz.f14 2) (CK A a 0 Q d e (C++[(a' F G H au K L M N)]) R S f g E b c) (.exit 4) (TP A a V i j X Y Z k l dz m n),.u a]):
 aY (av Tryz.f14 1) (zR A a Q d e C R S f g E b c) .normal (zR A (a+1) V i j X Y Z k l dz m n):=
 h.aR [8,2,7,1,4] [7,4,2]
def LM(A:ak)(a b:Int)(C E F:ak)(c d:Int):aG:=bp 84 [(4,bE 4),(7,bE 7)] [(7,[aV 510000 4 A,aM a,aM b,aV 67 8 C,aV 81 6 E,aV 51 5 F,.v (a8)]),(4,[.v (a8),aM c,aM d,.v (a8),.v (a8),.v (a8),.v (a8)])]
theorem aiB(h:ah [.b (decide (a<f)) false]):
 aY (av Tryz.f14 1) (zR H a A b c C E F d e G f g) (.exit 2) (LM A b c C E F d e):=
 h.aR [7,4] [7,4]
theorem aiC(h:ah [.r 121 [.agg (bP C a b)] [al q],.n q false,.b (decide ((A.length:Int)>20)) false,.l [] [6,1,4,2] [4,2] (av Tryz.f14 0) (rE A 0 0 0 C a b) (.exit 0) (LL A j k E c d),.r 123 [.agg (bP E c d)] [.agg (bP F e f)],.p ((0:Int)<=4),.p ((4:Int)<=4),.p (((↑32:Int)*4:Int)<=281474976710656),.p ((4:Int)<=9223372036854775807),.l [(8000003,67,8),(8000004,81,6)] [8,2,7,1,4] [7,4,2] (av Tryz.f14 1) (zR A 0 F e f [] [] (List.replicate 4 [B false,I 0,I 0,B false,B false]) j k E c d) (.exit 2) (LM G g i H au K l m)]):
 aw 14 [.agg (bP C a b),aS 5 A] [.agg (cl G g i H au K []),al true]:=
 h.of
def CL(A:ak)(a b:Int)(C:ak)(c d:Int)(E:ak):aG:=bp 49 [(1,eP 5 C),(2,bf c),(3,bE 3),(7,aI.bd (bS.one (aV 10 5 E))),(8,bf d)] [(3,[.J .free 4 A,aM a,aM b])]
def ub(A:ak)(a b:Int)(C:ak)(c d e:Int)(E:ak):aG:=bp 49 [(1,eP 5 C),(2,bf c),(3,bE 3),(7,aI.bd (bS.one (aV 10 5 E))),(8,bf d),(9,bf e)] [(3,[.J .free 4 A,aM a,aM b])]
theorem aiD(h:ah [.i A a (bA f0 k o p a0),.b (k==j) true,.x A a (bA ck dT d0 l cc),.r 245 [ag l,ag g] [ag m],.b (m==i) true,.x A a (bA b c d e f),.g C [(bA b c d e f)] 40,.h [(bA b c d e f)],.u a]):
 aY (av Tryz.f125 1) (ub E g n A i j a C) .normal (ub E g n A i j (a+1) (C++[(bA b c d e f)])):=
 h.aR [9,1,8,3,2,7] [3]
theorem aiE(h:ah [.i A a (bA a0 e j k l),.b (e==d) true,.x A a (bA m n o f p),.r 245 [ag f,ag b] [ag g],.b (g==c) false,.u a]):
 aY (av Tryz.f125 1) (ub C b i A c d a E) .normal (ub C b i A c d (a+1) E):=
 h.aR [9,1,8,3,2,7] [3]
theorem aiF(h:ah [.i A a (bA k d g i j),.b (d==b) false,.u a]):
 aY (av Tryz.f125 1) (ub C c e A f b a E) .normal (ub C c e A f b (a+1) E):=
 h.aR [9,1,8,3,2,7] [3]
def TQ(A:ak)(a b:Int)(C:ak)(c d:Int)(E:ak):aG:=bp 49 [(1,eP 5 C),(2,bf c),(3,bE 3),(7,aI.bd (bS.one (aV 10 5 E))),(8,bf d)] [(3,[.J .free 4 A,aM a,aM b])]
theorem aiG(h:ah [.f A e false]):
 aY (av Tryz.f125 1) (ub C a b A c d e E) (.exit 2) (TQ C a b A c d E):=
 h.aR [8,1,3,2,7] [3]
theorem aiH(h:ah [.b (decide (a<=3)) true,.l [] [9,1,8,3,2,7] [3] (av Tryz.f125 1) (ub A b c C d a 0 E) (.exit 2) (TQ A b c C d a F),.u a]):
 aY (av Tryz.f125 0) (CL A b c C d a E) .normal (CL A b c C d (a+1) F):=
 h.aR [8,1,3,2,7] [3]
def TR(A:ak):aG:=bp 49 [(7,aI.bd (bS.one (aV 10 5 A)))] []
theorem aiI(h:ah [.b (decide (a<=3)) false]):
 aY (av Tryz.f125 0) (CL C b c E d a A) (.exit 0) (TR A):=
 h.aR [7] []
theorem aiJ(h:ah [.l [] [8,1,3,2,7] [3] (av Tryz.f125 0) (CL A a b C c 0 []) (.exit 0) (TR E)]):
 aw 125 [.agg (bP A a b),aS 5 C,ag c] [aS 5 E]:=
 h.of
theorem aiK(h:ah [.r 130 [ag b,ag 1,ag 4] [ag a]]):
 aw 126 [ag b] [.agg (b7 a [] a 0 0 0)]:=
 h.of
theorem aiL(h:ah [.g ([]:ak) A 40,.h A,.p ((0:Int)<=4),.p ((4:Int)<=4),.p (((↑8:Int)*4:Int)<=281474976710656),.p ((4:Int)<=9223372036854775807),.p ((0:Int)<=4),.p ((4:Int)<=4),.p (((↑1:Int)*4:Int)<=281474976710656),.p ((4:Int)<=9223372036854775807),.p ((0:Int)<=4),.p ((4:Int)<=4),.p (((↑1:Int)*4:Int)<=281474976710656),.p ((4:Int)<=9223372036854775807)]):
 aw 124 [aS 5 A] [.agg (a' [] [] ([]++A) [] (List.replicate 4 [I 0]) (List.replicate 4 [B false]) (List.replicate 4 [B false]) [])]:=
 h.of
