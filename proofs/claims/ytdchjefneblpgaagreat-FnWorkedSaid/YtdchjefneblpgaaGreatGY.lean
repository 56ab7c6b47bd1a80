import Derived.Test.YtdchjefneblpgaaGreatGE
set_option linter.unusedVariables false
set_option linter.unusedSimpArgs false
namespace Go.Proofs.YtdchjefneblpgaaGreat
open Go.Sx Go.RowKit
variable {a b c d e f g i j k l m n o p a0 cc dk d0 bB f0 : Int} {A C E F G H aj K L M N Q R S bi V X Y Z eg : ae} {q r : Bool}
theorem aeX(h:ad [.r 121 [.agg (bk A a b)] [ag q],.n q true]):
 ar 14 [.agg (bk A a b),aP 5 C] [.agg (cl [] 0 0 [] [] [] []),ag false]:=
 h.of
theorem aeY(h:ad [.r 121 [.agg (bk A a b)] [ag q],.n q false,.b (decide ((C.length:Int)>20)) true]):
 ar 14 [.agg (bk A a b),aP 5 C] [.agg (cl [] 0 0 [] [] [] []),ag false]:=
 h.of
def pF(A:ae)(a b c:Int)(C:ae)(d e:Int):aD:=bd 84 [(1,dj 5 A),(2,aQ 2),(4,aQ 4),(6,aW a)] [(4,[.v (aO),au b,au c,.v (aO),.v (aO),.v (aO),.v (aO)]),(2,[.J .free 4 C,au d,au e])]
def wK(q:Bool)(a b:Int):aD:=bd 84 [(4,aQ 4),(5,.aF (.one (.a' q)))] [(4,[.v (aO),au a,au b,.v (aO),.v (aO),.v (aO),.v (aO)])]
def EA(A:ae)(a b c d e f:Int)(q:Bool)(l:List O):List O:=.i A a (bj b c d e f)::.r 122 [.agg (bj b c d e f)] [ag q]::l
theorem aeZ(h:ad (EA A f a b c d e q [.n q true])):
 aX (ao Tryz.f14 0) (pF A f i j C k g) .ret (wK false 0 0):=
 h.aV [4,5] [4]
theorem ae0(h:ad (EA A a b c d e f q [.n q false,.x A a (bj g j k l m),.b (g != 0) true])):
 aX (ao Tryz.f14 0) (pF A a n o C p i) .ret (wK false 0 0):=
 h.aV [4,5] [4]
theorem ae1(h:ad (EA A a b c d e f q [.n q false,.x A a (bj g k l m n),.b (g != 0) false,.x A a (bj o p i a0 cc),.b (i != 0) true])):
 aX (ao Tryz.f14 0) (pF A a dk d0 C bB j) .ret (wK false 0 0):=
 h.aV [4,5] [4]
theorem ae2(h:ad (EA A a c d e f g q [.n q false,.x A a (bj i n o p a0),.b (i != 0) false,.x A a (bj cc dk j d0 bB),.b (j != 0) false,.u a])):
 aX (ao Tryz.f14 0) (pF A a k l C m b) .normal (pF A (a+1) k l C m b):=
 h.aV [6,1,4,2] [4,2]
def Jk(A:ae)(a b:Int)(C:ae)(c d:Int):aD:=bd 84 [(1,dj 5 A),(2,aQ 2),(4,aQ 4)] [(4,[.v (aO),au a,au b,.v (aO),.v (aO),.v (aO),.v (aO)]),(2,[.J .free 4 C,au c,au d])]
theorem ae3(h:ad [.f A b false]):
 aX (ao Tryz.f14 0) (pF A b c d C e a) (.exit 0) (Jk A c d C e a):=
 h.aV [2,1,4] [4,2]
theorem ae4(h:ad [.r 121 [.agg (bk A a b)] [ag q],.n q false,.b (decide ((C.length:Int)>20)) false,.l [] [6,1,4,2] [4,2] (ao Tryz.f14 0) (pF C 0 0 0 A a b) .ret (wK r c d)]):
 ar 14 [.agg (bk A a b),aP 5 C] [.agg (cl [] c d [] [] [] []),ag r]:=
 h.of
def wL(A:ae)(a:Int)(E:ae)(d e:Int)(F G H:ae)(f g:Int)(C:ae)(b c:Int):aD:=bd 84 [(1,dj 5 A),(2,aQ 2),(4,aQ 4),(7,aQ 7),(8,aW a)] [(7,[aA 510000 4 E,au d,au e,aA 67 8 F,aA 81 6 G,aA 51 5 H,.v (aO)]),(4,[.v (aO),au f,au g,.v (aO),.v (aO),.v (aO),.v (aO)]),(2,[.J .free 4 C,au b,au c])]
def zo(A:ae)(a e:Int)(E:ae)(f g:Int)(F G H:ae)(i b:Int)(C:ae)(c d:Int):aD:=bd 84 [(1,dj 5 A),(2,aQ 2),(4,aQ 4),(7,aQ 7),(8,aW a),(9,aW e)] [(7,[aA 510000 4 E,au f,au g,aA 67 8 F,aA 81 6 G,aA 51 5 H,.v (aO)]),(4,[.v (aO),au i,au b,.v (aO),.v (aO),.v (aO),.v (aO)]),(2,[.J .free 4 C,au c,au d])]
theorem ae5(h:ad [.b (decide (a<b)) true,.r 126 [af c] [.agg (cd d C e f g i)],.a .wr,.g A [(cd d C e f g i)] 64,.u a]):
 aX (ao Tryz.f14 2) (zo E j a F k l G A H m n aj b c) .normal (zo E j (a+1) F k l G (A++[(cd d C e f g i)]) H m n aj b c):=
 h.aV [9,2,7,8,1,4] [7,4,2]
def Rj(A:ae)(a:Int)(E:ae)(d e:Int)(F G H:ae)(f g:Int)(C:ae)(b c:Int):aD:=bd 84 [(1,dj 5 A),(2,aQ 2),(4,aQ 4),(7,aQ 7),(8,aW a)] [(7,[aA 510000 4 E,au d,au e,aA 67 8 F,aA 81 6 G,aA 51 5 H,.v (aO)]),(4,[.v (aO),au f,au g,.v (aO),.v (aO),.v (aO),.v (aO)]),(2,[.J .free 4 C,au b,au c])]
theorem ae6(h:ad [.b (decide (c<a)) false]):
 aX (ao Tryz.f14 2) (zo A b c C d e E F G f g H a i) (.exit 4) (Rj A b C d e E F G f g H a i):=
 h.aV [8,2,7,1,4] [7,4,2]
theorem ae7(h:ad [.b (decide (a<b)) true,.r 125 [.agg (bk E b c),aP 5 A,af a] [aP 5 bi],.r 124 [aP 5 bi] [.agg (ba F G H aj K L M N)],.a .wr,.g C [(ba F G H aj K L M N)] 192,.l [] [9,2,7,8,1,4] [7,4,2] (ao Tryz.f14 2) (zo A a 0 Q d e (C++[(ba F G H aj K L M N)]) R S f g E b c) (.exit 4) (Rj A a V i j X Y Z k l eg m n),.u a]):
 aX (ao Tryz.f14 1) (wL A a Q d e C R S f g E b c) .normal (wL A (a+1) V i j X Y Z k l eg m n):=
 h.aV [8,2,7,1,4] [7,4,2]
def Jl(A:ae)(a b:Int)(C E F:ae)(c d:Int):aD:=bd 84 [(4,aQ 4),(7,aQ 7)] [(7,[aA 510000 4 A,au a,au b,aA 67 8 C,aA 81 6 E,aA 51 5 F,.v (aO)]),(4,[.v (aO),au c,au d,.v (aO),.v (aO),.v (aO),.v (aO)])]
theorem ae8(h:ad [.b (decide (a<f)) false]):
 aX (ao Tryz.f14 1) (wL H a A b c C E F d e G f g) (.exit 2) (Jl A b c C E F d e):=
 h.aV [7,4] [7,4]
theorem ae9(h:ad [.r 121 [.agg (bk C a b)] [ag q],.n q false,.b (decide ((A.length:Int)>20)) false,.l [] [6,1,4,2] [4,2] (ao Tryz.f14 0) (pF A 0 0 0 C a b) (.exit 0) (Jk A j k E c d),.r 123 [.agg (bk E c d)] [.agg (bk F e f)],.p ((0:Int)<=4),.p ((4:Int)<=4),.p (((↑32:Int)*4:Int)<=281474976710656),.p ((4:Int)<=9223372036854775807),.l [(8000003,67,8),(8000004,81,6)] [8,2,7,1,4] [7,4,2] (ao Tryz.f14 1) (wL A 0 F e f [] [] (List.replicate 4 [B false,I 0,I 0,B false,B false]) j k E c d) (.exit 2) (Jl G g i H aj K l m)]):
 ar 14 [.agg (bk C a b),aP 5 A] [.agg (cl G g i H aj K []),ag true]:=
 h.of
def zp(A:ae)(a b:Int)(C:ae)(c d:Int)(E:ae):aD:=bd 49 [(1,dj 5 C),(2,aW c),(3,aQ 3),(7,aE.aF (bm.one (aA 10 5 E))),(8,aW d)] [(3,[.J .free 4 A,au a,au b])]
def r0(A:ae)(a b:Int)(C:ae)(c d e:Int)(E:ae):aD:=bd 49 [(1,dj 5 C),(2,aW c),(3,aQ 3),(7,aE.aF (bm.one (aA 10 5 E))),(8,aW d),(9,aW e)] [(3,[.J .free 4 A,au a,au b])]
theorem afa(h:ad [.i A a (bj f0 k o p a0),.b (k==j) true,.x A a (bj cc dk d0 l bB),.r 245 [af l,af g] [af m],.b (m==i) true,.x A a (bj b c d e f),.g C [(bj b c d e f)] 40,.h [(bj b c d e f)],.u a]):
 aX (ao Tryz.f125 1) (r0 E g n A i j a C) .normal (r0 E g n A i j (a+1) (C++[(bj b c d e f)])):=
 h.aV [9,1,8,3,2,7] [3]
theorem afb(h:ad [.i A a (bj a0 e j k l),.b (e==d) true,.x A a (bj m n o f p),.r 245 [af f,af b] [af g],.b (g==c) false,.u a]):
 aX (ao Tryz.f125 1) (r0 C b i A c d a E) .normal (r0 C b i A c d (a+1) E):=
 h.aV [9,1,8,3,2,7] [3]
theorem afc(h:ad [.i A a (bj k d g i j),.b (d==b) false,.u a]):
 aX (ao Tryz.f125 1) (r0 C c e A f b a E) .normal (r0 C c e A f b (a+1) E):=
 h.aV [9,1,8,3,2,7] [3]
def Rk(A:ae)(a b:Int)(C:ae)(c d:Int)(E:ae):aD:=bd 49 [(1,dj 5 C),(2,aW c),(3,aQ 3),(7,aE.aF (bm.one (aA 10 5 E))),(8,aW d)] [(3,[.J .free 4 A,au a,au b])]
theorem afd(h:ad [.f A e false]):
 aX (ao Tryz.f125 1) (r0 C a b A c d e E) (.exit 2) (Rk C a b A c d E):=
 h.aV [8,1,3,2,7] [3]
theorem afe(h:ad [.b (decide (a<=3)) true,.l [] [9,1,8,3,2,7] [3] (ao Tryz.f125 1) (r0 A b c C d a 0 E) (.exit 2) (Rk A b c C d a F),.u a]):
 aX (ao Tryz.f125 0) (zp A b c C d a E) .normal (zp A b c C d (a+1) F):=
 h.aV [8,1,3,2,7] [3]
def Rl(A:ae):aD:=bd 49 [(7,aE.aF (bm.one (aA 10 5 A)))] []
theorem aff(h:ad [.b (decide (a<=3)) false]):
 aX (ao Tryz.f125 0) (zp C b c E d a A) (.exit 0) (Rl A):=
 h.aV [7] []
theorem afg(h:ad [.l [] [8,1,3,2,7] [3] (ao Tryz.f125 0) (zp A a b C c 0 []) (.exit 0) (Rl E)]):
 ar 125 [.agg (bk A a b),aP 5 C,af c] [aP 5 E]:=
 h.of
theorem afh(h:ad [.r 130 [af b,af 1,af 4] [af a]]):
 ar 126 [af b] [.agg (cd a [] a 0 0 0)]:=
 h.of
theorem afi(h:ad [.g ([]:ae) A 40,.h A,.p ((0:Int)<=4),.p ((4:Int)<=4),.p (((↑8:Int)*4:Int)<=281474976710656),.p ((4:Int)<=9223372036854775807),.p ((0:Int)<=4),.p ((4:Int)<=4),.p (((↑1:Int)*4:Int)<=281474976710656),.p ((4:Int)<=9223372036854775807),.p ((0:Int)<=4),.p ((4:Int)<=4),.p (((↑1:Int)*4:Int)<=281474976710656),.p ((4:Int)<=9223372036854775807)]):
 ar 124 [aP 5 A] [.agg (ba [] [] ([]++A) [] (List.replicate 4 [I 0]) (List.replicate 4 [B false]) (List.replicate 4 [B false]) [])]:=
 h.of
