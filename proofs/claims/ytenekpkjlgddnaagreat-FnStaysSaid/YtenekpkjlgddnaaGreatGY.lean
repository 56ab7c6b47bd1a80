import Derived.Test.YtenekpkjlgddnaaGreatRows
import Derived.Test.YtenekpkjlgddnaaGreatGE
set_option linter.unusedVariables false
set_option linter.unusedSimpArgs false
namespace Go.Proofs.YtenekpkjlgddnaaGreat
open Go.Sx Go.RowKit
variable {a b c d e f g i j k l m n o p a0 b0 c0 d0 e0 f0 : Int} {A C E F G H J K L M N P Q R S U V W X Y : LL} {q r : Bool}
theorem qw6(h:Oo [.r 12 [.agg (gr A a b)] [cB q],.n q true]):
 Rt 6 [.agg (gr A a b),cS 5 C] [.agg (cl [] 0 0 [] [] [] []),cB false]:=
 h.of
theorem qw7(h:Oo [.r 12 [.agg (gr A a b)] [cB q],.n q false,.b (decide ((C.length:Int)>20)) true]):
 Rt 6 [.agg (gr A a b),cS 5 C] [.agg (cl [] 0 0 [] [] [] []),cB false]:=
 h.of
def qce(A:LL)(a b c:Int)(C:LL)(d e:Int):St:=
 { env:=envOf 84 [(1,vF 5 A),(2,vP 2),(4,vP 4),(6,vI a)],boxes:=[(4,[.v (sn),lI b,lI c,.v (sn),.v (sn),.v (sn),.v (sn)]),(2,[.sl .free 4 C,lI d,lI e])] }
def qel(q:Bool)(a b:Int):St:=
 { env:=envOf 84 [(4,vP 4),(5,.al (.one (.sb q)))],boxes:=[(4,[.v (sn),lI a,lI b,.v (sn),.v (sn),.v (sn),.v (sn)])] }
theorem qw8(h:Oo [.b (decide (a<(A.length:Int))) true,.p (0≤a),.p (a<(A.length:Int)),.e A a.toNat (ri b c d e f),.r 13 [.agg (ri b c d e f)] [cB q],.n q true]):
 Tp (qab Tryz.f6 0) (qce A a i j C k g) .ret (qel false 0 0):=
 h.lp [4,5] [4]
theorem qw9(h:Oo [.b (decide (a<(A.length:Int))) true,.p (0≤a),.p (a<(A.length:Int)),.e A a.toNat (ri b c d e f),.r 13 [.agg (ri b c d e f)] [cB q],.n q false,.p (0≤a),.p (a<(A.length:Int)),.e A a.toNat (ri g j k l m),.b (g != 0) true]):
 Tp (qab Tryz.f6 0) (qce A a n o C p i) .ret (qel false 0 0):=
 h.lp [4,5] [4]
theorem qxa(h:Oo [.b (decide (a<(A.length:Int))) true,.p (0≤a),.p (a<(A.length:Int)),.e A a.toNat (ri b c d e f),.r 13 [.agg (ri b c d e f)] [cB q],.n q false,.p (0≤a),.p (a<(A.length:Int)),.e A a.toNat (ri g k l m n),.b (g != 0) false,.p (0≤a),.p (a<(A.length:Int)),.e A a.toNat (ri o p i a0 b0),.b (i != 0) true]):
 Tp (qab Tryz.f6 0) (qce A a c0 d0 C e0 j) .ret (qel false 0 0):=
 h.lp [4,5] [4]
theorem qxb(h:Oo [.b (decide (a<(A.length:Int))) true,.p (0≤a),.p (a<(A.length:Int)),.e A a.toNat (ri c d e f g),.r 13 [.agg (ri c d e f g)] [cB q],.n q false,.p (0≤a),.p (a<(A.length:Int)),.e A a.toNat (ri i n o p a0),.b (i != 0) false,.p (0≤a),.p (a<(A.length:Int)),.e A a.toNat (ri b0 c0 j d0 e0),.b (j != 0) false,.u a]):
 Tp (qab Tryz.f6 0) (qce A a k l C m b) .normal (qce A (a+1) k l C m b):=
 h.lp [6,1,4,2] [4,2]
def qil(A:LL)(a b:Int)(C:LL)(c d:Int):St:=
 { env:=envOf 84 [(1,vF 5 A),(2,vP 2),(4,vP 4)],boxes:=[(4,[.v (sn),lI a,lI b,.v (sn),.v (sn),.v (sn),.v (sn)]),(2,[.sl .free 4 C,lI c,lI d])] }
theorem qxc(h:Oo [.b (decide (b<(A.length:Int))) false]):
 Tp (qab Tryz.f6 0) (qce A b c d C e a) (.exit 0) (qil A c d C e a):=
 h.lp [2,1,4] [4,2]
theorem qxd(h:Oo [.r 12 [.agg (gr A a b)] [cB q],.n q false,.b (decide ((C.length:Int)>20)) false,.l [] [6,1,4,2] [4,2] (qab Tryz.f6 0) (qce C 0 0 0 A a b) .ret (qel r c d)]):
 Rt 6 [.agg (gr A a b),cS 5 C] [.agg (cl [] c d [] [] [] []),cB r]:=
 h.of
def qem(A:LL)(a:Int)(E:LL)(d e:Int)(F G H:LL)(f g:Int)(C:LL)(b c:Int):St:=
 { env:=envOf 84 [(1,vF 5 A),(2,vP 2),(4,vP 4),(7,vP 7),(8,vI a)],boxes:=[(7,[lO 510000 4 E,lI d,lI e,lO 67 8 F,lO 81 6 G,lO 51 5 H,.v (sn)]),(4,[.v (sn),lI f,lI g,.v (sn),.v (sn),.v (sn),.v (sn)]),(2,[.sl .free 4 C,lI b,lI c])] }
def qe3(A:LL)(a e:Int)(E:LL)(f g:Int)(F G H:LL)(i b:Int)(C:LL)(c d:Int):St:=
 { env:=envOf 84 [(1,vF 5 A),(2,vP 2),(4,vP 4),(7,vP 7),(8,vI a),(9,vI e)],boxes:=[(7,[lO 510000 4 E,lI f,lI g,lO 67 8 F,lO 81 6 G,lO 51 5 H,.v (sn)]),(4,[.v (sn),lI i,lI b,.v (sn),.v (sn),.v (sn),.v (sn)]),(2,[.sl .free 4 C,lI c,lI d])] }
theorem qxe(h:Oo [.b (decide (a<b)) true,.r 17 [cI c] [.agg (lk d C e f g i)],.a .wr,.g A [(lk d C e f g i)] 64,.u a]):
 Tp (qab Tryz.f6 2) (qe3 E j a F k l G A H m n J b c) .normal (qe3 E j (a+1) F k l G (A++[(lk d C e f g i)]) H m n J b c):=
 h.lp [9,2,7,8,1,4] [7,4,2]
def qlK(A:LL)(a:Int)(E:LL)(d e:Int)(F G H:LL)(f g:Int)(C:LL)(b c:Int):St:=
 { env:=envOf 84 [(1,vF 5 A),(2,vP 2),(4,vP 4),(7,vP 7),(8,vI a)],boxes:=[(7,[lO 510000 4 E,lI d,lI e,lO 67 8 F,lO 81 6 G,lO 51 5 H,.v (sn)]),(4,[.v (sn),lI f,lI g,.v (sn),.v (sn),.v (sn),.v (sn)]),(2,[.sl .free 4 C,lI b,lI c])] }
theorem qxf(h:Oo [.b (decide (c<a)) false]):
 Tp (qab Tryz.f6 2) (qe3 A b c C d e E F G f g H a i) (.exit 4) (qlK A b C d e E F G f g H a i):=
 h.lp [8,2,7,1,4] [7,4,2]
theorem qxg(h:Oo [.b (decide (a<b)) true,.r 16 [.agg (gr E b c),cS 5 A,cI a] [cS 5 S],.r 15 [cS 5 S] [.agg (wk F G H J K L M N)],.a .wr,.g C [(wk F G H J K L M N)] 192,.l [] [9,2,7,8,1,4] [7,4,2] (qab Tryz.f6 2) (qe3 A a 0 P d e (C++[(wk F G H J K L M N)]) Q R f g E b c) (.exit 4) (qlK A a U i j V W X k l Y m n),.u a]):
 Tp (qab Tryz.f6 1) (qem A a P d e C Q R f g E b c) .normal (qem A (a+1) U i j V W X k l Y m n):=
 h.lp [8,2,7,1,4] [7,4,2]
def qim(A:LL)(a b:Int)(C E F:LL)(c d:Int):St:=
 { env:=envOf 84 [(4,vP 4),(7,vP 7)],boxes:=[(7,[lO 510000 4 A,lI a,lI b,lO 67 8 C,lO 81 6 E,lO 51 5 F,.v (sn)]),(4,[.v (sn),lI c,lI d,.v (sn),.v (sn),.v (sn),.v (sn)])] }
theorem qxh(h:Oo [.b (decide (a<f)) false]):
 Tp (qab Tryz.f6 1) (qem H a A b c C E F d e G f g) (.exit 2) (qim A b c C E F d e):=
 h.lp [7,4] [7,4]
theorem qxi(h:Oo [.r 12 [.agg (gr C a b)] [cB q],.n q false,.b (decide ((A.length:Int)>20)) false,.l [] [6,1,4,2] [4,2] (qab Tryz.f6 0) (qce A 0 0 0 C a b) (.exit 0) (qil A j k E c d),.r 14 [.agg (gr E c d)] [.agg (gr F e f)],.p ((0:Int)≤4),.p ((4:Int)≤4),.p (((↑32:Int)*4:Int)≤281474976710656),.p ((4:Int)≤9223372036854775807),.l [(8000003,67,8),(8000004,81,6)] [8,2,7,1,4] [7,4,2] (qab Tryz.f6 1) (qem A 0 F e f [] [] (List.replicate 4 [B false,I 0,I 0,B false,B false]) j k E c d) (.exit 2) (qim G g i H J K l m)]):
 Rt 6 [.agg (gr C a b),cS 5 A] [.agg (cl G g i H J K []),cB true]:=
 h.of
def qe4(A:LL)(a b:Int)(C:LL)(c d:Int)(E:LL):St:=
 { env:=envOf 49 [(1,vF 5 C),(2,vI c),(3,vP 3),(7,PV.al (AL.one (lO 10 5 E))),(8,vI d)],boxes:=[(3,[.sl .free 4 A,lI a,lI b])] }
def qcH(A:LL)(a b:Int)(C:LL)(c d e:Int)(E:LL):St:=
 { env:=envOf 49 [(1,vF 5 C),(2,vI c),(3,vP 3),(7,PV.al (AL.one (lO 10 5 E))),(8,vI d),(9,vI e)],boxes:=[(3,[.sl .free 4 A,lI a,lI b])] }
theorem qxj(h:Oo [.b (decide (a<(A.length:Int))) true,.p (0≤a),.p (a<(A.length:Int)),.e A a.toNat (ri f0 k o p a0),.b (k==j) true,.p (0≤a),.p (a<(A.length:Int)),.e A a.toNat (ri b0 c0 d0 l e0),.r 33 [cI l,cI g] [cI m],.b (m==i) true,.p (0≤a),.p (a<(A.length:Int)),.e A a.toNat (ri b c d e f),.g C [(ri b c d e f)] 40,.h [(ri b c d e f)],.u a]):
 Tp (qab Tryz.f16 1) (qcH E g n A i j a C) .normal (qcH E g n A i j (a+1) (C++[(ri b c d e f)])):=
 h.lp [9,1,8,3,2,7] [3]
theorem qxk(h:Oo [.b (decide (a<(A.length:Int))) true,.p (0≤a),.p (a<(A.length:Int)),.e A a.toNat (ri a0 e j k l),.b (e==d) true,.p (0≤a),.p (a<(A.length:Int)),.e A a.toNat (ri m n o f p),.r 33 [cI f,cI b] [cI g],.b (g==c) false,.u a]):
 Tp (qab Tryz.f16 1) (qcH C b i A c d a E) .normal (qcH C b i A c d (a+1) E):=
 h.lp [9,1,8,3,2,7] [3]
theorem qxl(h:Oo [.b (decide (a<(A.length:Int))) true,.p (0≤a),.p (a<(A.length:Int)),.e A a.toNat (ri k d g i j),.b (d==b) false,.u a]):
 Tp (qab Tryz.f16 1) (qcH C c e A f b a E) .normal (qcH C c e A f b (a+1) E):=
 h.lp [9,1,8,3,2,7] [3]
def qlL(A:LL)(a b:Int)(C:LL)(c d:Int)(E:LL):St:=
 { env:=envOf 49 [(1,vF 5 C),(2,vI c),(3,vP 3),(7,PV.al (AL.one (lO 10 5 E))),(8,vI d)],boxes:=[(3,[.sl .free 4 A,lI a,lI b])] }
theorem qxm(h:Oo [.b (decide (e<(A.length:Int))) false]):
 Tp (qab Tryz.f16 1) (qcH C a b A c d e E) (.exit 2) (qlL C a b A c d E):=
 h.lp [8,1,3,2,7] [3]
theorem qxn(h:Oo [.b (decide (a≤3)) true,.l [] [9,1,8,3,2,7] [3] (qab Tryz.f16 1) (qcH A b c C d a 0 E) (.exit 2) (qlL A b c C d a F),.u a]):
 Tp (qab Tryz.f16 0) (qe4 A b c C d a E) .normal (qe4 A b c C d (a+1) F):=
 h.lp [8,1,3,2,7] [3]
def qlM(A:LL):St:=
 { env:=envOf 49 [(7,PV.al (AL.one (lO 10 5 A)))],boxes:=[] }
theorem qxo(h:Oo [.b (decide (a≤3)) false]):
 Tp (qab Tryz.f16 0) (qe4 C b c E d a A) (.exit 0) (qlM A):=
 h.lp [7] []
theorem qxp(h:Oo [.l [] [8,1,3,2,7] [3] (qab Tryz.f16 0) (qe4 A a b C c 0 []) (.exit 0) (qlM E)]):
 Rt 16 [.agg (gr A a b),cS 5 C,cI c] [cS 5 E]:=
 h.of
theorem qxq(h:Oo [.r 28 [cI b,cI 1,cI 4] [cI a]]):
 Rt 17 [cI b] [.agg (lk a [] a 0 0 0)]:=
 h.of
theorem qxr(h:Oo [.g ([]:LL) A 40,.h A,.p ((0:Int)≤4),.p ((4:Int)≤4),.p (((↑8:Int)*4:Int)≤281474976710656),.p ((4:Int)≤9223372036854775807),.p ((0:Int)≤4),.p ((4:Int)≤4),.p (((↑1:Int)*4:Int)≤281474976710656),.p ((4:Int)≤9223372036854775807),.p ((0:Int)≤4),.p ((4:Int)≤4),.p (((↑1:Int)*4:Int)≤281474976710656),.p ((4:Int)≤9223372036854775807)]):
 Rt 15 [cS 5 A] [.agg (wk [] [] ([]++A) [] (List.replicate 4 [I 0]) (List.replicate 4 [B false]) (List.replicate 4 [B false]) [])]:=
 h.of
end Go.Proofs.YtenekpkjlgddnaaGreat
