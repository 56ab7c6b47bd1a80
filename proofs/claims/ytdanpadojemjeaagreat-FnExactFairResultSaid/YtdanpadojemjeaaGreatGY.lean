import Derived.Test.YtdanpadojemjeaaGreatRows
import Derived.Test.YtdanpadojemjeaaGreatGE
namespace Go.Proofs.YtdanpadojemjeaaGreat
open Go.Sx Go.RowKit
variable {a b c d e f g i j k l m n o p a0 b0 c0 d0 e0 f0 : Int} {A C E F G H J K L M N P Q R S U V W X Y Z A0 C0 E0 F0 : LL} {q r s : Bool}
theorem qKT(h:Oo [.r 163 [.agg (gr A a b)] [cB q],.n q true]):
 Rt 98 [.agg (gr A a b),cS 5 C] [.agg (cl [] 0 0 [] [] [] []),cB false]:=
 h.of
theorem qKU(h:Oo [.r 163 [.agg (gr A a b)] [cB q],.n q false,.b (decide ((C.length:Int)>20)) true]):
 Rt 98 [.agg (gr A a b),cS 5 C] [.agg (cl [] 0 0 [] [] [] []),cB false]:=
 h.of
def qc2(A:LL)(a b c:Int)(C:LL)(d e:Int):St:=
 { env:=envOf 84 [(1,vF 5 A),(2,vP 2),(4,vP 4),(6,vI a)],boxes:=[(4,[.v (sn),lI b,lI c,.v (sn),.v (sn),.v (sn),.v (sn)]),(2,[.sl .free 4 C,lI d,lI e])] }
def qgc(q:Bool)(a b:Int):St:=
 { env:=envOf 84 [(4,vP 4),(5,.al (.one (.sb q)))],boxes:=[(4,[.v (sn),lI a,lI b,.v (sn),.v (sn),.v (sn),.v (sn)])] }
theorem qKV(h:Oo [.b (decide (a<(A.length:Int))) true,.p (0≤a),.p (a<(A.length:Int)),.e A a.toNat (ri b c d e f),.r 164 [.agg (ri b c d e f)] [cB q],.n q true]):
 Tp (qaa Tryz.f98 0) (qc2 A a i j C k g) .ret (qgc false 0 0):=
 h.lp [4,5] [4]
theorem qKW(h:Oo [.b (decide (a<(A.length:Int))) true,.p (0≤a),.p (a<(A.length:Int)),.e A a.toNat (ri b c d e f),.r 164 [.agg (ri b c d e f)] [cB q],.n q false,.p (0≤a),.p (a<(A.length:Int)),.e A a.toNat (ri g j k l m),.b (g != 0) true]):
 Tp (qaa Tryz.f98 0) (qc2 A a n o C p i) .ret (qgc false 0 0):=
 h.lp [4,5] [4]
theorem qKX(h:Oo [.b (decide (a<(A.length:Int))) true,.p (0≤a),.p (a<(A.length:Int)),.e A a.toNat (ri b c d e f),.r 164 [.agg (ri b c d e f)] [cB q],.n q false,.p (0≤a),.p (a<(A.length:Int)),.e A a.toNat (ri g k l m n),.b (g != 0) false,.p (0≤a),.p (a<(A.length:Int)),.e A a.toNat (ri o p i a0 b0),.b (i != 0) true]):
 Tp (qaa Tryz.f98 0) (qc2 A a c0 d0 C e0 j) .ret (qgc false 0 0):=
 h.lp [4,5] [4]
theorem qKY(h:Oo [.b (decide (a<(A.length:Int))) true,.p (0≤a),.p (a<(A.length:Int)),.e A a.toNat (ri c d e f g),.r 164 [.agg (ri c d e f g)] [cB q],.n q false,.p (0≤a),.p (a<(A.length:Int)),.e A a.toNat (ri i n o p a0),.b (i != 0) false,.p (0≤a),.p (a<(A.length:Int)),.e A a.toNat (ri b0 c0 j d0 e0),.b (j != 0) false,.u a]):
 Tp (qaa Tryz.f98 0) (qc2 A a k l C m b) .normal (qc2 A (a+1) k l C m b):=
 h.lp [6,1,4,2] [4,2]
def qlR(A:LL)(a b:Int)(C:LL)(c d:Int):St:=
 { env:=envOf 84 [(1,vF 5 A),(2,vP 2),(4,vP 4)],boxes:=[(4,[.v (sn),lI a,lI b,.v (sn),.v (sn),.v (sn),.v (sn)]),(2,[.sl .free 4 C,lI c,lI d])] }
theorem qKZ(h:Oo [.b (decide (b<(A.length:Int))) false]):
 Tp (qaa Tryz.f98 0) (qc2 A b c d C e a) (.exit 0) (qlR A c d C e a):=
 h.lp [2,1,4] [4,2]
theorem qK0(h:Oo [.r 163 [.agg (gr A a b)] [cB q],.n q false,.b (decide ((C.length:Int)>20)) false,.l [] [6,1,4,2] [4,2] (qaa Tryz.f98 0) (qc2 C 0 0 0 A a b) .ret (qgc r c d)]):
 Rt 98 [.agg (gr A a b),cS 5 C] [.agg (cl [] c d [] [] [] []),cB r]:=
 h.of
def qgd(A:LL)(a:Int)(E:LL)(d e:Int)(F G H:LL)(f g:Int)(C:LL)(b c:Int):St:=
 { env:=envOf 84 [(1,vF 5 A),(2,vP 2),(4,vP 4),(7,vP 7),(8,vI a)],boxes:=[(7,[lO 510000 4 E,lI d,lI e,lO 67 8 F,lO 81 6 G,lO 51 5 H,.v (sn)]),(4,[.v (sn),lI f,lI g,.v (sn),.v (sn),.v (sn),.v (sn)]),(2,[.sl .free 4 C,lI b,lI c])] }
def qhk(A:LL)(a e:Int)(E:LL)(f g:Int)(F G H:LL)(i b:Int)(C:LL)(c d:Int):St:=
 { env:=envOf 84 [(1,vF 5 A),(2,vP 2),(4,vP 4),(7,vP 7),(8,vI a),(9,vI e)],boxes:=[(7,[lO 510000 4 E,lI f,lI g,lO 67 8 F,lO 81 6 G,lO 51 5 H,.v (sn)]),(4,[.v (sn),lI i,lI b,.v (sn),.v (sn),.v (sn),.v (sn)]),(2,[.sl .free 4 C,lI c,lI d])] }
theorem qK1(h:Oo [.b (decide (a<b)) true,.r 168 [cI c] [.agg (lk d C e f g i)],.a .wr,.g A [(lk d C e f g i)] 64,.u a]):
 Tp (qaa Tryz.f98 2) (qhk E j a F k l G A H m n J b c) .normal (qhk E j (a+1) F k l G (A++[(lk d C e f g i)]) H m n J b c):=
 h.lp [9,2,7,8,1,4] [7,4,2]
def qq5(A:LL)(a:Int)(E:LL)(d e:Int)(F G H:LL)(f g:Int)(C:LL)(b c:Int):St:=
 { env:=envOf 84 [(1,vF 5 A),(2,vP 2),(4,vP 4),(7,vP 7),(8,vI a)],boxes:=[(7,[lO 510000 4 E,lI d,lI e,lO 67 8 F,lO 81 6 G,lO 51 5 H,.v (sn)]),(4,[.v (sn),lI f,lI g,.v (sn),.v (sn),.v (sn),.v (sn)]),(2,[.sl .free 4 C,lI b,lI c])] }
theorem qK2(h:Oo [.b (decide (c<a)) false]):
 Tp (qaa Tryz.f98 2) (qhk A b c C d e E F G f g H a i) (.exit 4) (qq5 A b C d e E F G f g H a i):=
 h.lp [8,2,7,1,4] [7,4,2]
theorem qK3(h:Oo [.b (decide (a<b)) true,.r 167 [.agg (gr E b c),cS 5 A,cI a] [cS 5 S],.r 166 [cS 5 S] [.agg (wk F G H J K L M N)],.a .wr,.g C [(wk F G H J K L M N)] 192,.l [] [9,2,7,8,1,4] [7,4,2] (qaa Tryz.f98 2) (qhk A a 0 P d e (C++[(wk F G H J K L M N)]) Q R f g E b c) (.exit 4) (qq5 A a U i j V W X k l Y m n),.u a]):
 Tp (qaa Tryz.f98 1) (qgd A a P d e C Q R f g E b c) .normal (qgd A (a+1) U i j V W X k l Y m n):=
 h.lp [8,2,7,1,4] [7,4,2]
def qlS(A:LL)(a b:Int)(C E F:LL)(c d:Int):St:=
 { env:=envOf 84 [(4,vP 4),(7,vP 7)],boxes:=[(7,[lO 510000 4 A,lI a,lI b,lO 67 8 C,lO 81 6 E,lO 51 5 F,.v (sn)]),(4,[.v (sn),lI c,lI d,.v (sn),.v (sn),.v (sn),.v (sn)])] }
theorem qK4(h:Oo [.b (decide (a<f)) false]):
 Tp (qaa Tryz.f98 1) (qgd H a A b c C E F d e G f g) (.exit 2) (qlS A b c C E F d e):=
 h.lp [7,4] [7,4]
theorem qK5(h:Oo [.r 163 [.agg (gr C a b)] [cB q],.n q false,.b (decide ((A.length:Int)>20)) false,.l [] [6,1,4,2] [4,2] (qaa Tryz.f98 0) (qc2 A 0 0 0 C a b) (.exit 0) (qlR A j k E c d),.r 165 [.agg (gr E c d)] [.agg (gr F e f)],.p ((0:Int)≤4),.p ((4:Int)≤4),.p (((↑32:Int)*4:Int)≤281474976710656),.p ((4:Int)≤9223372036854775807),.l [(8000003,67,8),(8000004,81,6)] [8,2,7,1,4] [7,4,2] (qaa Tryz.f98 1) (qgd A 0 F e f [] [] (List.replicate 4 [B false,I 0,I 0,B false,B false]) j k E c d) (.exit 2) (qlS G g i H J K l m)]):
 Rt 98 [.agg (gr C a b),cS 5 A] [.agg (cl G g i H J K []),cB true]:=
 h.of
theorem qK6(h:Oo [.r 122 [.agg (gr A a b)] [cB q],.n q true]):
 Rt 103 [.agg (gr A a b),cS 5 C] [.agg (cl [] 0 0 [] [] [] []),cB false]:=
 h.of
theorem qK7(h:Oo [.r 122 [.agg (gr A a b)] [cB q],.n q false,.b (decide ((C.length:Int)>20)) true]):
 Rt 103 [.agg (gr A a b),cS 5 C] [.agg (cl [] 0 0 [] [] [] []),cB false]:=
 h.of
def qc3(A:LL)(a b c:Int)(C:LL)(d e:Int):St:=
 { env:=envOf 102 [(1,vF 5 A),(2,vP 2),(4,vP 4),(24,vF 5 A),(25,vI (A.length:Int)),(26,vI a)],boxes:=[(4,[.v (sn),lI b,lI c,.v (sn),.v (sn),.v (sn),.v (sn)]),(2,[.sl .free 4 C,lI d,lI e])] }
def qge(q:Bool)(a b:Int):St:=
 { env:=envOf 102 [(4,vP 4),(5,.al (.one (.sb q)))],boxes:=[(4,[.v (sn),lI a,lI b,.v (sn),.v (sn),.v (sn),.v (sn)])] }
theorem qK8(h:Oo [.b (decide (a<(A.length:Int))) true,.p (0≤a),.p (a<(A.length:Int)),.e A a.toNat (ri b c d e f),.r 173 [.agg (ri b c d e f)] [cB q],.n q true]):
 Tp (qaa Tryz.f103 0) (qc3 A a i j C k g) .ret (qge false 0 0):=
 h.lp [4,5] [4]
theorem qK9(h:Oo [.b (decide (a<(A.length:Int))) true,.p (0≤a),.p (a<(A.length:Int)),.e A a.toNat (ri b c d e f),.r 173 [.agg (ri b c d e f)] [cB q],.n q false,.b (b != 0) true]):
 Tp (qaa Tryz.f103 0) (qc3 A a i j C k g) .ret (qge false 0 0):=
 h.lp [4,5] [4]
theorem qLa(h:Oo [.b (decide (a<(A.length:Int))) true,.p (0≤a),.p (a<(A.length:Int)),.e A a.toNat (ri b d c e f),.r 173 [.agg (ri b d c e f)] [cB q],.n q false,.b (b != 0) false,.b (c != 0) true]):
 Tp (qaa Tryz.f103 0) (qc3 A a i j C k g) .ret (qge false 0 0):=
 h.lp [4,5] [4]
theorem qLb(h:Oo [.b (decide (a<(A.length:Int))) true,.p (0≤a),.p (a<(A.length:Int)),.e A a.toNat (ri b e c f g),.r 173 [.agg (ri b e c f g)] [cB q],.n q false,.b (b != 0) false,.b (c != 0) false,.u a]):
 Tp (qaa Tryz.f103 0) (qc3 A a i j C k d) .normal (qc3 A (a+1) i j C k d):=
 h.lp [26,25,24,4,2,1] [4,2]
def qlT(A:LL)(a b:Int)(C:LL)(c d:Int):St:=
 { env:=envOf 102 [(1,vF 5 A),(2,vP 2),(4,vP 4)],boxes:=[(4,[.v (sn),lI a,lI b,.v (sn),.v (sn),.v (sn),.v (sn)]),(2,[.sl .free 4 C,lI c,lI d])] }
theorem qLc(h:Oo [.b (decide (b<(A.length:Int))) false]):
 Tp (qaa Tryz.f103 0) (qc3 A b c d C e a) (.exit 0) (qlT A c d C e a):=
 h.lp [2,1,4] [4,2]
theorem qLd(h:Oo [.r 122 [.agg (gr A a b)] [cB q],.n q false,.b (decide ((C.length:Int)>20)) false,.l [] [26,25,24,4,2,1] [4,2] (qaa Tryz.f103 0) (qc3 C 0 0 0 A a b) .ret (qge r c d)]):
 Rt 103 [.agg (gr A a b),cS 5 C] [.agg (cl [] c d [] [] [] []),cB r]:=
 h.of
def qgf(A:LL)(a:Int)(E:LL)(d e:Int)(F G H:LL)(f g:Int)(C:LL)(b c:Int):St:=
 { env:=envOf 102 [(1,vF 5 A),(2,vP 2),(4,vP 4),(8,vP 8),(9,vI a)],boxes:=[(8,[lO 480000 4 E,lI d,lI e,lO 85 8 F,lO 99 6 G,lO 48 5 H,.v (sn)]),(4,[.v (sn),lI f,lI g,.v (sn),.v (sn),.v (sn),.v (sn)]),(2,[.sl .free 4 C,lI b,lI c])] }
def qgg(A:LL)(a f:Int)(E F:LL)(g i:Int)(G H J:LL)(b c:Int)(C:LL)(d e:Int):St:=
 { env:=envOf 102 [(1,vF 5 A),(2,vP 2),(4,vP 4),(8,vP 8),(9,vI a),(10,PV.al (AL.one (lO 78 5 E))),(11,vI f)],boxes:=[(8,[lO 480000 4 F,lI g,lI i,lO 85 8 G,lO 99 6 H,lO 48 5 J,.v (sn)]),(4,[.v (sn),lI b,lI c,.v (sn),.v (sn),.v (sn),.v (sn)]),(2,[.sl .free 4 C,lI d,lI e])] }
def qfj(C:LL)(a f:Int)(A:LL)(g:Int)(H J:LL)(i j:Int)(K E F:LL)(b c:Int)(G:LL)(d e:Int):St:=
 { env:=envOf 102 [(1,vF 5 C),(2,vP 2),(4,vP 4),(8,vP 8),(9,vI a),(10,PV.al (AL.one (lO 78 5 H))),(11,vI f),(62,PV.al (AL.one (lO 630000 5 A))),(63,vI (A.length:Int)),(64,vI g)],boxes:=[(8,[lO 480000 4 J,lI i,lI j,lO 85 8 K,lO 99 6 E,lO 48 5 F,.v (sn)]),(4,[.v (sn),lI b,lI c,.v (sn),.v (sn),.v (sn),.v (sn)]),(2,[.sl .free 4 G,lI d,lI e])] }
theorem qLe(h:Oo [.b (decide (a<(A.length:Int))) true,.p (0≤a),.p (a<(A.length:Int)),.e A a.toNat (ri c d e b f),.r 153 [cI b,cI i] [cI p],.b (p==g) true,.g C [(ri c d e b f)] 40,.h [(ri c d e b f)],.u a]):
 Tp (qaa Tryz.f103 3) (qfj E g j A a C F k l G H J m n K i o) .normal (qfj E g j A (a+1) (C++[(ri c d e b f)]) F k l G H J m n K i o):=
 h.lp [64,63,62,2,9,10,11,1,8,4] [8,4,2]
theorem qLf(h:Oo [.b (decide (a<(A.length:Int))) true,.p (0≤a),.p (a<(A.length:Int)),.e A a.toNat (ri m n o k p),.r 153 [cI k,cI c] [cI l],.b (l==b) false,.u a]):
 Tp (qaa Tryz.f103 3) (qfj C b d A a E F e f G H J g i K c j) .normal (qfj C b d A (a+1) E F e f G H J g i K c j):=
 h.lp [64,63,62,2,9,10,11,1,8,4] [8,4,2]
def qq6(A:LL)(a f:Int)(E F:LL)(g i:Int)(G H J:LL)(b c:Int)(C:LL)(d e:Int):St:=
 { env:=envOf 102 [(1,vF 5 A),(2,vP 2),(4,vP 4),(8,vP 8),(9,vI a),(10,PV.al (AL.one (lO 78 5 E))),(11,vI f)],boxes:=[(8,[lO 480000 4 F,lI g,lI i,lO 85 8 G,lO 99 6 H,lO 48 5 J,.v (sn)]),(4,[.v (sn),lI b,lI c,.v (sn),.v (sn),.v (sn),.v (sn)]),(2,[.sl .free 4 C,lI d,lI e])] }
theorem qLg(h:Oo [.b (decide (c<(C.length:Int))) false]):
 Tp (qaa Tryz.f103 3) (qfj A a b C c E F d e G H J f g K i j) (.exit 6) (qq6 A a b E F d e G H J f g K i j):=
 h.lp [11,1,2,9,10,8,4] [8,4,2]
theorem qLh(h:Oo [.b (decide (a≤3)) true,.r 174 [cS 5 A,cI a] [cS 5 K],.l [] [64,63,62,2,9,10,11,1,8,4] [8,4,2] (qaa Tryz.f103 3) (qfj A b a K 0 C E c d F G H e f J g i) (.exit 6) (qq6 A b a L M j k N P Q l m R n o),.u a]):
 Tp (qaa Tryz.f103 2) (qgg A b a C E c d F G H e f J g i) .normal (qgg A b (a+1) L M j k N P Q l m R n o):=
 h.lp [11,1,2,9,10,8,4] [8,4,2]
def qlU(A:LL)(a:Int)(E F:LL)(e f:Int)(G H J:LL)(g b:Int)(C:LL)(c d:Int):St:=
 { env:=envOf 102 [(1,vF 5 A),(2,vP 2),(4,vP 4),(8,vP 8),(9,vI a),(10,PV.al (AL.one (lO 78 5 E)))],boxes:=[(8,[lO 480000 4 F,lI e,lI f,lO 85 8 G,lO 99 6 H,lO 48 5 J,.v (sn)]),(4,[.v (sn),lI g,lI b,.v (sn),.v (sn),.v (sn),.v (sn)]),(2,[.sl .free 4 C,lI c,lI d])] }
theorem qLi(h:Oo [.b (decide (b≤3)) false]):
 Tp (qaa Tryz.f103 2) (qgg E a b A C c d F G H e f J g i) (.exit 4) (qlU E a A C c d F G H e f J g i):=
 h.lp [8,10,2,9,1,4] [8,4,2]
def qhl(A:LL)(a e:Int)(E:LL)(f g:Int)(F G H:LL)(i b:Int)(C:LL)(c d:Int):St:=
 { env:=envOf 102 [(1,vF 5 A),(2,vP 2),(4,vP 4),(8,vP 8),(9,vI a),(14,vI e)],boxes:=[(8,[lO 480000 4 E,lI f,lI g,lO 85 8 F,lO 99 6 G,lO 48 5 H,.v (sn)]),(4,[.v (sn),lI i,lI b,.v (sn),.v (sn),.v (sn),.v (sn)]),(2,[.sl .free 4 C,lI c,lI d])] }
theorem qLj(h:Oo [.b (decide (a<b)) true,.r 176 [cI c] [.agg (lk d C e f g i)],.a .wr,.g A [(lk d C e f g i)] 64,.u a]):
 Tp (qaa Tryz.f103 4) (qhl E j a F k l G A H m n J b c) .normal (qhl E j (a+1) F k l G (A++[(lk d C e f g i)]) H m n J b c):=
 h.lp [14,2,8,9,1,4] [8,4,2]
def qq7(A:LL)(a:Int)(E:LL)(d e:Int)(F G H:LL)(f g:Int)(C:LL)(b c:Int):St:=
 { env:=envOf 102 [(1,vF 5 A),(2,vP 2),(4,vP 4),(8,vP 8),(9,vI a)],boxes:=[(8,[lO 480000 4 E,lI d,lI e,lO 85 8 F,lO 99 6 G,lO 48 5 H,.v (sn)]),(4,[.v (sn),lI f,lI g,.v (sn),.v (sn),.v (sn),.v (sn)]),(2,[.sl .free 4 C,lI b,lI c])] }
theorem qLk(h:Oo [.b (decide (c<a)) false]):
 Tp (qaa Tryz.f103 4) (qhl A b c C d e E F G f g H a i) (.exit 8) (qq7 A b C d e E F G f g H a i):=
 h.lp [9,2,1,8,4] [8,4,2]
theorem qLl(h:Oo [.b (decide (a<b)) true,.l [(10,78,5)] [11,1,2,9,10,8,4] [8,4,2] (qaa Tryz.f103 2) (qgg A a 0 [] N c d P Q R e f S b g) (.exit 4) (qlU A a U V i j C W X k l Y m n),.r 175 [cS 5 U] [.agg (wk E F G H J K L M)],.a .wr,.g C [(wk E F G H J K L M)] 192,.l [] [14,2,8,9,1,4] [8,4,2] (qaa Tryz.f103 4) (qhl A a 0 V i j (C++[(wk E F G H J K L M)]) W X k l Y m n) (.exit 8) (qq7 A a Z o p A0 C0 E0 a0 b0 F0 c0 d0),.u a]):
 Tp (qaa Tryz.f103 1) (qgf A a N c d P Q R e f S b g) .normal (qgf A (a+1) Z o p A0 C0 E0 a0 b0 F0 c0 d0):=
 h.lp [9,2,1,8,4] [8,4,2]
def qlV(A:LL)(a b:Int)(C E F:LL)(c d:Int):St:=
 { env:=envOf 102 [(4,vP 4),(8,vP 8)],boxes:=[(8,[lO 480000 4 A,lI a,lI b,lO 85 8 C,lO 99 6 E,lO 48 5 F,.v (sn)]),(4,[.v (sn),lI c,lI d,.v (sn),.v (sn),.v (sn),.v (sn)])] }
theorem qLm(h:Oo [.b (decide (a<f)) false]):
 Tp (qaa Tryz.f103 1) (qgf H a A b c C E F d e G f g) (.exit 2) (qlV A b c C E F d e):=
 h.lp [8,4] [8,4]
theorem qLn(h:Oo [.r 122 [.agg (gr C a b)] [cB q],.n q false,.b (decide ((A.length:Int)>20)) false,.l [] [26,25,24,4,2,1] [4,2] (qaa Tryz.f103 0) (qc3 A 0 0 0 C a b) (.exit 0) (qlT A j k E c d),.r 119 [.agg (gr E c d)] [.agg (gr F e f)],.p ((0:Int)≤4),.p ((4:Int)≤4),.p (((↑32:Int)*4:Int)≤281474976710656),.p ((4:Int)≤9223372036854775807),.l [(9000003,85,8),(9000004,99,6)] [9,2,1,8,4] [8,4,2] (qaa Tryz.f103 1) (qgf A 0 F e f [] [] (List.replicate 4 [B false,I 0,I 0,B false,B false]) j k E c d) (.exit 2) (qlV G g i H J K l m)]):
 Rt 103 [.agg (gr C a b),cS 5 A] [.agg (cl G g i H J K []),cB true]:=
 h.of
def qhm(A:LL)(a b:Int)(C:LL)(c d:Int)(E:LL):St:=
 { env:=envOf 49 [(1,vF 5 C),(2,vI c),(3,vP 3),(7,PV.al (AL.one (lO 10 5 E))),(8,vI d)],boxes:=[(3,[.sl .free 4 A,lI a,lI b])] }
def qdB(A:LL)(a b:Int)(C:LL)(c d e:Int)(E:LL):St:=
 { env:=envOf 49 [(1,vF 5 C),(2,vI c),(3,vP 3),(7,PV.al (AL.one (lO 10 5 E))),(8,vI d),(9,vI e)],boxes:=[(3,[.sl .free 4 A,lI a,lI b])] }
theorem qLo(h:Oo [.b (decide (a<(A.length:Int))) true,.p (0≤a),.p (a<(A.length:Int)),.e A a.toNat (ri f0 k o p a0),.b (k==j) true,.p (0≤a),.p (a<(A.length:Int)),.e A a.toNat (ri b0 c0 d0 l e0),.r 212 [cI l,cI g] [cI m],.b (m==i) true,.p (0≤a),.p (a<(A.length:Int)),.e A a.toNat (ri b c d e f),.g C [(ri b c d e f)] 40,.h [(ri b c d e f)],.u a]):
 Tp (qaa Tryz.f167 1) (qdB E g n A i j a C) .normal (qdB E g n A i j (a+1) (C++[(ri b c d e f)])):=
 h.lp [9,1,8,3,2,7] [3]
theorem qLp(h:Oo [.b (decide (a<(A.length:Int))) true,.p (0≤a),.p (a<(A.length:Int)),.e A a.toNat (ri a0 e j k l),.b (e==d) true,.p (0≤a),.p (a<(A.length:Int)),.e A a.toNat (ri m n o f p),.r 212 [cI f,cI b] [cI g],.b (g==c) false,.u a]):
 Tp (qaa Tryz.f167 1) (qdB C b i A c d a E) .normal (qdB C b i A c d (a+1) E):=
 h.lp [9,1,8,3,2,7] [3]
theorem qLq(h:Oo [.b (decide (a<(A.length:Int))) true,.p (0≤a),.p (a<(A.length:Int)),.e A a.toNat (ri k d g i j),.b (d==b) false,.u a]):
 Tp (qaa Tryz.f167 1) (qdB C c e A f b a E) .normal (qdB C c e A f b (a+1) E):=
 h.lp [9,1,8,3,2,7] [3]
def qq8(A:LL)(a b:Int)(C:LL)(c d:Int)(E:LL):St:=
 { env:=envOf 49 [(1,vF 5 C),(2,vI c),(3,vP 3),(7,PV.al (AL.one (lO 10 5 E))),(8,vI d)],boxes:=[(3,[.sl .free 4 A,lI a,lI b])] }
theorem qLr(h:Oo [.b (decide (e<(A.length:Int))) false]):
 Tp (qaa Tryz.f167 1) (qdB C a b A c d e E) (.exit 2) (qq8 C a b A c d E):=
 h.lp [8,1,3,2,7] [3]
theorem qLs(h:Oo [.b (decide (a≤3)) true,.l [] [9,1,8,3,2,7] [3] (qaa Tryz.f167 1) (qdB A b c C d a 0 E) (.exit 2) (qq8 A b c C d a F),.u a]):
 Tp (qaa Tryz.f167 0) (qhm A b c C d a E) .normal (qhm A b c C d (a+1) F):=
 h.lp [8,1,3,2,7] [3]
def qq9(A:LL):St:=
 { env:=envOf 49 [(7,PV.al (AL.one (lO 10 5 A)))],boxes:=[] }
theorem qLt(h:Oo [.b (decide (a≤3)) false]):
 Tp (qaa Tryz.f167 0) (qhm C b c E d a A) (.exit 0) (qq9 A):=
 h.lp [7] []
theorem qLu(h:Oo [.l [] [8,1,3,2,7] [3] (qaa Tryz.f167 0) (qhm A a b C c 0 []) (.exit 0) (qq9 E)]):
 Rt 167 [.agg (gr A a b),cS 5 C,cI c] [cS 5 E]:=
 h.of
theorem qLv(h:Oo [.r 95 [cI b,cI 1,cI 4] [cI a]]):
 Rt 168 [cI b] [.agg (lk a [] a 0 0 0)]:=
 h.of
theorem qLw(h:Oo [.r 96 [cI b,cI 1,cI 4] [cI a]]):
 Rt 176 [cI b] [.agg (lk a [] a 0 0 0)]:=
 h.of
theorem qLx(h:Oo [.g ([]:LL) A 40,.h A,.p ((0:Int)≤4),.p ((4:Int)≤4),.p (((↑8:Int)*4:Int)≤281474976710656),.p ((4:Int)≤9223372036854775807),.p ((0:Int)≤4),.p ((4:Int)≤4),.p (((↑1:Int)*4:Int)≤281474976710656),.p ((4:Int)≤9223372036854775807),.p ((0:Int)≤4),.p ((4:Int)≤4),.p (((↑1:Int)*4:Int)≤281474976710656),.p ((4:Int)≤9223372036854775807)]):
 Rt 166 [cS 5 A] [.agg (wk [] [] ([]++A) [] (List.replicate 4 [I 0]) (List.replicate 4 [B false]) (List.replicate 4 [B false]) [])]:=
 h.of
theorem qLy(h:Oo [.r 195 [cS 5 A] [cS 5 C],.p ((0:Int)≤4),.p ((4:Int)≤4),.p (((↑8:Int)*4:Int)≤281474976710656),.p ((4:Int)≤9223372036854775807),.p ((0:Int)≤4),.p ((4:Int)≤4),.p (((↑1:Int)*4:Int)≤281474976710656),.p ((4:Int)≤9223372036854775807),.p ((0:Int)≤4),.p ((4:Int)≤4),.p (((↑1:Int)*4:Int)≤281474976710656),.p ((4:Int)≤9223372036854775807)]):
 Rt 175 [cS 5 A] [.agg (wk [] [] C [] (List.replicate 4 [I 0]) (List.replicate 4 [B false]) (List.replicate 4 [B false]) [])]:=
 h.of
theorem qLz(h:Oo [.r 98 [.agg (gr A a b),cS 5 C] [.agg (cl G d e H J E F),cB q],.n q true]):
 Rt 40 [.agg (gr A a b),cS 5 C,cI c] [cS 4 [],cB false]:=
 h.of
theorem qLA(h:Oo [.r 98 [.agg (gr C b e),cS 5 V] [.agg (cl X f g Y Z E F),cB q],.n q false,.r 36 [.agg (cl X f g Y Z E F),cI 3000] [.agg (cl G c d A H J K),cI i],.p ((0:Int)≤0),.p (0<(A.length:Int)),.e A 0 (wk L M N P Q R S U),.r 99 [.agg (wk L M N P Q R S U),cI a] [.agg [I j,B r],cB s],.r 100 [.agg (cl G c d A H J K),cI a] [cS 4 W],.b s true]):
 Rt 40 [.agg (gr C b e),cS 5 V,cI a] [cS 4 W,.one (B !r)]:=
 h.of
theorem qLB(h:Oo [.r 98 [.agg (gr C b e),cS 5 V] [.agg (cl X f g Y Z E F),cB q],.n q false,.r 36 [.agg (cl X f g Y Z E F),cI 3000] [.agg (cl G c d A H J K),cI i],.p ((0:Int)≤0),.p (0<(A.length:Int)),.e A 0 (wk L M N P Q R S U),.r 99 [.agg (wk L M N P Q R S U),cI a] [.agg [I j,B s],cB r],.r 100 [.agg (cl G c d A H J K),cI a] [cS 4 W],.b r false]):
 Rt 40 [.agg (gr C b e),cS 5 V,cI a] [cS 4 W,cB false]:=
 h.of
theorem qLC(h:Oo [.r 103 [.agg (gr A a b),cS 5 C] [.agg (cl G d e H J E F),cB q],.n q true]):
 Rt 43 [.agg (gr A a b),cS 5 C,cI c] [cS 4 [],cB false]:=
 h.of
theorem qLD(h:Oo [.r 103 [.agg (gr C b e),cS 5 V] [.agg (cl X f g Y Z E F),cB q],.n q false,.r 37 [.agg (cl X f g Y Z E F),cI 3000] [.agg (cl G c d A H J K),cI i],.p ((0:Int)≤0),.p (0<(A.length:Int)),.e A 0 (wk L M N P Q R S U),.r 104 [.agg (wk L M N P Q R S U),cI a] [.agg [I j,B r],cB s],.r 105 [.agg (cl G c d A H J K),cI a] [cS 4 W],.b s true]):
 Rt 43 [.agg (gr C b e),cS 5 V,cI a] [cS 4 W,.one (B !r)]:=
 h.of
theorem qLE(h:Oo [.r 103 [.agg (gr C b e),cS 5 V] [.agg (cl X f g Y Z E F),cB q],.n q false,.r 37 [.agg (cl X f g Y Z E F),cI 3000] [.agg (cl G c d A H J K),cI i],.p ((0:Int)≤0),.p (0<(A.length:Int)),.e A 0 (wk L M N P Q R S U),.r 104 [.agg (wk L M N P Q R S U),cI a] [.agg [I j,B s],cB r],.r 105 [.agg (cl G c d A H J K),cI a] [cS 4 W],.b r false]):
 Rt 43 [.agg (gr C b e),cS 5 V,cI a] [cS 4 W,cB false]:=
 h.of
end Go.Proofs.YtdanpadojemjeaaGreat
