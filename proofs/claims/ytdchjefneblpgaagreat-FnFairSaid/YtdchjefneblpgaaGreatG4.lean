import Derived.Test.YtdchjefneblpgaaGreatGE
set_option linter.unusedVariables false
set_option linter.unusedSimpArgs false
namespace Go.Proofs.YtdchjefneblpgaaGreat
open Go.Sx Go.RowKit
variable {a b c d e f g : Int} {A C E F G H ah K L M N Q R S ba V X Y Z : ag} {q r s t : Bool}
def Ih(A C E F G H ah K L M N P Q R S ba:ag)(l:List O):List O:=.r 174 [.agg (aW A C E F G H ah K)] [.agg (aW L M N P Q R S ba)]::l
theorem afG(h:ad (Ih C E M N Q R S ba V A F G H ah K L [.b ((A.length:Int)==0) true])):
 aq 351 [.agg (aW C E M N Q R S ba)] [.agg (aW V A F G H ah K L),.agg (bh 0 0 0 0 0),aj false]:=
 h.of
theorem afH(h:ad (Ih C E M N Q R S ba V A F G H ah K L [.b ((A.length:Int)==0) false,.p ((0:Int)<=0),.p (0<(A.length:Int)),.e A 0 (bh a b c d e),.p ((0:Int)<=(some (1:Int)).getD 0),.p ((some (1:Int)).getD 0<=none.getD (A.length:Int)),.p (none.getD (A.length:Int)<=(A.length:Int)),.g ([]:ag) (List.take (A.length-1) (List.drop 1 A)) 40,.h (List.take (A.length-1) (List.drop 1 A))])):
 aq 351 [.agg (aW C E M N Q R S ba)] [.agg (aW V ([]++List.take (A.length-1) (List.drop 1 A)) F G H ah K L),.agg (bh a b c d e),aj true]:=
 h.of
theorem afI(h:ad (Ih C E M Q R S ba V A F G H ah K L N [.g A [(bh d e a b c)] 40,.h [(bh d e a b c)]])):
 aq 376 [.agg (aW C E M Q R S ba V),.agg (bh d e a b c)] [.agg (aW (A++[(bh d e a b c)]) F G H ah K L N)]:=
 h.of
theorem afJ{E F M Q R S ba V:ag}{f a c d e:Int}{G H ah K A C L N:ag}{q:Bool}{b:Int}{d23 d24:D}(h:ad [.r 376 [.agg (aW E F M Q R S ba V),.agg (bh f a c d e)] [.agg (aW G H ah K A C L N)],.v ((A.length:Int)-1),.r 168 [ae a,ae 0,ae ((A.length:Int)-1)] [aj q],.b q true,.f C a true,.x A a [I b],.v (b-1),.x A a [d23],.x C a [d24]]):
 aq 349 [.agg (aW E F M Q R S ba V),.agg (bh f a c d e)] [.agg (aW G H ah K (A.set a.toNat [I (b-1)]) (C.set a.toNat [B true]) L N)]:=
 h.of
def PB(A C E F G H ah K L M N P Q R S ba V:ag)(a b:Int)(q:Bool)(l:List O):List O:=Ih A C E F G H ah K L M N P Q R S ba (.r 121 [.agg (br V a b)] [aj q]::l)
theorem afK(h:ad (PB N Q R S ba V X C E F G H ah K L M A a b q [.n q true])):
 aq 348 [.agg (br A a b),.agg (aW N Q R S ba V X C)] [.agg (aW E F G H ah K L M),aj false]:=
 h.of
def DY(A C E F G H ah K L M N P Q R S ba V:ag)(a b:Int)(q r:Bool)(l:List O):List O:=PB A C E F G H ah K L M N P Q R S ba V a b q (.n q false::.r 175 [.agg (br V a b),.agg (aW L M N P Q R S ba)] [aj r]::l)
theorem afL(h:ad (DY N Q R S ba V X M C E F G H ah K L A a b q r [.n r true])):
 aq 348 [.agg (br A a b),.agg (aW N Q R S ba V X M)] [.agg (aW C E F G H ah K L),aj false]:=
 h.of
theorem afM(h:ad (DY N Q R S ba V X M E A F G H ah K L C a b q r [.n r false,.b (decide ((A.length:Int)>0)) true])):
 aq 348 [.agg (br C a b),.agg (aW N Q R S ba V X M)] [.agg (aW E A F G H ah K L),aj false]:=
 h.of
def DZ(A C E F G H ah K L M N P Q R S ba V:ag)(a b:Int)(q r:Bool)(l:List O):List O:=DY A C E F G H ah K L M N P Q R S ba V a b q r (.n r false::.b (decide ((M.length:Int)>0)) false::l)
theorem afN(h:ad (DZ N Q R S ba V X M A C F G H ah K L E a b q r [.b (decide ((A.length:Int)>0)) true])):
 aq 348 [.agg (br E a b),.agg (aW N Q R S ba V X M)] [.agg (aW A C F G H ah K L),aj false]:=
 h.of
theorem afO(h:ad (DZ N Q R S ba V X M A C E G H ah K L F a b q r [.b (decide ((A.length:Int)>0)) false,.b ((E.length:Int)==0) true])):
 aq 348 [.agg (br F a b),.agg (aW N Q R S ba V X M)] [.agg (aW A C E G H ah K L),aj false]:=
 h.of
theorem afP(h:ad (DZ N Q R S ba V X M C E A G H ah K L F f g q r [.b (decide ((C.length:Int)>0)) false,.b ((A.length:Int)==0) false,.p ((0:Int)<=0),.p (0<(A.length:Int)),.e A 0 (bh a b c d e),.g C [(bh a b c d e)] 40,.h [(bh a b c d e)],.p ((0:Int)<=(some (1:Int)).getD 0),.p ((some (1:Int)).getD 0<=none.getD (A.length:Int)),.p (none.getD (A.length:Int)<=(A.length:Int)),.g ([]:ag) (List.take (A.length-1) (List.drop 1 A)) 40,.h (List.take (A.length-1) (List.drop 1 A))])):
 aq 348 [.agg (br F f g),.agg (aW N Q R S ba V X M)] [.agg (aW (C++[(bh a b c d e)]) E ([]++List.take (A.length-1) (List.drop 1 A)) G H ah K L),aj true]:=
 h.of
theorem afQ(h:ad (PB N Q R S ba V X C E F G H ah K L M A a b q [.n q true])):
 aq 48 [.agg (br A a b),.agg (aW N Q R S ba V X C)] [.agg (aW E F G H ah K L M),aj false]:=
 h.of
theorem afR(h:ad (DY N Q R S ba V X M C E F G H ah K L A a b q r [.n r true])):
 aq 48 [.agg (br A a b),.agg (aW N Q R S ba V X M)] [.agg (aW C E F G H ah K L),aj false]:=
 h.of
theorem afS(h:ad (DY N Q R S ba V X M E A F G H ah K L C a b q r [.n r false,.b (decide ((A.length:Int)>0)) true])):
 aq 48 [.agg (br C a b),.agg (aW N Q R S ba V X M)] [.agg (aW E A F G H ah K L),aj false]:=
 h.of
theorem afj(h:ad (DZ N Q R S ba V X M A C F G H ah K L E a b q r [.b ((A.length:Int)==0) true])):
 aq 48 [.agg (br E a b),.agg (aW N Q R S ba V X M)] [.agg (aW A C F G H ah K L),aj false]:=
 h.of
def ZL(A C E F G H ah K L M N P Q R S ba V:ag)(a b:Int)(q r:Bool)(c d e f g:Int)(X Y:ag)(s t:Bool)(l:List O):List O:=DZ A C E F G H ah K L M N P Q R S ba V a b q r (.b ((L.length:Int)==0) false::.p ((0:Int)<=0)::.p (0<(L.length:Int))::.e L 0 (bh c d e f g)::.r 176 [.agg (br V a b),aO 4 P,.agg (bh c d e f g)] [aO 4 X,aO 5 Y,aj s]::.p ((0:Int)<=(some (1:Int)).getD 0)::.p ((some (1:Int)).getD 0<=none.getD (L.length:Int))::.p (none.getD (L.length:Int)<=(L.length:Int))::.g ([]:ag) (List.take (L.length-1) (List.drop 1 L)) 40::.h (List.take (L.length-1) (List.drop 1 L))::.r 177 [.agg (br V a b),.agg (bh c d e f g)] [aj t]::l)
theorem afk{C:ag}{a b:Int}{R S ba V X Y Z M A F G H ah K E L:ag}{q r:Bool}{d c e f g:Int}{N Q:ag}{t s:Bool}{d30:D}(h:ad (ZL R S ba V X Y Z M A F G H ah K E L C a b q r d c e f g N Q t s [.b s true,.x E c [d30]])):
 aq 48 [.agg (br C a b),.agg (aW R S ba V X Y Z M)] [.agg (aW ([]++List.take (A.length-1) (List.drop 1 A)) Q G N ah K (E.set c.toNat [B true]) L),aj true]:=
 h.of
theorem afl(h:ad (ZL R S ba V X Y Z M A E F G H ah K L C a b q r c d e f g N Q t s [.b s false])):
 aq 48 [.agg (br C a b),.agg (aW R S ba V X Y Z M)] [.agg (aW ([]++List.take (A.length-1) (List.drop 1 A)) Q F N H ah K L),aj true]:=
 h.of
def x8(A:ag)(a b:Int)(C E F G:ag)(c d:Int):aC:=bb 21 [(1,aU c),(2,aR 2),(5,aU d)] [(2,[.J .free 4 A,au a,au b,.J .free 8 C,.J .free 6 E,.J .free 5 F,.J .free 3 G])]
def NU(q:Bool):aC:=bb 21 [(4,.aG (.one (.bg q)))] []
theorem afm(h:ad [.i K b (aW L A C E F G H ah),.r 213 [.agg (aW L A C E F G H ah),ae a] [aj q],.n q true]):
 aV (ap Tryz.f205 0) (x8 M c d K N Q R a b) .ret (NU false):=
 h.aS [4] []
theorem afn(h:ad [.i A a (aW R E F G H ah K L),.r 213 [.agg (aW R E F G H ah K L),ae b] [aj q],.n q false,.u a]):
 aV (ap Tryz.f205 0) (x8 C c d A M N Q b a) .normal (x8 C c d A M N Q b (a+1)):=
 h.aS [5,2,1] [2]
def V9:aC:=bb 21 [] []
theorem afo(h:ad [.f A a false]):
 aV (ap Tryz.f205 0) (x8 C b c A E F G d a) (.exit 0) V9:=
 h.aS [] []
theorem afp(h:ad [.l [] [5,2,1] [2] (ap Tryz.f205 0) (x8 A a b C E F G c 0) .ret (NU q)]):
 aq 205 [.agg (cl A a b C E F G),ae c] [aj q]:=
 h.of
theorem afq(h:ad [.l [] [5,2,1] [2] (ap Tryz.f205 0) (x8 A a b C E F G c 0) (.exit 0) V9]):
 aq 205 [.agg (cl A a b C E F G),ae c] [aj true]:=
 h.of
theorem afr(h:ad [.r 208 [aO 8 A,.one (.cl 288 [D.ptr [I a]])] [aj q]]):
 aq 203 [.agg (cl C b c A E F G),ae a] [.one (B !q)]:=
 h.of
theorem afs(h:ad [.r 210 [.agg (aW A C E F G H ah K),ae a] [aj q]]):
 aq 288 [.agg (aW A C E F G H ah K),.one (.ptr [I a])] [.one (B !q)]:=
 h.of
def sS(a:Int)(A C:ag)(b c:Int)(E F G H:ag):aC:=bb 37 [(1,aR 1),(3,aI.aG (bl.one (aB 7 1 A))),(4,aU a)] [(1,[.J .free 4 C,au b,au c,.J .free 8 E,.J .free 6 F,.J .free 5 G,.J .free 3 H])]
def wl(a:Int)(l:List O):List O:=.b (decide (a<=3)) true::l
def PC(a:Int)(A C E F G H ah K L:ag)(b:Int)(q r:Bool)(l:List O):List O:=wl a (.b (decide ((A.length:Int)>0)) true::.p ((0:Int)<=0)::.p (0<(A.length:Int))::.e A 0 (aW C E F G H ah K L)::.r 17 [.agg (aW C E F G H ah K L),ae a] [.agg [I b,B q],aj r]::l)
theorem agU(h:ad (PC a A H ah K L M N Q R d q r [.b r true,.b q true,.g C [[I a]] 8,.h [[I a]],.u a])):
 aV (ap Tryz.f72 0) (sS a C S b c A E F G) .normal (sS (a+1) (C++[[I a]]) S b c A E F G):=
 h.aS [4,1,3] [1]
theorem agV(h:ad (PC a A G H ah K L M N Q d q r [.b r true,.b q false,.u a])):
 aV (ap Tryz.f72 0) (sS a R S b c A C E F) .normal (sS (a+1) R S b c A C E F):=
 h.aS [4,1,3] [1]
theorem agW(h:ad (PC a A G H ah K L M N Q d r q [.b q false,.u a])):
 aV (ap Tryz.f72 0) (sS a R S b c A C E F) .normal (sS (a+1) R S b c A C E F):=
 h.aS [4,1,3] [1]
def NV(A:ag):aC:=bb 37 [(3,aI.aG (bl.one (aB 7 1 A)))] []
theorem agX(h:ad (wl a [.b (decide ((A.length:Int)>0)) false])):
 aV (ap Tryz.f72 0) (sS a C H b c A E F G) (.exit 0) (NV C):=
 h.aS [3] []
theorem agY(h:ad [.b (decide (a<=3)) false]):
 aV (ap Tryz.f72 0) (sS a A H b c C E F G) (.exit 0) (NV A):=
 h.aS [3] []
theorem V'(h:ad [.l [] [4,1,3] [1] (ap Tryz.f72 0) (sS 0 [] A a b C E F G) (.exit 0) (NV H)]):
 aq 72 [.agg (cl A a b C E F G)] [aO 1 H]:=
 h.of
theorem agZ(h:ad [.b ((A.length:Int)==0) true]):
 aq 71 [.agg (cl C a b A E F G)] [aO 1 []]:=
 h.of
def x9(a:Int)(A C:ag)(b c:Int)(E F G H:ag):aC:=bb 31 [(1,aR 1),(3,aI.aG (bl.one (aB 29 1 A))),(4,aU a)] [(1,[.J .free 4 C,au b,au c,.J .free 8 E,.J .free 6 F,.J .free 5 G,.J .free 3 H])]
theorem ag0(h:ad (wl a [.p ((0:Int)<=0),.p (0<(A.length:Int)),.e A 0 (aW H ah K L M N Q R),.r 139 [.agg (aW H ah K L M N Q R),ae a] [.agg [I d,B q],aj r],.b q true,.g C [[I a]] 8,.h [[I a]],.u a])):
 aV (ap Tryz.f71 0) (x9 a C S b c A E F G) .normal (x9 (a+1) (C++[[I a]]) S b c A E F G):=
 h.aS [4,1,3] [1]
theorem ag1(h:ad (wl a [.p ((0:Int)<=0),.p (0<(A.length:Int)),.e A 0 (aW G H ah K L M N Q),.r 139 [.agg (aW G H ah K L M N Q),ae a] [.agg [I d,B q],aj r],.b q false,.u a])):
 aV (ap Tryz.f71 0) (x9 a R S b c A C E F) .normal (x9 (a+1) R S b c A C E F):=
 h.aS [4,1,3] [1]
def Wa(A:ag):aC:=bb 31 [(3,aI.aG (bl.one (aB 29 1 A)))] []
theorem ag2(h:ad [.b (decide (a<=3)) false]):
 aV (ap Tryz.f71 0) (x9 a A H b c C E F G) (.exit 0) (Wa A):=
 h.aS [3] []
theorem ag3(h:ad [.b ((A.length:Int)==0) false,.l [(3,29,1)] [4,1,3] [1] (ap Tryz.f71 0) (x9 0 [] C a b A E F G) (.exit 0) (Wa H)]):
 aq 71 [.agg (cl C a b A E F G)] [aO 1 H]:=
 h.of
def x'(A:ag)(a b:Int)(C E F G:ag)(c d:Int):aC:=bb 15 [(1,aR 1),(3,aU d),(4,aU c)] [(1,[.J .free 4 A,au a,au b,.J .free 8 C,.J .free 6 E,.J .free 5 F,.J .free 3 G])]
theorem ag4(h:ad (wl a [.r 205 [.agg (cl A b c C E F G),ae a] [aj q],.b q true,.u d,.u a])):
 aV (ap Tryz.f69 0) (x' A b c C E F G a d) .normal (x' A b c C E F G (a+1) (d+1)):=
 h.aS [4,1,3] [1]
theorem ag5(h:ad (wl a [.r 205 [.agg (cl A b c C E F G),ae a] [aj q],.b q false,.u a])):
 aV (ap Tryz.f69 0) (x' A b c C E F G a d) .normal (x' A b c C E F G (a+1) d):=
 h.aS [4,1,3] [1]
def Wb(a:Int):aC:=bb 15 [(3,aU a)] []
theorem ag6(h:ad [.b (decide (a<=3)) false]):
 aV (ap Tryz.f69 0) (x' A c d C E F G a b) (.exit 0) (Wb b):=
 h.aS [3] []
theorem ag7(h:ad [.l [] [4,1,3] [1] (ap Tryz.f69 0) (x' A a b C E F G 0 0) (.exit 0) (Wb c)]):
 aq 69 [.agg (cl A a b C E F G)] [ae c]:=
 h.of
def ya(A:ag)(a b:Int)(C E F G:ag)(c d:Int):aC:=bb 15 [(1,aR 1),(3,aU d),(4,aU c)] [(1,[.J .free 4 A,au a,au b,.J .free 8 C,.J .free 6 E,.J .free 5 F,.J .free 3 G])]
theorem ag8(h:ad (wl a [.r 203 [.agg (cl A b c C E F G),ae a] [aj q],.b q true,.u d,.u a])):
 aV (ap Tryz.f67 0) (ya A b c C E F G a d) .normal (ya A b c C E F G (a+1) (d+1)):=
 h.aS [4,1,3] [1]
theorem ag9(h:ad (wl a [.r 203 [.agg (cl A b c C E F G),ae a] [aj q],.b q false,.u a])):
 aV (ap Tryz.f67 0) (ya A b c C E F G a d) .normal (ya A b c C E F G (a+1) d):=
 h.aS [4,1,3] [1]
def Wc(a:Int):aC:=bb 15 [(3,aU a)] []
theorem aha(h:ad [.b (decide (a<=3)) false]):
 aV (ap Tryz.f67 0) (ya A c d C E F G a b) (.exit 0) (Wc b):=
 h.aS [3] []
theorem ahb(h:ad [.l [] [4,1,3] [1] (ap Tryz.f67 0) (ya A a b C E F G 0 0) (.exit 0) (Wc c)]):
 aq 67 [.agg (cl A a b C E F G)] [ae c]:=
 h.of
