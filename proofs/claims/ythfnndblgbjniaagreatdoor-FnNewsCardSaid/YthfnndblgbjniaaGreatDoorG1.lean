import Derived.Test.YthfnndblgbjniaaGreatDoorGE
namespace Go.Proofs.YthfnndblgbjniaaGreatDoor
open Go.Sx Go.RowKit
variable {a b c d e f g i j k l : Int} {A C E F G H ah K L M N Q R S bu V X Y : ae} {q r s t u v w x : Bool}
def yZ(A C:ae)(a:Int):aD:=bd 26 [(0,cQ 1 A),(1,cQ 1 C),(5,aU a)] []
theorem agW(h:af [.i A a [I b],.x C a [I c],.b (b != c) false,.u a]):
 aX (aq Tryz.f145 0) (yZ A C a) .normal (yZ A C (a+1)):=
 h.aV [5,0,1] []
def SE:aD:=bd 26 [] []
theorem agX(h:af [.f A a false]):
 aX (aq Tryz.f145 0) (yZ A C a) (.exit 0) SE:=
 h.aV [] []
def qj(A C:ae)(l:List O):List O:=.b ((A.length:Int) != (C.length:Int)) false::l
theorem agY(h:af (qj A C [.l [] [5,0,1] [] (aq Tryz.f145 0) (yZ A C 0) (.exit 0) SE])):
 ax 145 [aY 1 A,aY 1 C] [ar true]:=
 h.of
def y0(A C:ae)(a:Int):aD:=bd 26 [(0,cQ 1 A),(1,cQ 1 C),(5,aU a)] []
theorem agZ(h:af [.i A a [B q],.x C a [B r],.b (!q==r) false,.u a]):
 aX (aq Tryz.f146 0) (y0 A C a) .normal (y0 A C (a+1)):=
 h.aV [5,0,1] []
def SF:aD:=bd 26 [] []
theorem ag0(h:af [.f A a false]):
 aX (aq Tryz.f146 0) (y0 A C a) (.exit 0) SF:=
 h.aV [] []
theorem ag1(h:af (qj A C [.l [] [5,0,1] [] (aq Tryz.f146 0) (y0 A C 0) (.exit 0) SF])):
 ax 146 [aY 1 A,aY 1 C] [ar true]:=
 h.of
def y1(A C:ae)(a:Int):aD:=bd 26 [(0,cQ 2 A),(1,cQ 2 C),(5,aU a)] []
theorem ag2(h:af [.i A a [I b,B q],.x C a [I c,B r],.b (!(b==c&&q==r)) false,.u a]):
 aX (aq Tryz.f147 0) (y1 A C a) .normal (y1 A C (a+1)):=
 h.aV [5,0,1] []
def SG:aD:=bd 26 [] []
theorem ag3(h:af [.f A a false]):
 aX (aq Tryz.f147 0) (y1 A C a) (.exit 0) SG:=
 h.aV [] []
theorem ag4(h:af (qj A C [.l [] [5,0,1] [] (aq Tryz.f147 0) (y1 A C 0) (.exit 0) SG])):
 ax 147 [aY 2 A,aY 2 C] [ar true]:=
 h.of
def y2(A C:ae)(a:Int):aD:=bd 26 [(0,cQ 5 A),(1,cQ 5 C),(5,aU a)] []
theorem ag5(h:af [.i A a [B s,I c,I d,B t,B u],.x C a [B v,I e,I b,B q,B r],.b (!(s==v&&(c==e&&(d==b&&(t==q&&u==r))))) false,.u a]):
 aX (aq Tryz.f49 0) (y2 A C a) .normal (y2 A C (a+1)):=
 h.aV [5,0,1] []
def SH:aD:=bd 26 [] []
theorem ag6(h:af [.f A a false]):
 aX (aq Tryz.f49 0) (y2 A C a) (.exit 0) SH:=
 h.aV [] []
theorem ag7(h:af (qj A C [.l [] [5,0,1] [] (aq Tryz.f49 0) (y2 A C 0) (.exit 0) SH])):
 ax 49 [aY 5 A,aY 5 C] [ar true]:=
 h.of
def y3(A C:ae)(a:Int):aD:=bd 26 [(0,cQ 3 A),(1,cQ 3 C),(5,aU a)] []
theorem ag8(h:af [.i A a [I b,I c,B q],.x C a [I d,I e,B r],.b (!(b==d&&(c==e&&q==r))) false,.u a]):
 aX (aq Tryz.f10 0) (y3 A C a) .normal (y3 A C (a+1)):=
 h.aV [5,0,1] []
def SI:aD:=bd 26 [] []
theorem agz(h:af [.f A a false]):
 aX (aq Tryz.f10 0) (y3 A C a) (.exit 0) SI:=
 h.aV [] []
theorem agA(h:af (qj A C [.l [] [5,0,1] [] (aq Tryz.f10 0) (y3 A C 0) (.exit 0) SI])):
 ax 10 [aY 3 A,aY 3 C] [ar true]:=
 h.of
theorem agB(h:af [.b (a==d) true,.b (b==e) true,.b (c==f) true,.r 145 [aY 1 A,aY 1 C] [ar q]]):
 ax 142 [.agg (bi a b c A),.agg (bi d e f C)] [ar q]:=
 h.of
def y4(A C:ae)(a:Int):aD:=bd 27 [(0,cQ 4 A),(1,cQ 4 C),(5,aU a)] []
theorem agC(h:af [.i A a (bi b c d F),.x C a (bi e f g E),.r 142 [.agg (bi b c d F),.agg (bi e f g E)] [ar q],.n q false,.u a]):
 aX (aq Tryz.f85 0) (y4 A C a) .normal (y4 A C (a+1)):=
 h.aV [5,0,1] []
def SJ:aD:=bd 27 [] []
theorem agD(h:af [.f A a false]):
 aX (aq Tryz.f85 0) (y4 A C a) (.exit 0) SJ:=
 h.aV [] []
theorem agE(h:af (qj A C [.l [] [5,0,1] [] (aq Tryz.f85 0) (y4 A C 0) (.exit 0) SJ])):
 ax 85 [aY 4 A,aY 4 C] [ar true]:=
 h.of
theorem agF(h:af [.r 85 [aY 4 A,aY 4 C] [ar q],.b q true,.b (a==c) true]):
 ax 46 [.agg (bC A a b),.agg (bC C c d)] [ar (b==d)]:=
 h.of
theorem agG(h:af [.b (a==i) true,.r 143 [aY 5 A,aY 5 C] [ar q],.b q true,.b (d==j) true,.b (e==k) true,.b (f==b) true]):
 ax 87 [.agg (ck a A d e f g),.agg (ck i C j k b c)] [ar (g==c)]:=
 h.of
def y5(A C:ae)(a:Int):aD:=bd 27 [(0,cQ 6 A),(1,cQ 6 C),(5,aU a)] []
theorem agH(h:af [.i A a (ck f F g i j k),.x C a (ck l E b c d e),.r 87 [.agg (ck f F g i j k),.agg (ck l E b c d e)] [ar q],.n q false,.u a]):
 aX (aq Tryz.f48 0) (y5 A C a) .normal (y5 A C (a+1)):=
 h.aV [5,0,1] []
def SK:aD:=bd 27 [] []
theorem agI(h:af [.f A a false]):
 aX (aq Tryz.f48 0) (y5 A C a) (.exit 0) SK:=
 h.aV [] []
theorem ah6(h:af (qj A C [.l [] [5,0,1] [] (aq Tryz.f48 0) (y5 A C 0) (.exit 0) SK])):
 ax 48 [aY 6 A,aY 6 C] [ar true]:=
 h.of
theorem ah7(h:af [.r 143 [aY 5 A,aY 5 bu] [ar q],.b q true,.r 143 [aY 5 C,aY 5 V] [ar r],.b r true,.r 143 [aY 5 L,aY 5 E] [ar s],.b s true,.r 144 [aY 4 M,aY 4 F] [ar t],.b t true,.r 145 [aY 1 N,aY 1 G] [ar u],.b u true,.r 146 [aY 1 Q,aY 1 H] [ar v],.b v true,.r 146 [aY 1 R,aY 1 ah] [ar w],.b w true,.r 147 [aY 2 S,aY 2 K] [ar x]]):
 ax 86 [.agg (bf A C L M N Q R S),.agg (bf bu V E F G H ah K)] [ar x]:=
 h.of
def y6(A C:ae)(a:Int):aD:=bd 27 [(0,cQ 8 A),(1,cQ 8 C),(5,aU a)] []
theorem ah8(h:af [.i A a (bf Q R S bu V X Y E),.x C a (bf F G H ah K L M N),.r 86 [.agg (bf Q R S bu V X Y E),.agg (bf F G H ah K L M N)] [ar q],.n q false,.u a]):
 aX (aq Tryz.f47 0) (y6 A C a) .normal (y6 A C (a+1)):=
 h.aV [5,0,1] []
def SL:aD:=bd 27 [] []
theorem ah9(h:af [.f A a false]):
 aX (aq Tryz.f47 0) (y6 A C a) (.exit 0) SL:=
 h.aV [] []
theorem aia(h:af (qj A C [.l [] [5,0,1] [] (aq Tryz.f47 0) (y6 A C 0) (.exit 0) SL])):
 ax 47 [aY 8 A,aY 8 C] [ar true]:=
 h.of
theorem aib(h:af [.r 46 [.agg (bC A a b),.agg (bC M c d)] [ar q],.b q true,.r 47 [aY 8 H,aY 8 C] [ar r],.b r true,.r 48 [aY 6 ah,aY 6 E] [ar s],.b s true,.r 49 [aY 5 K,aY 5 F] [ar t],.b t true,.r 10 [aY 3 L,aY 3 G] [ar u]]):
 ax 9 [.agg (bI A a b H ah K L),.agg (bI M c d C E F G)] [ar u]:=
 h.of
end Go.Proofs.YthfnndblgbjniaaGreatDoor
namespace Go.Proofs.YthfnndblgbjniaaGreatDoor
open Go.Sx Go.RowKit
variable {a b c d e f g i j k l : Int} {A C E F G H ah K L M N Q R S bu V X Y : ae} {q r s t u v w x : Bool}
def y7(A C:ae)(a:Int):aD:=bd 26 [(0,cQ 5 A),(1,cQ 5 C),(5,aU a)] []
theorem aic(h:af [.i A a (bw e f g i j),.x C a (bw k l b c d),.b (!(e==k&&(f==l&&g==b&&(i==c&&j==d)))) false,.u a]):
 aX (aq Tryz.f143 0) (y7 A C a) .normal (y7 A C (a+1)):=
 h.aV [5,0,1] []
def SM:aD:=bd 26 [] []
theorem aid(h:af [.f A a false]):
 aX (aq Tryz.f143 0) (y7 A C a) (.exit 0) SM:=
 h.aV [] []
theorem aie(h:af (qj A C [.l [] [5,0,1] [] (aq Tryz.f143 0) (y7 A C 0) (.exit 0) SM])):
 ax 143 [aY 5 A,aY 5 C] [ar true]:=
 h.of
def y8(A C:ae)(a:Int):aD:=bd 26 [(0,cQ 4 A),(1,cQ 4 C),(5,aU a)] []
theorem aif(h:af [.i A a [I c,I d,I e,I f],.x C a [I g,I i,I j,I b],.b (!(c==g&&(d==i&&(e==j&&f==b)))) false,.u a]):
 aX (aq Tryz.f144 0) (y8 A C a) .normal (y8 A C (a+1)):=
 h.aV [5,0,1] []
def SN:aD:=bd 26 [] []
theorem aih(h:af [.f A a false]):
 aX (aq Tryz.f144 0) (y8 A C a) (.exit 0) SN:=
 h.aV [] []
theorem aii(h:af (qj A C [.l [] [5,0,1] [] (aq Tryz.f144 0) (y8 A C 0) (.exit 0) SN])):
 ax 144 [aY 4 A,aY 4 C] [ar true]:=
 h.of
