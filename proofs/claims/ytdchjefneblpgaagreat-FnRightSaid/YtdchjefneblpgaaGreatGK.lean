import Derived.Test.YtdchjefneblpgaaGreatGE
set_option linter.unusedVariables false
set_option linter.unusedSimpArgs false
namespace Go.Proofs.YtdchjefneblpgaaGreat
open Go.Sx Go.RowKit
variable {a b c d e f g i j k l m n o p : Int} {A C E F G H au K L M N Q R S bn V X Y Z dK eH e9 fa fs ft eS ku lh l6 mv mw : ah} {q r s t u v w x : Bool}
theorem awo(h:af [.r 12 [aE 1 A] [ak q],.b q true]):
 av 3 [aE 1 A] [ak true]:=
 h.of
def vN(A C:ah)(c:Int)(F:ah)(d e:Int)(G H au K E:ah)(a b:Int):aD:=ba 145 [(0,c6 1 A),(3,a1 3),(4,aH.aR (bm.one (aK 290100 5 C))),(6,a1 6),(8,aY c)] [(6,[aK 470000 4 F,az d,az e,aK 470003 8 G,aK 470004 6 H,aK 470005 5 au,aK 470006 3 K]),(3,[aK 290000 4 E,az a,az b])]
def aau(a:Int)(A C E F G H au K L:ah)(b:Int)(q r:Bool)(l:List O):List O:=.b (decide (a<=3)) true::.p ((0:Int)<=0)::.p (0<(A.length:Int))::.e A 0 (bb C E F G H au K L)::.r 17 [.agg (bb C E F G H au K L),ag a] [.agg [I b,B q],ak r]::.n r false::l
theorem awp(h:af (aau a A L M N Q R S bn V f q r [.n q true,.r 18 [.agg (cl C b c A E F G),aE 5 H,ag a] [ak s],.n s false,.r 20 [.agg (cl C b c A E F G),ag a] [aE 4 X],.r 21 [.agg (bg au d e),ag a,aE 5 H] [aE 4 Y],.r 19 [aE 4 X,aE 4 Y] [ak t],.n t false,.u a])):
 aT (ap Tryz.f3 0) (vN K H a C b c A E F G au d e) .normal (vN K H (a+1) C b c A E F G au d e):=
 h.aQ [8,6,4,3,0] [6,3]
theorem awq(h:af (aau a A K L M N Q R S bn f q r [.n q false,.u a])):
 aT (ap Tryz.f3 0) (vN C V a E b c A F G H au d e) .normal (vN C V (a+1) E b c A F G H au d e):=
 h.aQ [8,6,4,3,0] [6,3]
def PL(A:ah):aD:=ba 145 [(0,c6 1 A)] []
theorem awr(h:af [.b (decide (a<=3)) false]):
 aT (ap Tryz.f3 0) (vN A K a C b c E F G H au d e) (.exit 0) (PL A):=
 h.aQ [0] []
theorem aws(h:af [.r 12 [aE 1 A] [ak q],.b q false,.r 13 [aE 1 A] [.agg (bg C a e),aE 5 N,aE 3 lh],.r 14 [.agg (bg C a e),aE 5 N] [.agg (cl l6 n o Q R S bn),ak x],.r 15 [.agg (cl l6 n o Q R S bn),aE 3 lh] [.agg (cl V j k X Y Z dK),aE 1 mv],.r 16 [.agg (cl V j k X Y Z dK),ag 3000] [.agg (cl eH l m e9 fa fs ft),ag p],.l [] [8,6,4,3,0] [6,3] (ap Tryz.f3 0) (vN A N 0 eH l m e9 fa fs ft C a e) (.exit 0) (PL A),.r 22 [aE 1 A] [.agg (bg E b c),aE 5 F,ag d],.r 23 [.agg (bg E b c),aE 5 F,ag d] [aE 4 eS,ak r],.r 24 [.agg (bg E b c),aE 5 F,ag d] [aE 4 ku,ak s],.r 25 [aE 1 A] [.agg (cl G f g H au K L),aE 5 M,ag i],.r 23 [.agg [D.J 4 [[I 1,I 0,I 0,D.J 1 [[I 1]]],[I 8,I 0,I 0,D.v (aS)]],I 1,I 1],.one (.J 5 [(bz 0 0 0 5 0)]),ag 0] [aE 4 mw,ak t],.b (r==s) true,.r 19 [aE 4 eS,aE 4 ku] [ak u],.b u true,.r 18 [.agg (cl G f g H au K L),aE 5 M,ag i] [ak v],.r 26 [.agg (cl G f g H au K L),aE 5 M,ag i] [ak w],.b (v==w) true]):
 av 3 [aE 1 A] [ak t]:=
 h.of
