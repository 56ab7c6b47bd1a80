import Derived.Test.YtdchjefneblpgaaGreatGE
set_option linter.unusedVariables false
set_option linter.unusedSimpArgs false
namespace Go.Proofs.YtdchjefneblpgaaGreat
open Go.Sx Go.RowKit
variable {a b c d e f g : Int} {A C E F G H au K L M N Q R S bi V X Y Z dz ft : ak} {q r s : Bool}
theorem amm(h:ah [.r 12 [aS 1 A] [al q],.b q true]):
 aw 5 [aS 1 A] [al true]:=
 h.of
def z6(a:Int)(A:ak)(b c:Int)(C E F G:ak):aG:=bp 83 [(4,bE 4),(6,bf a)] [(4,[aV 190000 4 A,aM b,aM c,aV 190003 8 C,aV 190004 6 E,aV 190005 5 F,aV 190006 3 G])]
def z7(a b c:Int)(q:Bool)(C:ak)(d e:Int)(E F G A:ak):aG:=bp 83 [(4,bE 4),(6,bf a),(7,bE 7),(9,bf b)] [(7,[aM c,.cg q]),(4,[aV 190000 4 C,aM d,aM e,aV 190003 8 E,aV 190004 6 F,aV 190005 5 G,aV 190006 3 A])]
theorem amn(h:ah [.i A a (a' H au K L M N Q R),.r 17 [.agg (a' H au K L M N Q R),ag b] [.agg [I f,B r],al s],.n s false,.b (!(f==c&&r==q)) false,.x A a (a' bi V X Y Z dz ft S),.b ((S.length:Int) != 4) false,.u a]):
 aY (av Tryz.f5 1) (z7 b a c q C d e A E F G) .normal (z7 b (a+1) c q C d e A E F G):=
 h.aR [9,4,6,7] [7,4]
def MT(a:Int)(A:ak)(b c:Int)(C E F G:ak):aG:=bp 83 [(4,bE 4),(6,bf a)] [(4,[aV 190000 4 A,aM b,aM c,aV 190003 8 C,aV 190004 6 E,aV 190005 5 F,aV 190006 3 G])]
theorem amo(h:ah [.f A b false]):
 aY (av Tryz.f5 1) (z7 a b e q C c d A E F G) (.exit 2) (MT a C c d A E F G):=
 h.aR [4,6] [4]
theorem amp(h:ah [.b (decide (a<=3)) true,.p ((0:Int)<=0),.p (0<(A.length:Int)),.e A 0 (a' N Q R S bi V X Y),.r 17 [.agg (a' N Q R S bi V X Y),ag a] [.agg [I f,B q],al r],.n r false,.l [] [9,4,6,7] [7,4] (av Tryz.f5 1) (z7 a 0 f q au d e A K L M) (.exit 2) (MT a C b c E F G H),.r 41 [.agg (cl C b c E F G H),ag a] [ag g],.b (g != 0) false,.u a]):
 aY (av Tryz.f5 0) (z6 a au d e A K L M) .normal (z6 (a+1) C b c E F G H):=
 h.aR [6,4] [4]
def MU(A:ak)(a b:Int)(C E F G:ak):aG:=bp 83 [(4,bE 4)] [(4,[aV 190000 4 A,aM a,aM b,aV 190003 8 C,aV 190004 6 E,aV 190005 5 F,aV 190006 3 G])]
theorem amq(h:ah [.b (decide (a<=3)) false]):
 aY (av Tryz.f5 0) (z6 a A b c C E F G) (.exit 0) (MU A b c C E F G):=
 h.aR [4] [4]
theorem amr(h:ah [.r 12 [aS 1 A] [al q],.b q false,.r 39 [aS 1 A] [.agg (cl K e f E R S bi)],.r 40 [.agg (cl K e f E R S bi),ag 3000] [.agg (cl V a b C F G H),ag g],.b ((C.length:Int) != (E.length:Int)) false,.l [] [6,4] [4] (av Tryz.f5 0) (z6 0 V a b C F G H) (.exit 0) (MU au c d L M N Q),.r 42 [.agg (cl au c d L M N Q)] [al r]]):
 aw 5 [aS 1 A] [al r]:=
 h.of
end Go.Proofs.YtdchjefneblpgaaGreat
namespace Go.Proofs.YtdchjefneblpgaaGreat
open Go.Sx Go.RowKit
theorem V4(A:ak)(h:ah []):
 aw 12 [aS 1 A] [al (decide ((A.length:Int)>1048576))]:=
 h.of
