import Derived.Test.YtdanpadojemjeaaGreatRows
import Derived.Test.YtdanpadojemjeaaGreatGE
namespace Go.Proofs.YtdanpadojemjeaaGreat
open Go.Sx Go.RowKit Go.Proofs.Tryz
variable {a b c d e f g i j k l m n o p a0 b0 c0 d0 e0 f0 i0 j0 k0 l0 : Int} {A C E F G H J K L M N P Q R S U V W X Y Z A0 A1 C0 C1 E0 E1 F0 F1 G0 G1 H0 H1 J0 J1 K0 K1 L0 M0 N0 P0 Q0 R0 S0 U0 V0 W0 X0 Y0 Z0 : LL} {q r s t : Bool}
theorem qPT(h:Oo [.r 11 [.agg (cl A a b C E F G),cI 1048576] [cI c],.b (decide (c<0)) true]):
 Rt 9 [.agg (cl A a b C E F G),cI d] [cB true]:=
 h.of
theorem qPU(h:Oo [.r 11 [.agg (cl A a b C E F G),cI 1048576] [cI l0],.b (decide (l0<0)) false,.r 13 [.agg (cl A a b C E F G)] [.agg (cl K1 a0 b0 G0 H0 J0 K0)],.r 36 [.agg (cl K1 a0 b0 G0 H0 J0 K0),cI l] [.agg (cl H e f J K L M),cI g],.r 13 [.agg (cl A a b C E F G)] [.agg (cl N i j P Q R S)],.r 37 [.agg (cl N i j P Q R S),cI l] [.agg (cl U c d V W X Y),cI m],.r 15 [.agg (cl U c d V W X Y),.agg (cl H e f J K L M)] [cB q],.n q false,.b (m != g) false,.r 13 [.agg (cl A a b C E F G)] [.agg (cl L0 c0 d0 M0 N0 P0 Q0)],.r 15 [.agg (cl N i j P Q R S),.agg (cl L0 c0 d0 M0 N0 P0 Q0)] [cB r],.n r false,.a (.resG [[some (some R0),none,none,some (some S0),some (some U0),some (some V0),some (some W0)],[none]] 0 [] [cI n]),.p (RetG prog 16 [GA.agg [GC.gv 4 N (some R0),GC.ro (I i),GC.ro (I j),GC.gv 8 P (some S0),GC.gv 6 Q (some U0),GC.gv 5 R (some V0),GC.gv 3 S (some W0)],GA.one (GC.ro (I 1))] [cI n]),.b (decide (n<0)) false,.r 15 [.agg (cl U c d V W X Y),.agg (cl H e f J K L M)] [cB s],.n s false,.b (m != g) false,.a (.resG [[some (some Z),none,none,some (some A0),some (some C0),some (some E0),some (some F0)],[none]] 0 [] [cI k]),.p (RetG prog 16 [GA.agg [GC.gv 4 U (some Z),GC.ro (I c),GC.ro (I d),GC.gv 8 V (some A0),GC.gv 6 W (some C0),GC.gv 5 X (some E0),GC.gv 3 Y (some F0)],GA.one (GC.ro (I 1))] [cI k]),.r 17 [.agg (cl Z c d A0 C0 E0 F0),cI 1] [cI o],.b (decide (o<0)) false,.b (o != k) false,.r 13 [.agg (cl A a b C E F G)] [.agg (cl X0 e0 f0 Y0 Z0 A1 C1)],.r 37 [.agg (cl X0 e0 f0 Y0 Z0 A1 C1),cI l] [.agg (cl E1 i0 j0 F1 G1 H1 J1),cI k0],.r 15 [.agg (cl E1 i0 j0 F1 G1 H1 J1),.agg (cl H e f J K L M)] [cB t],.n t false,.b (k0 != g) false,.r 17 [.agg (cl Z c d A0 C0 E0 F0),cI 1] [cI p],.b (decide (p<0)) false,.b (p != k) false]):
 Rt 9 [.agg (cl A a b C E F G),cI l] [cB true]:=
 h.of
end Go.Proofs.YtdanpadojemjeaaGreat
