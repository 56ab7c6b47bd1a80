import Derived.Test.YtdanpadojemjeaaGreatRows
import Derived.Test.YtdanpadojemjeaaGreatGE
namespace Go.Proofs.YtdanpadojemjeaaGreat
open Go.Sx Go.RowKit
variable {a b c d e f g i j : Int} {A C E F G H J K L M N P Q R S U V W X Y : LL} {q r s : Bool}
theorem qPK(h:Oo [.r 11 [.agg (cl A a b C E F G),cI 1048576] [cI c],.b (decide (c<0)) true]):
 Rt 5 [.agg (cl A a b C E F G)] [cB true]:=
 h.of
theorem qPL(h:Oo [.r 11 [.agg (cl A a b C E F G),cI 1048576] [cI i],.b (decide (i<0)) false,.r 13 [.agg (cl A a b C E F G)] [.agg (cl Y j e N P Q R)],.r 20 [.agg (cl Y j e N P Q R)] [cB q],.r 13 [.agg (cl A a b C E F G)] [.agg (cl H c d J K L M)],.r 21 [.agg (cl H c d J K L M)] [cB r],.b (!r==q) false,.r 13 [.agg (cl A a b C E F G)] [.agg (cl S f g U V W X)],.r 15 [.agg (cl H c d J K L M),.agg (cl S f g U V W X)] [cB s],.n s false]):
 Rt 5 [.agg (cl A a b C E F G)] [cB true]:=
 h.of
end Go.Proofs.YtdanpadojemjeaaGreat
