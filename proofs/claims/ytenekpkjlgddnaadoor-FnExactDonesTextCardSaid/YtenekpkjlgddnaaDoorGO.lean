import Derived.Test.YtenekpkjlgddnaaDoorRows
import Derived.Test.YtenekpkjlgddnaaDoorGE
namespace Go.Proofs.YtenekpkjlgddnaaDoor
open Go.Sx Go.RowKit
variable {a : Int} {A C E F G H J K L M N P Q R S U V W X Y Z A0 C0 E0 F0 G0 H0 J0 K0 L0 M0 N0 : LL} {q : Bool}
theorem qlz(h:Oo [.r 8 [.agg (wk A C E F G H J K),cI 1048576] [cI a],.b (decide (a<0)) true]):
 Rt 4 [.agg (wk A C E F G H J K)] [cB true]:=
 h.of
theorem qlA(A C E F G H J K:LL)(a:Int)(N0 V W X Y Z A0 C0:LL)(s17:ByteArray)(L M N P Q R S U:LL)(s26:ByteArray)(E0 F0 G0 H0 J0 K0 L0 M0:LL)(q:Bool)(h:Oo [.r 8 [.agg (wk A C E F G H J K),cI 1048576] [cI a],.b (decide (a<0)) false,.r 10 [.agg (wk A C E F G H J K)] [.agg (wk N0 V W X Y Z A0 C0)],.r 9 [.agg (wk N0 V W X Y Z A0 C0)] [.one (Str s17)],.r 10 [.agg (wk A C E F G H J K)] [.agg (wk L M N P Q R S U)],.r 11 [.agg (wk L M N P Q R S U)] [.one (Str s26)],.b (!s26.toList==s17.toList) false,.r 10 [.agg (wk A C E F G H J K)] [.agg (wk E0 F0 G0 H0 J0 K0 L0 M0)],.r 12 [.agg (wk L M N P Q R S U),.agg (wk E0 F0 G0 H0 J0 K0 L0 M0)] [cB q],.n q false]):
 Rt 4 [.agg (wk A C E F G H J K)] [cB true]:=
 h.of
end Go.Proofs.YtenekpkjlgddnaaDoor
