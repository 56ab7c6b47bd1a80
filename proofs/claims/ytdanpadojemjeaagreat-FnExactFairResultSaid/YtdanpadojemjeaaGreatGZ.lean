import Derived.Test.YtdanpadojemjeaaGreatRows
import Derived.Test.YtdanpadojemjeaaGreatGE
namespace Go.Proofs.YtdanpadojemjeaaGreat
open Go.Sx Go.RowKit Go.Proofs.Tryz
variable {a b c d e f g i j k l m n o p a0 b0 c0 : Int} {A C E F G H J K L M N P Q R S U : LL} {q r s t u v w x : Bool}
theorem qMk(h:Oo [.r 38 [.agg (gr A a b),cI 1048576] [cI c],.b (decide (c<0)) true]):
 Rt 10 [.agg (gr A a b),cS 5 C,cI d] [cB true]:=
 h.of
theorem qMl(h:Oo [.r 38 [.agg (gr A b c),cI 1048576] [cI a],.b (decide (a<0)) false,.r 39 [cS 5 C,cI a] [cI d],.b (decide (d<0)) true]):
 Rt 10 [.agg (gr A b c),cS 5 C,cI e] [cB true]:=
 h.of
theorem qMm(h:Oo [.r 38 [.agg (gr A a b),cI 1048576] [cI l],.b (decide (l<0)) false,.r 39 [cS 5 C,cI l] [cI a0],.b (decide (a0<0)) false,.r 41 [.agg (gr A a b)] [.agg (gr U b0 c0)],.r 42 [cS 5 C] [cS 5 K],.r 40 [.agg (gr U b0 c0),cS 5 K,cI f] [cS 4 E,cB q],.r 41 [.agg (gr A a b)] [.agg (gr F c d)],.r 42 [cS 5 C] [cS 5 G],.r 43 [.agg (gr F c d),cS 5 G,cI f] [cS 4 H,cB r],.r 44 [cS 4 H,cS 4 E] [cB s],.n s false,.b (!r==q) false,.r 41 [.agg (gr A a b)] [.agg (gr L m n)],.r 45 [.agg (gr F c d),.agg (gr L m n)] [cB t],.n t false,.r 42 [cS 5 C] [cS 5 M],.r 46 [cS 5 G,cS 5 M] [cB u],.n u false,.a (.resG [[some (some N),none,none],[none]] 0 [] [cI g]),.a (.resG [[some (some P)],[none]] 0 [] [cI i]),.p (RetG prog 47 [GA.agg [GC.gv 4 F (some N),GC.ro (I c),GC.ro (I d)],GA.one (GC.ro (I 1))] [cI g]),.p (RetG prog 48 [GA.one (GC.gv 5 G (some P)),GA.one (GC.ro (I g))] [cI i]),.b (decide (i<0)) false,.r 44 [cS 4 H,cS 4 E] [cB v],.n v false,.b (!r==q) false,.a (.resG [[some (some J)],[none]] 0 [] [cI e]),.p (RetG prog 49 [GA.one (GC.gv 4 H (some J)),GA.one (GC.ro (I 1))] [cI e]),.r 50 [cS 4 J,cI 1] [cI j],.b (decide (j<0)) false,.b (j != e) false,.r 41 [.agg (gr A a b)] [.agg (gr Q o p)],.r 42 [cS 5 C] [cS 5 R],.r 43 [.agg (gr Q o p),cS 5 R,cI f] [cS 4 S,cB w],.r 44 [cS 4 S,cS 4 E] [cB x],.n x false,.b (!w==q) false,.r 50 [cS 4 J,cI 1] [cI k],.b (decide (k<0)) false,.b (k != e) false]):
 Rt 10 [.agg (gr A a b),cS 5 C,cI f] [cB true]:=
 h.of
end Go.Proofs.YtdanpadojemjeaaGreat
