import Derived.Test.YtdanpadojemjeaaGreatRows
import Derived.Test.YtdanpadojemjeaaGreatGE
namespace Go.Proofs.YtdanpadojemjeaaGreat
open Go.Sx Go.RowKit
variable {l0 l3 l10 l11 l12 l14 l15 l19 l20 l21 l22 l23 l24 l25 l26 : LL} {n1 n2 n3 n4 n5 n6 n7 n8 n9 n10 n11 n12 n13 n14 n15 n16 n17 n20 n21 n22 n23 n24 n25 n26 n27 : Int} {b8 b9 b10 b11 b12 b13 b14 b15 b16 b17 b18 b19 b20 b21 b22 b23 b24 : Bool}
end Go.Proofs.YtdanpadojemjeaaGreat
