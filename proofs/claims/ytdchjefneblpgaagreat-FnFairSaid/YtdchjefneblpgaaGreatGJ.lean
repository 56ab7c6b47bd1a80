import Derived.Test.YtdchjefneblpgaaGreatGE
set_option linter.unusedVariables false
set_option linter.unusedSimpArgs false
namespace Go.Proofs.YtdchjefneblpgaaGreat
open Go.Sx Go.RowKit
variable {a b c d e f g i j k l m n o p a0 eC b6 c5 d0 bE f0 i0 j0 dm eF m0 lA ph hq : Int} {A C E F G H ah K L M N Q R S ba V X Y Z dC dL fh iu fu hF fI ib fJ iv fK H1 eW wB kg wC kX wD lO wE lP yH lQ yI oN yJ oO Ey r6 tg uK lR AZ A0 A1 : ag} {q r s t u v : Bool}
theorem avz(h:ad [.r 12 [aO 1 A] [aj q],.b q true]):
 aq 8 [aO 1 A] [aj true]:=
 h.of
theorem avA(h:ad [.r 12 [aO 1 A] [aj q],.b q false,.r 39 [aO 1 A] [.agg (cl Q i k Y fJ fK eW)],.r 40 [.agg (cl Q i k Y fJ fK eW),ae 3000] [.agg (cl N a b C E F G),ae e],.r 16 [.agg (cl Q i k Y fJ fK eW),ae 3000] [.agg (cl kg n o kX lO lP lQ),ae p],.b (e != p) false,.r 35 [.agg (cl N a b C E F G),.agg (cl kg n o kX lO lP lQ)] [aj r],.n r false,.r 62 [aO 1 A] [.agg (cl R f g S ba V X),ae j],.r 40 [.agg (cl R f g S ba V X),ae j] [.agg (cl oN a0 b6 oO r6 tg uK),ae c5],.r 16 [.agg (cl R f g S ba V X),ae j] [.agg (cl lR d0 bE AZ A0 A1 dL),ae f0],.r 63 [aO 1 A] [.agg (cl Z l m dC fh fu fI)],.r 64 [.agg (cl Z l m dC fh fu fI)] [.agg (cl iu i0 j0 hF ib iv H1),ae dm],.r 65 [.agg (cl Z l m dC fh fu fI)] [.agg (cl wB eF m0 wC wD wE yH),ae lA],.r 66 [aO 1 A] [.agg (cl H c d ah K L M)],.b (c5==f0) true,.r 35 [.agg (cl oN a0 b6 oO r6 tg uK),.agg (cl lR d0 bE AZ A0 A1 dL)] [aj s],.b s true,.b (dm==lA) true,.r 35 [.agg (cl iu i0 j0 hF ib iv H1),.agg (cl wB eF m0 wC wD wE yH)] [aj t],.b t true,.b (decide (e<3000)) true,.r 67 [.agg (cl N a b C E F G)] [ae ph],.b (ph==4) true,.r 38 [.agg (cl N a b C E F G)] [aO 5 yI],.b ((yI.length:Int)==0) true,.r 68 [.agg (cl N a b C E F G)] [aj u],.n u true,.r 67 [.agg (cl H c d ah K L M)] [ae hq],.r 69 [.agg (cl H c d ah K L M)] [ae eC],.b (hq==eC) true,.r 71 [.agg (cl H c d ah K L M)] [aO 1 yJ],.r 72 [.agg (cl H c d ah K L M)] [aO 1 Ey],.r 70 [aO 1 yJ,aO 1 Ey] [aj v]]):
 aq 8 [aO 1 A] [aj v]:=
 h.of
