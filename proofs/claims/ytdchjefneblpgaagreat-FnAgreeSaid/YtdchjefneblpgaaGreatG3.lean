import Derived.Test.YtdchjefneblpgaaGreatGE
set_option linter.unusedVariables false
set_option linter.unusedSimpArgs false
namespace Go.Proofs.YtdchjefneblpgaaGreat
open Go.Sx Go.RowKit Go.Proofs.Tryz
variable {a b c d e f g i j k l m n o p a0 ck dT d0 cc f0 i0 : Int} {A C E F G H au K L M N Q R S bi V X Y Z dz : ak} {q r : Bool}
def Gc(H au:ak)(c d e f:Int)(K G:ak)(a b:Int)(A C E F:ak)(q:Bool):aG:=bp 30 [(0,bE 1000000000),(2,bE 2),(3,bE 3),(4,.bd (.one (.cg q))),(5,aI.gv [bS.agg [aV 110000 4 G,aM a,aM b,aV 110003 8 A,aV 110004 6 C,aV 110005 5 E,aV 110006 3 F],bS.one (aD.cg q)]),(6,bE 1000000000),(7,aI.bd (bS.agg [aV 80000 4 au,aM c,aM d])),(8,bE 1000000000),(9,aI.bd (bS.one (aV 100000 5 K))),(10,aI.gv [bS.agg [aV 110000 4 G,aM a,aM b,aV 110003 8 A,aV 110004 6 C,aV 110005 5 E,aV 110006 3 F],bS.one (aD.cg q)]),(11,aI.bd (bS.agg [aV 110000 4 G,aM a,aM b,aV 110003 8 A,aV 110004 6 C,aV 110005 5 E,aV 110006 3 F])),(12,.bd (.one (.cg q)))] [(3,[aV 110000 4 G,aM a,aM b,aV 110003 8 A,aV 110004 6 C,aV 110005 5 E,aV 110006 3 F]),(2,[.v (a8),aM 0,aM 0,.v (a8),.v (a8),.v (a8),.v (a8)]),(1000000000,[.gb 1000000100 1 H,aM e,aM f])]
def Cm(P:Program)(W:Array Oper)(A bi:ak)(j k a b:Int)(C E:ak)(c d:Int)(F G H au:ak)(q:Bool)(e f:Int)(K L:ak)(g i:Int)(M N Q R S:ak):aG:=
 CO P W [[],[],[.hd [some [D.J 1 A,I e,I f],none] (bG.vals [aS 3 K])],[.res [.agg (cl L g i M N Q R),aS 1 S]],[],[],[],[]] (Gc A bi j k a b C E c d F G H au q)
theorem V3{A bi:ak}{j k a b:Int}{K C:ak}{c d:Int}{E F G H:ak}{q:Bool}{e f:Int}{au L:ak}{g i:Int}{M N Q R S:ak}
  (h:c8 [dC prog 120 [bc.cur [D.J 1 A,I a,I b] [D.J 1 A,I e,I f],bc.ro (ag 40)] (bG.vals [aS 3 au]),aw 15 [.agg (cl C c d E F G H),aS 3 au] [.agg (cl L g i M N Q R),aS 1 S]]):
  nr prog (kk f166 2) (Gc A bi j k a b K C c d E F G H q) (Cm prog (kk f166 2) A bi j k a b K C c d E F G H q e f au L g i M N Q R S):=
 .EB [0,0,1,1,0,0,0,0] h
def MR(Q R:ak)(e i:Int)(bi K:ak)(c d:Int)(L M A C:ak)(q:Bool)(S E:ak)(a b:Int)(F G H au N:ak)(f g:Int)(r:Bool):aG:=bp 30 [(0,bE 1000000000),(2,bE 2),(3,bE 3),(4,.bd (.one (.cg q))),(5,aI.gv [bS.agg [aV 110000 4 K,aM c,aM d,aV 110003 8 L,aV 110004 6 M,aV 110005 5 A,aV 110006 3 C],bS.one (aD.cg q)]),(6,bE 1000000000),(7,aI.bd (bS.agg [aV 80000 4 R,aM e,aM i])),(8,bE 1000000000),(9,aI.bd (bS.one (aV 100000 5 bi))),(10,aI.gv [bS.agg [aV 110000 4 K,aM c,aM d,aV 110003 8 L,aV 110004 6 M,aV 110005 5 A,aV 110006 3 C],bS.one (aD.cg q)]),(11,aI.bd (bS.agg [aV 110000 4 K,aM c,aM d,aV 110003 8 L,aV 110004 6 M,aV 110005 5 A,aV 110006 3 C])),(12,.bd (.one (.cg q))),(13,aI.gv [bS.agg [aV 180000 4 E,aM a,aM b,aV 180003 8 F,aV 180004 6 G,aV 180005 5 H,aV 180006 3 au],bS.one (aV 180100 1 N)]),(14,aI.bd (bS.agg [aV 110000 4 K,aM c,aM d,aV 110003 8 L,aV 110004 6 M,aV 110005 5 A,aV 110006 3 C])),(15,bE 1000000000),(16,aI.bd (bS.one (aV 170000 3 S))),(17,aI.gv [bS.agg [aV 180000 4 E,aM a,aM b,aV 180003 8 F,aV 180004 6 G,aV 180005 5 H,aV 180006 3 au],bS.one (aV 180100 1 N)]),(18,aI.bd (bS.agg [aV 180000 4 E,aM a,aM b,aV 180003 8 F,aV 180004 6 G,aV 180005 5 H,aV 180006 3 au])),(19,aI.bd (bS.one (aV 180100 1 N))),(20,bE 1000000000),(21,.bd (.one (.cg r)))] [(3,[aV 180000 4 E,aM a,aM b,aV 180003 8 F,aV 180004 6 G,aV 180005 5 H,aV 180006 3 au]),(2,[.v (a8),aM 0,aM 0,.v (a8),.v (a8),.v (a8),.v (a8)]),(1000000000,[.gb 1000000100 1 Q,aM f,aM g])]
def MS(P:Program)(W:Array Oper)(A dz:ak)(n o:Int)(C E:ak)(a b:Int)(F G H au:ak)(q:Bool)(K L:ak)(c d:Int)(M N Q R S:ak)(e f:Int)(r:Bool)(g i j:Int)(bi:ak)(k l:Int)(V X Y Z:ak)(m:Int):aG:=
 CO P W [[],[],[.hd [some [D.J 1 A,I g,I i],none] (bG.vals [ag j])],[.res [.agg (cl bi k l V X Y Z),ag m]],[],[],[],[]] (MR A dz n o C E a b F G H au q K L c d M N Q R S e f r)
theorem amI{A dz:ak}{n o:Int}{au K:ak}{f g:Int}{L M N Q:ak}{q:Bool}{R C:ak}{a b:Int}{E F G H S:ak}{c d:Int}{r:Bool}{i j e:Int}{bi:ak}{k l:Int}{V X Y Z:ak}{m:Int}
  (h:c8 [dC prog 138 [bc.cur [D.J 1 A,I c,I d] [D.J 1 A,I i,I j],bc.ro (ag 12)] (bG.vals [ag e]),aw 16 [.agg (cl C a b E F G H),ag e] [.agg (cl bi k l V X Y Z),ag m]]):
  nr prog (kk f166 4) (MR A dz n o au K f g L M N Q q R C a b E F G H S c d r) (MS prog (kk f166 4) A dz n o au K f g L M N Q q R C a b E F G H S c d r i j e bi k l V X Y Z m):=
 .EB [0,0,1,1,0,0,0,0] h
def Wk(A:ak)(a b:Int)(C:ak)(c d e f:Int)(E:ak)(g i:Int)(F:ak)(j k:Int)(G H au K:ak)(q:Bool)(l:List O):List O:=.a (.hd [some [D.J 1 A,I a,I b]] (bG.vals [.agg (bP C c d)]))::.a (.hd [some [D.J 1 A,I e,I f]] (bG.vals [aS 5 E]))::.p (dC prog 118 [bc.cur [D.J 1 A,I g,I i] [D.J 1 A,I a,I b]] (bG.vals [.agg (bP C c d)]))::.p (dC prog 119 [bc.cur [D.J 1 A,I a,I b] [D.J 1 A,I e,I f]] (bG.vals [aS 5 E]))::.r 14 [.agg (bP C c d),aS 5 E] [.agg (cl F j k G H au K),al q]::l
theorem amJ(h:ah (Wk A p dT E a b e f C d0 cc F c d G H au K q [.a (.z' (Cm prog (kk f166 2) A E a b e f C F c d G H au K q l m L M g i N Q R S bi)),.y A j k r,.p (nr prog (kk f166 2) (Gc A E a b e f C F c d G H au K q) (Cm prog (kk f166 2) A E a b e f C F c d G H au K q l m L M g i N Q R S bi)),.m A 136 l m j k 4 r,.b r true,.a (.z' (MS prog (kk f166 4) A E a b C F c d G H au K q L M g i N Q R S bi j k r n o f0 V a0 ck X Y Z dz i0)),.p (nr prog (kk f166 4) (MR A E a b C F c d G H au K q L M g i N Q R S bi j k r) (MS prog (kk f166 4) A E a b C F c d G H au K q L M g i N Q R S bi j k r n o f0 V a0 ck X Y Z dz i0))])):
 dd 166 [bc.cur [D.J 1 A,I d0,I cc] [D.J 1 A,I n,I o]] (bG.vals [.agg (cl V a0 ck X Y Z dz)]):=
 h.dg
theorem amK(h:ah (Wk A n o E a b c d C p a0 F e f G H au K q [.a (.z' (Cm prog (kk f166 2) A E a b c d C F e f G H au K q g i S L j k M N Q R bi)),.y A l m r,.p (nr prog (kk f166 2) (Gc A E a b c d C F e f G H au K q) (Cm prog (kk f166 2) A E a b c d C F e f G H au K q g i S L j k M N Q R bi)),.m A 136 g i l m 4 r,.b r false])):
 dd 166 [bc.cur [D.J 1 A,I p,I a0] [D.J 1 A,I l,I m]] (bG.vals [.agg (cl L j k M N Q R)]):=
 h.dg
theorem amL(h:ah [.a (.hd [none] (bG.kf [some 0,none,none] [D.J 1 A,I a,I b])),.a (.hd [some [D.J 1 A,I e,I f]] (bG.vals [.agg (cl H c d C E F G)])),.p (dC prog 117 [bc.ro (aS 1 A)] (bG.kf [some 0,none,none] [D.J 1 A,I a,I b])),.p (dC prog 166 [bc.cur [D.J 1 A,I a,I b] [D.J 1 A,I e,I f]] (bG.vals [.agg (cl H c d C E F G)]))]):
 aw 39 [aS 1 A] [.agg (cl H c d C E F G)]:=
 h.of
end Go.Proofs.YtdchjefneblpgaaGreat
namespace Go.Proofs.YtdchjefneblpgaaGreat
open Go.Sx Go.RowKit Go.Proofs.Tryz
variable {a b c d e f g i j k l m n o p a0 ck dT d0 cc f0 i0 : Int} {A C E F G H au K L M N Q R S bi V X Y Z dz : ak} {q r : Bool}
end Go.Proofs.YtdchjefneblpgaaGreat
namespace Go.Proofs.YtdchjefneblpgaaGreat
open Go.Sx Go.RowKit Go.Proofs.Tryz
variable {a b c d e f g i j k l m n o p a0 ck dT d0 cc f0 i0 : Int} {A C E F G H au K L M N Q R S bi V X Y Z dz : ak} {q r : Bool}
