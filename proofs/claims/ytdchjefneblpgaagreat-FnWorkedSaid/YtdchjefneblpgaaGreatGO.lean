import Derived.Test.YtdchjefneblpgaaGreatGE
namespace Go.Proofs.YtdchjefneblpgaaGreat
open Go.Sx Go.RowKit
variable {a b c d e f g i j k l m n o p : Int} {A C E F G H ao K L M N Q R S bm V X Y Z ew fS il xZ iX x0 iY x1 iZ x2 i' H1 ka x3 sx x4 sy x5 ui x6 uj x7 uk BC sA BD sB BE x8 BG Fj Fk Fl VW mY jX MN VX MO VY MP : ae} {q r s t u v w x y z h' : Bool}
theorem ajf(h:ad [.r 12 [aP 1 A] [ak q],.b q true]):
av 6 [aP 1 A] [ak true]:=
h.of
def Uk(A:ae)(q:Bool)(C:ae)(a b:Int)(E F G H:ae)(c:Int)(ao:ae)(d e:Int)(K L M N:ae)(r:Bool)(P:ae)(f g:Int)(Q R S bm:ae)(s:Bool)(V:ae)(i j:Int)(X Y Z fS:ae)(t:Bool)(xZ:ae)(k m:Int)(x0 x1 x2 H1:ae)(u v w:Bool)(x3:ae)(n o:Int)(x4 x5 x6 x7:ae)(x:Bool)(BC:ae)(p eO:Int)(BD BE BG Fk:ae)(y:Bool)(l:List O):List O:=.r 12 [aP 1 A] [ak q]::.b q false::.r 43 [aP 1 A] [.agg (cl C a b E F G H),af c]::.r 44 [.agg (cl C a b E F G H),af c] [.agg (cl ao d e K L M N),ak r]::.r 45 [.agg (cl C a b E F G H),af c] [.agg (cl P f g Q R S bm),ak s]::.r 36 [.agg (cl C a b E F G H),af c] [.agg (cl V i j X Y Z fS),ak t]::.r 46 [.agg (cl C a b E F G H),af c] [.agg (cl xZ k m x0 x1 x2 H1),ak u]::.b (!r==s) false::.r 35 [.agg (cl ao d e K L M N),.agg (cl P f g Q R S bm)] [ak v]::.n v false::.b (!t==u) false::.r 35 [.agg (cl V i j X Y Z fS),.agg (cl xZ k m x0 x1 x2 H1)] [ak w]::.n w false::.r 14 [.agg [D.J 4 [[I 1,I 0,I 0,D.v (aO)]],I 2,I 1],.one (.J 5 [(bn 0 0 0 1 0)])] [.agg (cl x3 n o x4 x5 x6 x7),ak x]::.r 36 [.agg (cl x3 n o x4 x5 x6 x7),af 1] [.agg (cl BC p eO BD BE BG Fk),ak y]::l
theorem ajg(h:ad (Uk H r A a b C E F G c ao d e K L M N q Q f g R S bm V s X i j Y Z ew il t iX k l iY iZ i' ka u v w sx m n sy ui uj uk z sA o p sB x8 Fj Fl x [.n q true,.r 35 [.agg (cl ao d e K L M N),.agg (cl A a b C E F G)] [ak y],.b y true])):
av 6 [aP 1 H] [ak x]:=
h.of
def tO(A:ae)(a d:Int)(H ao K L:ae)(e:Int)(M:ae)(f b:Int)(C E F G:ae)(q:Bool)(c:Int):aI:=bg 140 [(3,aQ 3),(4,aY e),(5,aQ 5),(17,.aK (.one (.ba q))),(18,aY c)] [(5,[aC 320000 4 M,ax f,ax b,aC 320003 8 C,aC 320004 6 E,aC 320005 5 F,aC 320006 3 G]),(3,[aC 260000 4 A,ax a,ax d,aC 260003 8 H,aC 260004 6 ao,aC 260005 5 K,aC 260006 3 L])]
theorem ajh(h:ad [.f A a true,.b (a != b) true,.x C a (bb L M N Q R S bm V),.x A a (bb X Z ew il iX iY iZ i'),.r 47 [.agg (bb L M N Q R S bm V),.agg (bb X Z ew il iX iY iZ i')] [ak r],.n r false,.u a]):
a7 (aq Tryz.f6 0) (tO ao e f A K Y ka b E c d C F G H q a) .normal (tO ao e f A K Y ka b E c d C F G H q (a+1)):=
h.aX [18,3,4,5,17] [5,3]
theorem aji(h:ad [.f A a true,.b (a != b) false,.u a]):
a7 (aq Tryz.f6 0) (tO ao e f A K L M b C c d E F G H q a) .normal (tO ao e f A K L M b C c d E F G H q (a+1)):=
h.aX [18,3,4,5,17] [5,3]
def KD(A:ae)(a c:Int)(H ao K L:ae)(d:Int)(M:ae)(e b:Int)(C E F G:ae)(q:Bool):aI:=bg 140 [(3,aQ 3),(4,aY d),(5,aQ 5),(17,.aK (.one (.ba q)))] [(5,[aC 320000 4 M,ax e,ax b,aC 320003 8 C,aC 320004 6 E,aC 320005 5 F,aC 320006 3 G]),(3,[aC 260000 4 A,ax a,ax c,aC 260003 8 H,aC 260004 6 ao,aC 260005 5 K,aC 260006 3 L])]
theorem ajj(h:ad [.f A e false]):
a7 (aq Tryz.f6 0) (tO ao c d A K L M f C a b E F G H q e) (.exit 0) (KD ao c d A K L M f C a b E F G H q):=
h.aX [3,4,5,17] [5,3]
theorem ajk(h:ad (Uk N s A b c C E F G a ao d e H K L M r Q f g R S bm V t X i j Y Z ew il u iX k l iY iZ i' ka v w x sx m n sy ui uj uk z Fk o p VW jX VX VY q [.n r false,.l [] [18,3,4,5,17] [5,3] (aq Tryz.f6 0) (tO A b c C E F G a ao d e H K L M q 0) (.exit 0) (KD A b c C E F G a ao d e H K L M q),.x C a (bb sA sB x8 Fj Fl mY MN MO),.r 48 [.agg (bq A b c),.agg (bb sA sB x8 Fj Fl mY MN MO)] [.agg (bb MP fS xZ x0 x1 x2 H1 x3),ak h'],.x H a (bb x4 x5 x6 x7 BC BD BE BG),.r 47 [.agg (bb x4 x5 x6 x7 BC BD BE BG),.agg (bb MP fS xZ x0 x1 x2 H1 x3)] [ak y],.b y true])):
av 6 [aP 1 N] [ak q]:=
h.of
