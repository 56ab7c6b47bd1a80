import Derived.Test.YtdchjefneblpgaaGE
set_option linter.unusedVariables false
set_option linter.unusedSimpArgs false
namespace Go.Proofs.Ytdchjefneblpgaa
open Go.Sx Go.RowKit Go.Proofs.Try
variable {a b c d e f g i j k l m n o p a0 cm : Int} {A C E F G H kl K : aE} {q r s t : Bool}
theorem acg(h:al [.r 29 [.agg (bj A a b)] [au r],.n r true]):
 dx 18 [ba.ro (.agg (bj A a b)),ba.ro (aB 5 E),ba.ro (ao e),ba.fn 21 [4,5],ba.ref [B q] [B q],ba.cur (bj C c d) (bj C c d)] (bd.vals [aB 4 [],ao 0,au false]):=
 h.dB
def q'(C A:aE)(a:Int)(E F:aE)(b c:Int)(q:Bool)(d e:Int):aG:=bR 74 [(3,.aN (.one (.eL 21 [1000000004,1000000005]))),(4,bC 4),(11,az.aN (bi.one (bU 38 5 E))),(24,az.aN (bi.one (bU 250000 5 A))),(25,bB (A.length:Int)),(26,bB a)] [(4,[.aa .free 4 F,aS b,aS c]),(1000000004,[.bP q]),(1000000005,[.dL 1000000600 4 C,aS d,aS e])]
theorem ach(h:al [.i A d (bx j a k b c),.r 31 [.agg (bx j a k b c)] [au r],.b r true,.g C [(bx 0 a 0 b c)] 40,.h [(bx 0 a 0 b c)],.u d]):
 bp (aF f18 0) (q' F A d C E e f q g i) .normal (q' F A (d+1) (C++[(bx 0 a 0 b c)]) E e f q g i):=
 h.bu [26,25,24,11,3,4] [4,1000000004,1000000005]
theorem adm(h:al [.i A a (bx f g i j k),.r 31 [.agg (bx f g i j k)] [au r],.b r false,.u a]):
 bp (aF f18 0) (q' F A a C E b c q d e) .normal (q' F A (a+1) C E b c q d e):=
 h.bu [26,25,24,11,3,4] [4,1000000004,1000000005]
def Ff(A C E:aE)(a b:Int)(q:Bool)(c d:Int):aG:=bR 74 [(3,.aN (.one (.eL 21 [1000000004,1000000005]))),(4,bC 4),(11,az.aN (bi.one (bU 38 5 C)))] [(4,[.aa .free 4 E,aS a,aS b]),(1000000004,[.bP q]),(1000000005,[.dL 1000000600 4 A,aS c,aS d])]
theorem adn(h:al [.f A a false]):
 bp (aF f18 0) (q' F A a C E b c q d e) (.exit 0) (Ff F C E b c q d e):=
 h.bu [11,3,4] [4,1000000004,1000000005]
def so(A C:aE)(a:Int)(E F:aE)(b c:Int)(q:Bool)(d e:Int):aG:=bR 74 [(3,.aN (.one (.eL 21 [1000000004,1000000005]))),(4,bC 4),(11,az.aN (bi.one (bU 38 5 C))),(14,az.aN (bi.one (bU 590000 4 E))),(15,bB a)] [(4,[.aa .free 4 F,aS b,aS c]),(1000000004,[.bP q]),(1000000005,[.dL 1000000600 4 A,aS d,aS e])]
theorem ado(h:al [.b (decide ((A.length:Int)>0)) true,.b (decide (a<20000)) true,.p ((0:Int)<=0),.p (0<(A.length:Int)),.e A 0 (bx i j k l m),.a (.eI [none,some [B q],some (bj C d e)] (bd.vals [])),.p (cv prog 21 [ba.ro (.agg (bx i j k l m)),ba.ref [B r] [B q],ba.cur (bj C f g) (bj C d e)] (bd.vals [])),.p ((0:Int)<=0),.p (0<(A.length:Int)),.e A 0 (bx n o p a0 cm),.r 32 [.agg (bj F b c),aB 4 G,.agg (bx n o p a0 cm)] [aB 4 H,aB 5 E,au s],.a .own,.p ((0:Int)<=(some (1:Int)).getD 0),.p ((some (1:Int)).getD 0<=none.getD (A.length:Int)),.p (none.getD (A.length:Int)<=(A.length:Int)),.g (List.take (A.length-1) (List.drop 1 A)) E 40,.h E,.u a]):
 bp (aF f18 1) (so C A a G F b c r f g) .normal (so C (List.take (A.length-1) (List.drop 1 A)++E) (a+1) H F b c q d e):=
 h.bu [11,15,3,4,14] [4,1000000004,1000000005]
def zT(A C:aE)(a:Int)(E:aE)(q:Bool)(b c:Int):aG:=bR 74 [(3,.aN (.one (.eL 21 [1000000004,1000000005]))),(11,az.aN (bi.one (bU 38 5 E))),(14,az.aN (bi.one (bU 590000 4 C))),(15,bB a)] [(1000000004,[.bP q]),(1000000005,[.dL 1000000600 4 A,aS b,aS c])]
theorem adp(h:al [.b (decide ((A.length:Int)>0)) true,.b (decide (a<20000)) false]):
 bp (aF f18 1) (so E A a C F d e q b c) (.exit 2) (zT E C a A q b c):=
 h.bu [14,15,11,3] [1000000004,1000000005]
theorem M6(h:al [.b (decide ((A.length:Int)>0)) false]):
 bp (aF f18 1) (so E A a C F d e q b c) (.exit 2) (zT E C a A q b c):=
 h.bu [14,15,11,3] [1000000004,1000000005]
theorem adq(h:al [.r 29 [.agg (bj C a b)] [au t],.n t false,.r 30 [aB 5 K,ao k] [aB 5 E],.l [(11,38,5)] [26,25,24,11,3,4] [4,1000000004,1000000005] (aF f18 0) (q' A E 0 [] C a b s l m) (.exit 0) (Ff A F G c d q e f),.l [(14,590000,4)] [11,15,3,4,14] [4,1000000004,1000000005] (aF f18 1) (so A F 0 [] G c d q e f) (.exit 2) (zT A H g kl r i j)]):
 dx 18 [ba.ro (.agg (bj C a b)),ba.ro (aB 5 K),ba.ro (ao k),ba.fn 21 [4,5],ba.ref [B s] [B r],ba.cur (bj A l m) (bj A i j)] (bd.vals [aB 4 H,ao g,au ((kl.length:Int)==0)]):=
 h.dB
theorem M7(h:al [.a (.eI [none,none,none,none,some [B q],some (bj A d e)] (bd.vals [aB 4 E,ao f,au r])),.p (cv prog 18 [ba.ro (.agg (bj A a b)),ba.ro (aB 5 C),ba.ro (ao c),ba.fn 21 [4,5],ba.ref [B false] [B q],ba.cur (bj A a b) (bj A d e)] (bd.vals [aB 4 E,ao f,au r]))]):
 aA 10 [.agg (bj A a b),aB 5 C,ao c] [au q]:=
 h.of
theorem adr(h:al [.b q true]):
 dx 21 [ba.ro (.agg (bx c d e f g)),ba.ref [B q] [B true],ba.cur (bj A a b) (bj A a b)] (bd.vals []):=
 h.dB
theorem ads(h:al [.b q false,.r 22 [.agg (bj A a b),.agg (bx c d e f g)] [au r]]):
 dx 21 [ba.ro (.agg (bx c d e f g)),ba.ref [B q] [B r],ba.cur (bj A a b) (bj A a b)] (bd.vals []):=
 h.dB
