import Derived.Test.YthfnndblgbjniaaGreatDoorGE
namespace Go.Proofs.YthfnndblgbjniaaGreatDoor
open Go.Sx Go.RowKit Go.Proofs.Tryz
variable {a b c : Int} {A C E F G H ah K L : ae} {q r : Bool}
def sA(A:ae)(a:Int)(C:ae):aD:=bd 28 [(3,aE.az (bg.one (al 24 1 C))),(8,cQ 2 A),(9,aU (A.length:Int)),(10,aU a)] []
theorem air{A:ae}{a:Int}{C:ae}{b:Int}{q:Bool}{mT jD:ByteArray}(h:af [.i A a [I b,B q],.r 53 [ag b] [.one (gR mT)],.b q true,.a (.gX (.az (.one (.v (Value.string jD))))),.p (gF prog BinOp.add 9 (Operand.tmp 19) (Operand.const (Value.string { data:=#[33] })) (Value.string mT) (Value.string { data:=#[33] }) (Value.string jD)),.g C [[gR jD]] 16,.h [[gR jD]],.u a]):
 aX (aq f19 0) (sA A a C) .normal (sA A (a+1) (C++[[gR jD]])):=
 h.aV [10,9,8,3] []
theorem ais{A:ae}{a:Int}{C:ae}{b:Int}{q:Bool}{mT:ByteArray}(h:af [.i A a [I b,B q],.r 53 [ag b] [.one (gR mT)],.b q false,.g C [[gR mT]] 16,.h [[gR mT]],.u a]):
 aX (aq f19 0) (sA A a C) .normal (sA A (a+1) (C++[[gR mT]])):=
 h.aV [10,9,8,3] []
def Db(A:ae):aD:=bd 28 [(3,aE.az (bg.one (al 24 1 A)))] []
theorem ait(h:af [.f A a false]):
 aX (aq f19 0) (sA A a C) (.exit 0) (Db C):=
 h.aV [3] []
theorem aiu{E F G H ah K L A C:ae}{jE:ByteArray}(h:af [.l [(3,24,1)] [10,9,8,3] [] (aq f19 0) (sA A 0 []) (.exit 0) (Db C),.r 54 [aY 1 C,.one (gR { data:=#[32] })] [.one (gR jE)]]):
 ax 19 [.agg (bf E F G H ah K L A)] [.one (gR jE)]:=
 h.of
def nZ(A C E F G H ah K:ae)(a:Int)(jE:ByteArray):aD:=bd 34 [(1,aN 1),(3,.az (.one (.v (Value.string jE)))),(4,aU a)] [(1,[.J .free 5 A,.J .free 5 C,.J .free 5 E,.J .free 4 F,.J .free 1 G,.J .free 1 H,.J .free 1 ah,.J .free 2 K])]
theorem aiv{C E F G H ah K A:ae}{a:Int}{jE u7:ByteArray}{b:Int}{r:Bool}{jD u9:ByteArray}{c:Int}{q:Bool}{KH:ByteArray}(h:af [.f A a true,.b (decide (a>0)) true,.a (.gX (.az (.one (.v (Value.string u7))))),.p (gF prog BinOp.add 9 (Operand.tmp 14) (Operand.const (Value.string { data:=#[32] })) (Value.string jE) (Value.string { data:=#[32] }) (Value.string u7)),.x A a [I b,B r],.r 55 [ag b] [.one (gR jD)],.a (.gX (.az (.one (.v (Value.string u9))))),.p (gF prog BinOp.add 9 (Operand.tmp 16) (Operand.tmp 23) (Value.string u7) (Value.string jD) (Value.string u9)),.x A a [I c,B q],.b q true,.a (.gX (.az (.one (.v (Value.string KH))))),.p (gF prog BinOp.add 9 (Operand.tmp 31) (Operand.const (Value.string { data:=#[33] })) (Value.string u9) (Value.string { data:=#[33] }) (Value.string KH)),.u a]):
 aX (aq f20 0) (nZ C E F G H ah K A a jE) .normal (nZ C E F G H ah K A (a+1) KH):=
 h.aV [4,1,3] [1]
theorem aiw{C E F G H ah K A:ae}{a:Int}{jE u7:ByteArray}{b:Int}{r:Bool}{jD u9:ByteArray}{c:Int}{q:Bool}(h:af [.f A a true,.b (decide (a>0)) true,.a (.gX (.az (.one (.v (Value.string u7))))),.p (gF prog BinOp.add 9 (Operand.tmp 14) (Operand.const (Value.string { data:=#[32] })) (Value.string jE) (Value.string { data:=#[32] }) (Value.string u7)),.x A a [I b,B r],.r 55 [ag b] [.one (gR jD)],.a (.gX (.az (.one (.v (Value.string u9))))),.p (gF prog BinOp.add 9 (Operand.tmp 16) (Operand.tmp 23) (Value.string u7) (Value.string jD) (Value.string u9)),.x A a [I c,B q],.b q false,.u a]):
 aX (aq f20 0) (nZ C E F G H ah K A a jE) .normal (nZ C E F G H ah K A (a+1) u9):=
 h.aV [4,1,3] [1]
theorem ahG{C E F G H ah K A:ae}{a:Int}{jE:ByteArray}{b:Int}{r:Bool}{mT jD:ByteArray}{c:Int}{q:Bool}{KG:ByteArray}(h:af [.f A a true,.b (decide (a>0)) false,.x A a [I b,B r],.r 55 [ag b] [.one (gR mT)],.a (.gX (.az (.one (.v (Value.string jD))))),.p (gF prog BinOp.add 9 (Operand.tmp 16) (Operand.tmp 23) (Value.string jE) (Value.string mT) (Value.string jD)),.x A a [I c,B q],.b q true,.a (.gX (.az (.one (.v (Value.string KG))))),.p (gF prog BinOp.add 9 (Operand.tmp 31) (Operand.const (Value.string { data:=#[33] })) (Value.string jD) (Value.string { data:=#[33] }) (Value.string KG)),.u a]):
 aX (aq f20 0) (nZ C E F G H ah K A a jE) .normal (nZ C E F G H ah K A (a+1) KG):=
 h.aV [4,1,3] [1]
theorem ahH{C E F G H ah K A:ae}{a:Int}{jE:ByteArray}{b:Int}{r:Bool}{mT jD:ByteArray}{c:Int}{q:Bool}(h:af [.f A a true,.b (decide (a>0)) false,.x A a [I b,B r],.r 55 [ag b] [.one (gR mT)],.a (.gX (.az (.one (.v (Value.string jD))))),.p (gF prog BinOp.add 9 (Operand.tmp 16) (Operand.tmp 23) (Value.string jE) (Value.string mT) (Value.string jD)),.x A a [I c,B q],.b q false,.u a]):
 aX (aq f20 0) (nZ C E F G H ah K A a jE) .normal (nZ C E F G H ah K A (a+1) jD):=
 h.aV [4,1,3] [1]
def Dc(kR:ByteArray):aD:=bd 34 [(3,.az (.one (.v (Value.string kR))))] []
theorem ahI{C E F G H ah K A:ae}{a:Int}{jE:ByteArray}(h:af [.f A a false]):
 aX (aq f20 0) (nZ C E F G H ah K A a jE) (.exit 0) (Dc jE):=
 h.aV [3] []
theorem ahJ(A C E F G H ah K:ae)(S6:ByteArray)(h:af [.l [] [4,1,3] [1] (aq f20 0) (nZ A C E F G H ah K 0 { data:=#[] }) (.exit 0) (Dc S6)]):
 ax 20 [.agg (bf A C E F G H ah K)] [.one (gR S6)]:=
 h.of
theorem ahK(h:af [.b (a==0) true]):
 ax 55 [ag a] [.one (gR { data:=#[48] })]:=
 h.of
def sB(a b:Int)(s2:ByteArray):aD:=bd 30 [(0,aU b),(3,.az (.one (.a1 (decide (a<0))))),(4,.az (.one (.v (Value.string s2))))] []
theorem ahL{b a:Int}{s2:ByteArray}{c:Int}{u' va:ByteArray}(h:af [.b (a != 0) true,.p ((10:Int)≠0),.b (decide (a.tmod 10<0)) true,.v (0-a.tmod 10),.r 94 [ag (0-a.tmod 10)] [.one (.v (Value.int IntKind.u8 c))],.a (.gX (.az (.one (.v (Value.string u'))))),.a (.gX (.az (.one (.v (Value.string va))))),.p (Option.map strOfNums (rf [[D.v (Value.int IntKind.u8 c)]])=some u'),.p (gF prog BinOp.add 9 (Operand.tmp 21) (Operand.tmp 22) (Value.string u') (Value.string s2) (Value.string va)),.p ((10:Int)≠0),.v (a.tdiv 10)]):
 aX (aq f55 0) (sB b a s2) .normal (sB b (a.tdiv 10) va):=
 h.aV [0,4,3] []
theorem ahM{b a:Int}{s2:ByteArray}{c:Int}{u' va:ByteArray}(h:af [.b (a != 0) true,.p ((10:Int)≠0),.b (decide (a.tmod 10<0)) false,.r 94 [ag (a.tmod 10)] [.one (.v (Value.int IntKind.u8 c))],.a (.gX (.az (.one (.v (Value.string u'))))),.a (.gX (.az (.one (.v (Value.string va))))),.p (Option.map strOfNums (rf [[D.v (Value.int IntKind.u8 c)]])=some u'),.p (gF prog BinOp.add 9 (Operand.tmp 21) (Operand.tmp 22) (Value.string u') (Value.string s2) (Value.string va)),.p ((10:Int)≠0),.v (a.tdiv 10)]):
 aX (aq f55 0) (sB b a s2) .normal (sB b (a.tdiv 10) va):=
 h.aV [0,4,3] []
def Dd(a:Int)(s1:ByteArray):aD:=bd 30 [(3,.az (.one (.a1 (decide (a<0))))),(4,.az (.one (.v (Value.string s1))))] []
theorem SR{a b:Int}{s2:ByteArray}(h:af [.b (b != 0) false]):
 aX (aq f55 0) (sB a b s2) (.exit 0) (Dd a s2):=
 h.aV [3,4] []
theorem ahN{a:Int}{s1 s2:ByteArray}(h:af [.b (a==0) false,.l [] [0,4,3] [] (aq f55 0) (sB a a { data:=#[] }) (.exit 0) (Dd a s1),.b (decide (a<0)) true,.a (.gX (.az (.one (.v (Value.string s2))))),.p (gF prog BinOp.add 9 (Operand.const (Value.string { data:=#[45] })) (Operand.tmp 27) (Value.string { data:=#[45] }) (Value.string s1) (Value.string s2))]):
 ax 55 [ag a] [.one (gR s2)]:=
 h.of
theorem ahO{a:Int}{s1:ByteArray}(h:af [.b (a==0) false,.l [] [0,4,3] [] (aq f55 0) (sB a a { data:=#[] }) (.exit 0) (Dd a s1),.b (decide (a<0)) false]):
 ax 55 [ag a] [.one (gR s1)]:=
 h.of
theorem ahP(a:Int)(s1:ByteArray)(h:af [.r 90 [ag a] [.one (gR s1)]]):
 ax 53 [ag a] [.one (gR s1)]:=
 h.of
theorem ahQ(h:af [.b (decide (a<10)) true,.v (48+a),.p (aK IntKind.u8 (48+a))]):
 ax 94 [ag a] [.one (.v (Value.int IntKind.u8 (48+a)))]:=
 h.of
