import Derived.Test.YthfnndblgbjniaaGreatDoorGE
namespace Go.Proofs.YthfnndblgbjniaaGreatDoor
open Go.Sx Go.RowKit Go.Proofs.Tryz
variable {a b c : Int} {q : Bool}
theorem an6(h:ae [.r 64 [ag a,ag 1,ag 7] [ai q],.n q true]):
 al 25 [.agg [I a,I b,I c]] [.one (c0 { data:=#[63] })]:=
 h.of
def MH(a:Int)(q:Bool)(l:List O):List O:=.r 64 [ag a,ag 1,ag 7] [ai q]::.n q false::.v (a-1)::.p (0<=a-1)::.p (a-1<(↑[[c0 { data:=#[119,111,114,107] }],[c0 { data:=#[105,110,112,117,116] }],[c0 { data:=#[109,111,118,101] }],[c0 { data:=#[116,97,107,101] }],[c0 { data:=#[99,114,101,100,105,116] }],[c0 { data:=#[116,111,107,101,110] }],[c0 { data:=#[104,101,97,114] }]].length:Int))::l
theorem an7{a b c:Int}{q:Bool}{gT gU lG jA oG oH mJ:ByteArray}(h:ae (MH a q [.e [[c0 { data:=#[119,111,114,107] }],[c0 { data:=#[105,110,112,117,116] }],[c0 { data:=#[109,111,118,101] }],[c0 { data:=#[116,97,107,101] }],[c0 { data:=#[99,114,101,100,105,116] }],[c0 { data:=#[116,111,107,101,110] }],[c0 { data:=#[104,101,97,114] }]] ((a-1).toNat) [c0 gT],.a (.fK (.aC (.one (.v (Value.string gU))))),.p (fz prog BinOp.add 9 (Operand.tmp 15) (Operand.const (Value.string { data:=#[32] })) (Value.string gT) (Value.string { data:=#[32] }) (Value.string gU)),.r 53 [ag b] [.one (c0 lG)],.a (.fK (.aC (.one (.v (Value.string jA))))),.p (fz prog BinOp.add 9 (Operand.tmp 16) (Operand.tmp 19) (Value.string gU) (Value.string lG) (Value.string jA)),.b (a==4) true,.r 53 [ag c] [.one (c0 oG)],.a (.fK (.aC (.one (.v (Value.string oH))))),.a (.fK (.aC (.one (.v (Value.string mJ))))),.p (fz prog BinOp.add 9 (Operand.const (Value.string { data:=#[32] })) (Operand.tmp 32) (Value.string { data:=#[32] }) (Value.string oG) (Value.string oH)),.p (fz prog BinOp.add 9 (Operand.tmp 29) (Operand.tmp 33) (Value.string jA) (Value.string oH) (Value.string mJ))])):
 al 25 [.agg [I a,I b,I c]] [.one (c0 mJ)]:=
 h.of
theorem an8{a b c:Int}{q:Bool}{gT gU lG jA oG oH mJ:ByteArray}(h:ae (MH a q [.e [[c0 { data:=#[119,111,114,107] }],[c0 { data:=#[105,110,112,117,116] }],[c0 { data:=#[109,111,118,101] }],[c0 { data:=#[116,97,107,101] }],[c0 { data:=#[99,114,101,100,105,116] }],[c0 { data:=#[116,111,107,101,110] }],[c0 { data:=#[104,101,97,114] }]] ((a-1).toNat) [c0 gT],.a (.fK (.aC (.one (.v (Value.string gU))))),.p (fz prog BinOp.add 9 (Operand.tmp 15) (Operand.const (Value.string { data:=#[32] })) (Value.string gT) (Value.string { data:=#[32] }) (Value.string gU)),.r 53 [ag b] [.one (c0 lG)],.a (.fK (.aC (.one (.v (Value.string jA))))),.p (fz prog BinOp.add 9 (Operand.tmp 16) (Operand.tmp 19) (Value.string gU) (Value.string lG) (Value.string jA)),.b (a==4) false,.b (a==5) true,.r 53 [ag c] [.one (c0 oG)],.a (.fK (.aC (.one (.v (Value.string oH))))),.a (.fK (.aC (.one (.v (Value.string mJ))))),.p (fz prog BinOp.add 9 (Operand.const (Value.string { data:=#[32] })) (Operand.tmp 32) (Value.string { data:=#[32] }) (Value.string oG) (Value.string oH)),.p (fz prog BinOp.add 9 (Operand.tmp 29) (Operand.tmp 33) (Value.string jA) (Value.string oH) (Value.string mJ))])):
 al 25 [.agg [I a,I b,I c]] [.one (c0 mJ)]:=
 h.of
theorem anz{a b c:Int}{q:Bool}{gT gU lG jA:ByteArray}(h:ae (MH a q [.e [[c0 { data:=#[119,111,114,107] }],[c0 { data:=#[105,110,112,117,116] }],[c0 { data:=#[109,111,118,101] }],[c0 { data:=#[116,97,107,101] }],[c0 { data:=#[99,114,101,100,105,116] }],[c0 { data:=#[116,111,107,101,110] }],[c0 { data:=#[104,101,97,114] }]] ((a-1).toNat) [c0 gT],.a (.fK (.aC (.one (.v (Value.string gU))))),.p (fz prog BinOp.add 9 (Operand.tmp 15) (Operand.const (Value.string { data:=#[32] })) (Value.string gT) (Value.string { data:=#[32] }) (Value.string gU)),.r 53 [ag b] [.one (c0 lG)],.a (.fK (.aC (.one (.v (Value.string jA))))),.p (fz prog BinOp.add 9 (Operand.tmp 16) (Operand.tmp 19) (Value.string gU) (Value.string lG) (Value.string jA)),.b (a==4) false,.b (a==5) false])):
 al 25 [.agg [I a,I b,I c]] [.one (c0 jA)]:=
 h.of
theorem anA(h:ae [.r 65 [ag a,ag 1,ag 7] [ai q],.n q true]):
 al 26 [.agg [I a,I b,I c]] [.one (c0 { data:=#[63] })]:=
 h.of
theorem anB{a b c:Int}{q:Bool}{gT gU lG jA oG oH mJ:ByteArray}(h:ae [.r 65 [ag a,ag 1,ag 7] [ai q],.n q false,.x [[c0 { data:=#[] }],[c0 { data:=#[119,111,114,107] }],[c0 { data:=#[105,110,112,117,116] }],[c0 { data:=#[109,111,118,101] }],[c0 { data:=#[116,97,107,101] }],[c0 { data:=#[99,114,101,100,105,116] }],[c0 { data:=#[116,111,107,101,110] }],[c0 { data:=#[104,101,97,114] }]] a [c0 gT],.a (.fK (.aC (.one (.v (Value.string gU))))),.p (fz prog BinOp.add 9 (Operand.tmp 12) (Operand.const (Value.string { data:=#[32] })) (Value.string gT) (Value.string { data:=#[32] }) (Value.string gU)),.r 55 [ag b] [.one (c0 lG)],.a (.fK (.aC (.one (.v (Value.string jA))))),.p (fz prog BinOp.add 9 (Operand.tmp 13) (Operand.tmp 16) (Value.string gU) (Value.string lG) (Value.string jA)),.b (a==4) true,.a (.fK (.aC (.one (.v (Value.string oG))))),.p (fz prog BinOp.add 9 (Operand.tmp 26) (Operand.const (Value.string { data:=#[32] })) (Value.string jA) (Value.string { data:=#[32] }) (Value.string oG)),.r 55 [ag c] [.one (c0 oH)],.a (.fK (.aC (.one (.v (Value.string mJ))))),.p (fz prog BinOp.add 9 (Operand.tmp 27) (Operand.tmp 30) (Value.string oG) (Value.string oH) (Value.string mJ))]):
 al 26 [.agg [I a,I b,I c]] [.one (c0 mJ)]:=
 h.of
theorem anC{a b c:Int}{q:Bool}{gT gU lG jA oG oH mJ:ByteArray}(h:ae [.r 65 [ag a,ag 1,ag 7] [ai q],.n q false,.x [[c0 { data:=#[] }],[c0 { data:=#[119,111,114,107] }],[c0 { data:=#[105,110,112,117,116] }],[c0 { data:=#[109,111,118,101] }],[c0 { data:=#[116,97,107,101] }],[c0 { data:=#[99,114,101,100,105,116] }],[c0 { data:=#[116,111,107,101,110] }],[c0 { data:=#[104,101,97,114] }]] a [c0 gT],.a (.fK (.aC (.one (.v (Value.string gU))))),.p (fz prog BinOp.add 9 (Operand.tmp 12) (Operand.const (Value.string { data:=#[32] })) (Value.string gT) (Value.string { data:=#[32] }) (Value.string gU)),.r 55 [ag b] [.one (c0 lG)],.a (.fK (.aC (.one (.v (Value.string jA))))),.p (fz prog BinOp.add 9 (Operand.tmp 13) (Operand.tmp 16) (Value.string gU) (Value.string lG) (Value.string jA)),.b (a==4) false,.b (a==5) true,.a (.fK (.aC (.one (.v (Value.string oG))))),.p (fz prog BinOp.add 9 (Operand.tmp 26) (Operand.const (Value.string { data:=#[32] })) (Value.string jA) (Value.string { data:=#[32] }) (Value.string oG)),.r 55 [ag c] [.one (c0 oH)],.a (.fK (.aC (.one (.v (Value.string mJ))))),.p (fz prog BinOp.add 9 (Operand.tmp 27) (Operand.tmp 30) (Value.string oG) (Value.string oH) (Value.string mJ))]):
 al 26 [.agg [I a,I b,I c]] [.one (c0 mJ)]:=
 h.of
theorem anD{a b c:Int}{q:Bool}{gT gU lG jA:ByteArray}(h:ae [.r 65 [ag a,ag 1,ag 7] [ai q],.n q false,.x [[c0 { data:=#[] }],[c0 { data:=#[119,111,114,107] }],[c0 { data:=#[105,110,112,117,116] }],[c0 { data:=#[109,111,118,101] }],[c0 { data:=#[116,97,107,101] }],[c0 { data:=#[99,114,101,100,105,116] }],[c0 { data:=#[116,111,107,101,110] }],[c0 { data:=#[104,101,97,114] }]] a [c0 gT],.a (.fK (.aC (.one (.v (Value.string gU))))),.p (fz prog BinOp.add 9 (Operand.tmp 12) (Operand.const (Value.string { data:=#[32] })) (Value.string gT) (Value.string { data:=#[32] }) (Value.string gU)),.r 55 [ag b] [.one (c0 lG)],.a (.fK (.aC (.one (.v (Value.string jA))))),.p (fz prog BinOp.add 9 (Operand.tmp 13) (Operand.tmp 16) (Value.string gU) (Value.string lG) (Value.string jA)),.b (a==4) false,.b (a==5) false]):
 al 26 [.agg [I a,I b,I c]] [.one (c0 jA)]:=
 h.of
theorem anE(h:ae [.b (a==0) true]):
 al 55 [ag a] [.one (c0 { data:=#[48] })]:=
 h.of
def uL(a b:Int)(s2:ByteArray):aF:=bf 30 [(0,aU b),(3,.aC (.one (.bg (decide (a<0))))),(4,.aC (.one (.v (Value.string s2))))] []
theorem anF{b a:Int}{s2:ByteArray}{c:Int}{gT gU:ByteArray}(h:ae [.b (a != 0) true,.p ((10:Int)≠0),.b (decide (a.tmod 10<0)) true,.v (0-a.tmod 10),.r 94 [ag (0-a.tmod 10)] [.one (.v (Value.int IntKind.u8 c))],.a (.fK (.aC (.one (.v (Value.string gT))))),.a (.fK (.aC (.one (.v (Value.string gU))))),.p (Option.map strOfNums (sR [[D.v (Value.int IntKind.u8 c)]])=some gT),.p (fz prog BinOp.add 9 (Operand.tmp 21) (Operand.tmp 22) (Value.string gT) (Value.string s2) (Value.string gU)),.p ((10:Int)≠0),.v (a.tdiv 10)]):
 aY (ap f55 0) (uL b a s2) .normal (uL b (a.tdiv 10) gU):=
 h.aT [0,4,3] []
theorem anG{b a:Int}{s2:ByteArray}{c:Int}{gT gU:ByteArray}(h:ae [.b (a != 0) true,.p ((10:Int)≠0),.b (decide (a.tmod 10<0)) false,.r 94 [ag (a.tmod 10)] [.one (.v (Value.int IntKind.u8 c))],.a (.fK (.aC (.one (.v (Value.string gT))))),.a (.fK (.aC (.one (.v (Value.string gU))))),.p (Option.map strOfNums (sR [[D.v (Value.int IntKind.u8 c)]])=some gT),.p (fz prog BinOp.add 9 (Operand.tmp 21) (Operand.tmp 22) (Value.string gT) (Value.string s2) (Value.string gU)),.p ((10:Int)≠0),.v (a.tdiv 10)]):
 aY (ap f55 0) (uL b a s2) .normal (uL b (a.tdiv 10) gU):=
 h.aT [0,4,3] []
def Fh(a:Int)(s1:ByteArray):aF:=bf 30 [(3,.aC (.one (.bg (decide (a<0))))),(4,.aC (.one (.v (Value.string s1))))] []
theorem U3{a b:Int}{s2:ByteArray}(h:ae [.b (b != 0) false]):
 aY (ap f55 0) (uL a b s2) (.exit 0) (Fh a s2):=
 h.aT [3,4] []
theorem anH{a:Int}{s1 s2:ByteArray}(h:ae [.b (a==0) false,.l [] [0,4,3] [] (ap f55 0) (uL a a { data:=#[] }) (.exit 0) (Fh a s1),.b (decide (a<0)) true,.a (.fK (.aC (.one (.v (Value.string s2))))),.p (fz prog BinOp.add 9 (Operand.const (Value.string { data:=#[45] })) (Operand.tmp 27) (Value.string { data:=#[45] }) (Value.string s1) (Value.string s2))]):
 al 55 [ag a] [.one (c0 s2)]:=
 h.of
theorem anI{a:Int}{s1:ByteArray}(h:ae [.b (a==0) false,.l [] [0,4,3] [] (ap f55 0) (uL a a { data:=#[] }) (.exit 0) (Fh a s1),.b (decide (a<0)) false]):
 al 55 [ag a] [.one (c0 s1)]:=
 h.of
theorem aoz(a:Int)(s1:ByteArray)(h:ae [.r 90 [ag a] [.one (c0 s1)]]):
 al 53 [ag a] [.one (c0 s1)]:=
 h.of
theorem aoA(h:ae [.b (decide (a<10)) true,.v (48+a),.p (aK IntKind.u8 (48+a))]):
 al 94 [ag a] [.one (.v (Value.int IntKind.u8 (48+a)))]:=
 h.of
