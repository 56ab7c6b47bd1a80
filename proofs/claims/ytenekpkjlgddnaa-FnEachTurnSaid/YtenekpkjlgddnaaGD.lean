import Derived.Test.YtenekpkjlgddnaaRows
import Derived.Test.YtenekpkjlgddnaaGE
namespace Go.Proofs.Ytenekpkjlgddnaa
open Go.Sx Go.RowKit Go.Proofs.Try
variable {a b c d e f g i j k l m n o p : Int} {A C : LL}
def qc0(A:LL)(a b:Int):St:=
 { env:=envOf 32 [(0,.al (.one (.sv 1000000100 1 A))),(3,vI b),(4,vI a)],boxes:=[] }
theorem qoR(h:Oo [.b (decide (a<(A.length:Int))) true,.b (decide (a<4000)) true,.v (b*131),.p (0≤a),.p (a<(A.length:Int)),.e A a.toNat [D.v (Value.int IntKind.u8 c)],.a (.pv (vI d)),.v c,.v (b*131+c),.v (b*131+c+7),.p (qaH prog BinOp.and 3 (Operand.tmp 26) (Operand.const (Value.int IntKind.i64 1073741823)) (Value.int IntKind.i64 (b*131+c+7)) (Value.int IntKind.i64 1073741823) (Value.int IntKind.i64 d)),.u a]):
 Tp (qab f30 0) (qc0 A a b) .normal (qc0 A (a+1) d):=
 h.lp [4,0,3] []
def qes(A:LL)(a:Int):St:=
 { env:=envOf 32 [(0,.al (.one (.sv 1000000100 1 A))),(3,vI a)],boxes:=[] }
theorem qoS(h:Oo [.b (decide (a<(A.length:Int))) true,.b (decide (a<4000)) false]):
 Tp (qab f30 0) (qc0 A a b) (.exit 0) (qes A b):=
 h.lp [0,3] []
theorem qoT(h:Oo [.b (decide (a<(A.length:Int))) false]):
 Tp (qab f30 0) (qc0 A a b) (.exit 0) (qes A b):=
 h.lp [0,3] []
theorem qoU(h:Oo [.v (94701+(A.length:Int)),.l [] [4,0,3] [] (qab f30 0) (qc0 A 0 (94701+(A.length:Int))) (.exit 0) (qes A a)]):
 Rr 30 [RA.ro (cS 1 A)] (RR.newp [some 0,none,none] [D.sl 1 A,I 0,I a]):=
 h.ofR
theorem qoV(h:Oo [.a .wr,.a .wr,.a (.pv (vI c)),.a (.pv (vI d)),.a (.pv (vI e)),.a (.pv (vI f)),.p (qaH prog BinOp.shr 3 (Operand.tmp 16) (Operand.const (Value.int IntKind.u64 33)) (Value.int IntKind.i64 (IntKind.i64.wrap (IntKind.i64.wrap (b*6364136223846793005)+1442695040888963407))) (Value.int IntKind.u64 33) (Value.int IntKind.i64 c)),.p (qaH prog BinOp.shr 3 (Operand.tmp 21) (Operand.const (Value.int IntKind.u64 45)) (Value.int IntKind.i64 (IntKind.i64.wrap (IntKind.i64.wrap (b*6364136223846793005)+1442695040888963407))) (Value.int IntKind.u64 45) (Value.int IntKind.i64 d)),.p (qaH prog BinOp.xor 3 (Operand.tmp 17) (Operand.tmp 22) (Value.int IntKind.i64 c) (Value.int IntKind.i64 d) (Value.int IntKind.i64 e)),.p (qaH prog BinOp.and 3 (Operand.tmp 23) (Operand.const (Value.int IntKind.i64 255)) (Value.int IntKind.i64 e) (Value.int IntKind.i64 255) (Value.int IntKind.i64 f)),.b (decide (a<(A.length:Int))) true,.p (0≤a),.p (a<(A.length:Int)),.e A a.toNat [D.v (Value.int IntKind.u8 i)],.a .wr,.a .wr,.a (.pv (vI g)),.p (qaH prog BinOp.and 3 (Operand.tmp 47) (Operand.const (Value.int IntKind.i64 255)) (Value.int IntKind.i64 (IntKind.i64.wrap (f+IntKind.i64.wrap i))) (Value.int IntKind.i64 255) (Value.int IntKind.i64 g)),.u a]):
 Rr 57 [RA.cur [D.sl 1 A,I a,I b] [D.sl 1 A,I (a+1),I (IntKind.i64.wrap (IntKind.i64.wrap (b*6364136223846793005)+1442695040888963407))]] (RR.vals [cI g]):=
 h.ofR
theorem qoW(h:Oo [.a .wr,.a .wr,.a (.pv (vI c)),.a (.pv (vI d)),.a (.pv (vI e)),.a (.pv (vI f)),.p (qaH prog BinOp.shr 3 (Operand.tmp 16) (Operand.const (Value.int IntKind.u64 33)) (Value.int IntKind.i64 (IntKind.i64.wrap (IntKind.i64.wrap (a*6364136223846793005)+1442695040888963407))) (Value.int IntKind.u64 33) (Value.int IntKind.i64 c)),.p (qaH prog BinOp.shr 3 (Operand.tmp 21) (Operand.const (Value.int IntKind.u64 45)) (Value.int IntKind.i64 (IntKind.i64.wrap (IntKind.i64.wrap (a*6364136223846793005)+1442695040888963407))) (Value.int IntKind.u64 45) (Value.int IntKind.i64 d)),.p (qaH prog BinOp.xor 3 (Operand.tmp 17) (Operand.tmp 22) (Value.int IntKind.i64 c) (Value.int IntKind.i64 d) (Value.int IntKind.i64 e)),.p (qaH prog BinOp.and 3 (Operand.tmp 23) (Operand.const (Value.int IntKind.i64 255)) (Value.int IntKind.i64 e) (Value.int IntKind.i64 255) (Value.int IntKind.i64 f)),.b (decide (b<(A.length:Int))) false]):
 Rr 57 [RA.cur [D.sl 1 A,I b,I a] [D.sl 1 A,I b,I (IntKind.i64.wrap (IntKind.i64.wrap (a*6364136223846793005)+1442695040888963407))]] (RR.vals [cI f]):=
 h.ofR
theorem qoX(h:Oo [.b (decide (a≤0)) false,.b (decide (a≤256)) true,.a (.resR [some [D.sl 1 A,I b,I c]] (RR.vals [cI d])),.p (RetR prog 57 [RA.cur [D.sl 1 A,I e,I f] [D.sl 1 A,I b,I c]] (RR.vals [cI d])),.p (a≠0)]):
 Rr 33 [RA.cur [D.sl 1 A,I e,I f] [D.sl 1 A,I b,I c],RA.ro (cI a)] (RR.vals [cI (d.tmod a)]):=
 h.ofR
theorem qoY(h:Oo [.b (decide (d≤0)) false,.b (decide (d≤256)) false,.a (.resR [some [D.sl 1 A,I l,I m]] (RR.vals [cI b])),.a (.resR [some [D.sl 1 A,I n,I f]] (RR.vals [cI a])),.a (.resR [some [D.sl 1 A,I g,I i]] (RR.vals [cI c])),.a (.resR [some [D.sl 1 A,I j,I k]] (RR.vals [cI e])),.p (RetR prog 57 [RA.cur [D.sl 1 A,I o,I p] [D.sl 1 A,I l,I m]] (RR.vals [cI b])),.p (RetR prog 57 [RA.cur [D.sl 1 A,I l,I m] [D.sl 1 A,I n,I f]] (RR.vals [cI a])),.p (RetR prog 57 [RA.cur [D.sl 1 A,I n,I f] [D.sl 1 A,I g,I i]] (RR.vals [cI c])),.p (RetR prog 57 [RA.cur [D.sl 1 A,I g,I i] [D.sl 1 A,I j,I k]] (RR.vals [cI e])),.v (b*16777216),.v (a*65536),.v (b*16777216+a*65536),.v (c*256),.v (b*16777216+a*65536+c*256),.v (b*16777216+a*65536+c*256+e),.p (d≠0)]):
 Rr 33 [RA.cur [D.sl 1 A,I o,I p] [D.sl 1 A,I j,I k],RA.ro (cI d)] (RR.vals [cI ((b*16777216+a*65536+c*256+e).tmod d)]):=
 h.ofR
def qds(a:Int)(A C:LL)(b c:Int):St:=
 { env:=envOf 19 [(3,vP 7),(4,PV.al (AL.one (lO 8 1 A))),(5,vI a)],boxes:=[(7,[.sl .free 1 C,lI b,lI c])] }
theorem qoZ(h:Oo [.b (decide (b<12)) true,.a (.resR [some [D.sl 1 A,I c,I d],none] (RR.vals [cI a])),.p (RetR prog 33 [RA.cur [D.sl 1 A,I e,I f] [D.sl 1 A,I c,I d],RA.ro (cI 10000)] (RR.vals [cI a])),.g C [[I a]] 8,.h [[I a]],.u b]):
 Tp (qab f19 0) (qds b C A e f) .normal (qds (b+1) (C++[[I a]]) A c d):=
 h.lp [5,4,3] [7]
def qf9(A:LL):St:=
 { env:=envOf 19 [(4,PV.al (AL.one (lO 8 1 A)))],boxes:=[] }
theorem qo0(h:Oo [.b (decide (a<12)) false]):
 Tp (qab f19 0) (qds a A C b c) (.exit 0) (qf9 A):=
 h.lp [4] []
theorem qo1(h:Oo [.a (.resR [none] (RR.newp [some 0,none,none] [D.sl 1 A,I a,I b])),.p (RetR prog 30 [RA.ro (cS 1 A)] (RR.newp [some 0,none,none] [D.sl 1 A,I a,I b])),.l [] [5,4,3] [7] (qab f19 0) (qds 0 [] A a b) (.exit 0) (qf9 C)]):
 Rt 19 [cS 1 A] [cS 1 C]:=
 h.of
end Go.Proofs.Ytenekpkjlgddnaa
