import Derived.Test.YtenekpkjlgddnaaRows
import Derived.Test.YtenekpkjlgddnaaR22
import Derived.Test.YtenekpkjlgddnaaR33
set_option linter.unusedVariables false
set_option linter.unusedSimpArgs false
namespace Go.Proofs.Ytenekpkjlgddnaa
open Go.Sx Go.RowKit

/- loop.example/g00973/spec.l01New -/

def spec_l01New_L0 (l0 : List (List D)) (n1 : Int) (n2 : Int) : St :=
  { env := envOf 32 [(0, PV.al (AL.one (Leaf.sv 1000000100 1 l0))), (3, PV.al (AL.one (Leaf.v (Value.int IntKind.i64 n2)))), (4, PV.al (AL.one (Leaf.v (Value.int IntKind.i64 n1))))], boxes := [] }

theorem spec_l01New_L0_s0 (l0 : List (List D)) (n1 : Int) (n2 : Int) (n3 : Int) (n4 : Int)
    (h : Obs [decide (n1 < (↑l0.length : Int)) = true, decide (n1 < 4000) = true, inInt IntKind.i64 (n2 * 131), 0 ≤ n1, n1 < (↑l0.length : Int), l0[n1.toNat]? = some [D.v (Value.int IntKind.u8 n3)], inInt IntKind.i64 n3, inInt IntKind.i64 (n2 * 131 + n3), inInt IntKind.i64 (n2 * 131 + n3 + 7), BinRun Try.prog BinOp.and 3 (Operand.tmp 26) (Operand.const (Value.int IntKind.i64 1073741823)) (Value.int IntKind.i64 (n2 * 131 + n3 + 7)) (Value.int IntKind.i64 1073741823) (Value.int IntKind.i64 n4), inInt IntKind.i64 (n1 + 1)]) :
    Tr Try.prog (loopOf Try.f30 0) (spec_l01New_L0 l0 n1 n2) Ex.normal (spec_l01New_L0 l0 (n1 + 1) n4) :=
  .of_loopc (ks := [4, 0, 3]) (bs := []) (ans := [Ans.br true, Ans.br true, Ans.el [D.v (Value.int IntKind.u8 n3)], Ans.pv (PV.al (AL.one (Leaf.v (Value.int IntKind.i64 n4))))]) (by kernel_rfl) h

def spec_l01New_X0 (l0 : List (List D)) (n1 : Int) : St :=
  { env := envOf 32 [(0, PV.al (AL.one (Leaf.sv 1000000100 1 l0))), (3, PV.al (AL.one (Leaf.v (Value.int IntKind.i64 n1))))], boxes := [] }

theorem spec_l01New_L0_x1 (l0 : List (List D)) (n1 : Int) (n2 : Int)
    (h : Obs [decide (n1 < (↑l0.length : Int)) = true, decide (n1 < 4000) = false]) :
    Tr Try.prog (loopOf Try.f30 0) (spec_l01New_L0 l0 n1 n2) (Ex.exit 0) (spec_l01New_X0 l0 n2) :=
  .of_loopc (ks := [0, 3]) (bs := []) (ans := [Ans.br true, Ans.br false]) (by kernel_rfl) h

theorem spec_l01New_L0_x2 (l0 : List (List D)) (n1 : Int) (n2 : Int)
    (h : Obs [decide (n1 < (↑l0.length : Int)) = false]) :
    Tr Try.prog (loopOf Try.f30 0) (spec_l01New_L0 l0 n1 n2) (Ex.exit 0) (spec_l01New_X0 l0 n2) :=
  .of_loopc (ks := [0, 3]) (bs := []) (ans := [Ans.br false]) (by kernel_rfl) h

theorem spec_l01New_p0 (l0 : List (List D)) (n1 : Int)
    (h : Obs [inInt IntKind.i64 (94701 + (↑l0.length : Int)), LoopOk Try.prog (loopOf Try.f30 0) (spec_l01New_L0 l0 0 (94701 + (↑l0.length : Int))) (Ex.exit 0) (spec_l01New_X0 l0 n1)]) :
    RetR Try.prog 30 [RA.ro (AD.one (D.sl 1 l0))] (RR.newp [some 0, none, none] [D.sl 1 l0, I 0, I n1]) :=
  .of [Ans.loop [] [4, 0, 3] [] (Ex.exit 0) (spec_l01New_X0 l0 n1)] _ Try.func30 rfl (by kernel_rfl) h

/- loop.example/g00973/spec.l01Byte -/

theorem spec_l01Byte_p0 (l0 : List (List D)) (n1 : Int) (n2 : Int) (n3 : Int) (n4 : Int) (n5 : Int) (n6 : Int) (n7 : Int) (n8 : Int)
    (h : Obs [BinRun Try.prog BinOp.shr 3 (Operand.tmp 16) (Operand.const (Value.int IntKind.u64 33)) (Value.int IntKind.i64 (IntKind.i64.wrap (IntKind.i64.wrap (n2 * 6364136223846793005) + 1442695040888963407))) (Value.int IntKind.u64 33) (Value.int IntKind.i64 n3), BinRun Try.prog BinOp.shr 3 (Operand.tmp 21) (Operand.const (Value.int IntKind.u64 45)) (Value.int IntKind.i64 (IntKind.i64.wrap (IntKind.i64.wrap (n2 * 6364136223846793005) + 1442695040888963407))) (Value.int IntKind.u64 45) (Value.int IntKind.i64 n4), BinRun Try.prog BinOp.xor 3 (Operand.tmp 17) (Operand.tmp 22) (Value.int IntKind.i64 n3) (Value.int IntKind.i64 n4) (Value.int IntKind.i64 n5), BinRun Try.prog BinOp.and 3 (Operand.tmp 23) (Operand.const (Value.int IntKind.i64 255)) (Value.int IntKind.i64 n5) (Value.int IntKind.i64 255) (Value.int IntKind.i64 n6), decide (n1 < (↑l0.length : Int)) = true, 0 ≤ n1, n1 < (↑l0.length : Int), l0[n1.toNat]? = some [D.v (Value.int IntKind.u8 n7)], BinRun Try.prog BinOp.and 3 (Operand.tmp 47) (Operand.const (Value.int IntKind.i64 255)) (Value.int IntKind.i64 (IntKind.i64.wrap (n6 + IntKind.i64.wrap n7))) (Value.int IntKind.i64 255) (Value.int IntKind.i64 n8), inInt IntKind.i64 (n1 + 1)]) :
    RetR Try.prog 57 [RA.cur [D.sl 1 l0, I n1, I n2] [D.sl 1 l0, I (n1 + 1), I (IntKind.i64.wrap (IntKind.i64.wrap (n2 * 6364136223846793005) + 1442695040888963407))]] (RR.vals [AD.one (I n8)]) :=
  .of [Ans.wr, Ans.wr, Ans.pv (PV.al (AL.one (Leaf.v (Value.int IntKind.i64 n3)))), Ans.pv (PV.al (AL.one (Leaf.v (Value.int IntKind.i64 n4)))), Ans.pv (PV.al (AL.one (Leaf.v (Value.int IntKind.i64 n5)))), Ans.pv (PV.al (AL.one (Leaf.v (Value.int IntKind.i64 n6)))), Ans.br true, Ans.el [D.v (Value.int IntKind.u8 n7)], Ans.wr, Ans.wr, Ans.pv (PV.al (AL.one (Leaf.v (Value.int IntKind.i64 n8))))] _ Try.func57 rfl (by kernel_rfl) h

theorem spec_l01Byte_p1 (l0 : List (List D)) (n1 : Int) (n2 : Int) (n3 : Int) (n4 : Int) (n5 : Int) (n6 : Int)
    (h : Obs [BinRun Try.prog BinOp.shr 3 (Operand.tmp 16) (Operand.const (Value.int IntKind.u64 33)) (Value.int IntKind.i64 (IntKind.i64.wrap (IntKind.i64.wrap (n2 * 6364136223846793005) + 1442695040888963407))) (Value.int IntKind.u64 33) (Value.int IntKind.i64 n3), BinRun Try.prog BinOp.shr 3 (Operand.tmp 21) (Operand.const (Value.int IntKind.u64 45)) (Value.int IntKind.i64 (IntKind.i64.wrap (IntKind.i64.wrap (n2 * 6364136223846793005) + 1442695040888963407))) (Value.int IntKind.u64 45) (Value.int IntKind.i64 n4), BinRun Try.prog BinOp.xor 3 (Operand.tmp 17) (Operand.tmp 22) (Value.int IntKind.i64 n3) (Value.int IntKind.i64 n4) (Value.int IntKind.i64 n5), BinRun Try.prog BinOp.and 3 (Operand.tmp 23) (Operand.const (Value.int IntKind.i64 255)) (Value.int IntKind.i64 n5) (Value.int IntKind.i64 255) (Value.int IntKind.i64 n6), decide (n1 < (↑l0.length : Int)) = false]) :
    RetR Try.prog 57 [RA.cur [D.sl 1 l0, I n1, I n2] [D.sl 1 l0, I n1, I (IntKind.i64.wrap (IntKind.i64.wrap (n2 * 6364136223846793005) + 1442695040888963407))]] (RR.vals [AD.one (I n6)]) :=
  .of [Ans.wr, Ans.wr, Ans.pv (PV.al (AL.one (Leaf.v (Value.int IntKind.i64 n3)))), Ans.pv (PV.al (AL.one (Leaf.v (Value.int IntKind.i64 n4)))), Ans.pv (PV.al (AL.one (Leaf.v (Value.int IntKind.i64 n5)))), Ans.pv (PV.al (AL.one (Leaf.v (Value.int IntKind.i64 n6)))), Ans.br false] _ Try.func57 rfl (by kernel_rfl) h

/- loop.example/g00973/spec.l01Below -/

theorem spec_l01Below_p1 (l0 : List (List D)) (n1 : Int) (n2 : Int) (n3 : Int) (n5 : Int) (n6 : Int) (n7 : Int)
    (h : Obs [decide (n3 ≤ 0) = false, decide (n3 ≤ 256) = true, RetR Try.prog 57 [RA.cur [D.sl 1 l0, I n1, I n2] [D.sl 1 l0, I n5, I n6]] (RR.vals [AD.one (I n7)]), n3 ≠ 0]) :
    RetR Try.prog 33 [RA.cur [D.sl 1 l0, I n1, I n2] [D.sl 1 l0, I n5, I n6], RA.ro (AD.one (I n3))] (RR.vals [AD.one (I (n7.tmod n3))]) :=
  .of [Ans.br false, Ans.br true, Ans.resR [some [D.sl 1 l0, I n5, I n6]] (RR.vals [AD.one (I n7)])] _ Try.func33 rfl (by kernel_rfl) h

theorem spec_l01Below_p2 (l0 : List (List D)) (n1 : Int) (n2 : Int) (n3 : Int) (n5 : Int) (n6 : Int) (n7 : Int) (n9 : Int) (n10 : Int) (n11 : Int) (n13 : Int) (n14 : Int) (n15 : Int) (n17 : Int) (n18 : Int) (n19 : Int)
    (h : Obs [decide (n3 ≤ 0) = false, decide (n3 ≤ 256) = false, RetR Try.prog 57 [RA.cur [D.sl 1 l0, I n1, I n2] [D.sl 1 l0, I n5, I n6]] (RR.vals [AD.one (I n7)]), RetR Try.prog 57 [RA.cur [D.sl 1 l0, I n5, I n6] [D.sl 1 l0, I n9, I n10]] (RR.vals [AD.one (I n11)]), RetR Try.prog 57 [RA.cur [D.sl 1 l0, I n9, I n10] [D.sl 1 l0, I n13, I n14]] (RR.vals [AD.one (I n15)]), RetR Try.prog 57 [RA.cur [D.sl 1 l0, I n13, I n14] [D.sl 1 l0, I n17, I n18]] (RR.vals [AD.one (I n19)]), inInt IntKind.i64 (n7 * 16777216), inInt IntKind.i64 (n11 * 65536), inInt IntKind.i64 (n7 * 16777216 + n11 * 65536), inInt IntKind.i64 (n15 * 256), inInt IntKind.i64 (n7 * 16777216 + n11 * 65536 + n15 * 256), inInt IntKind.i64 (n7 * 16777216 + n11 * 65536 + n15 * 256 + n19), n3 ≠ 0]) :
    RetR Try.prog 33 [RA.cur [D.sl 1 l0, I n1, I n2] [D.sl 1 l0, I n17, I n18], RA.ro (AD.one (I n3))] (RR.vals [AD.one (I ((n7 * 16777216 + n11 * 65536 + n15 * 256 + n19).tmod n3))]) :=
  .of [Ans.br false, Ans.br false, Ans.resR [some [D.sl 1 l0, I n5, I n6]] (RR.vals [AD.one (I n7)]), Ans.resR [some [D.sl 1 l0, I n9, I n10]] (RR.vals [AD.one (I n11)]), Ans.resR [some [D.sl 1 l0, I n13, I n14]] (RR.vals [AD.one (I n15)]), Ans.resR [some [D.sl 1 l0, I n17, I n18]] (RR.vals [AD.one (I n19)])] _ Try.func33 rfl (by kernel_rfl) h

/- loop.example/g00973/spec.l01Once -/

theorem spec_l01Once_p0 (l0 : List (List D)) (n1 : Int) (n2 : Int) (n3 : Int) (n5 : Int) (n6 : Int) (n7 : Int)
    (h : Obs [RetR Try.prog 33 [RA.cur [D.sl 1 l0, I n1, I n2] [D.sl 1 l0, I n5, I n6], RA.ro (AD.one (I n3))] (RR.vals [AD.one (I n7)])]) :
    RetR Try.prog 32 [RA.cur [D.sl 1 l0, I n1, I n2] [D.sl 1 l0, I n5, I n6], RA.ro (AD.one (I n3))] (RR.vals [AD.one (B (n7 == 0))]) :=
  .of [Ans.resR [some [D.sl 1 l0, I n5, I n6], none] (RR.vals [AD.one (I n7)])] _ Try.func32 rfl (by kernel_rfl) h

/- loop.example/g00973/spec.l01PickInt -/

theorem spec_l01PickInt_p0 (l0 : List (List D)) (n1 : Int) (n2 : Int) (l3 : List (List D)) (n5 : Int) (n6 : Int) (n7 : Int) (n8 : Int)
    (h : Obs [RetR Try.prog 33 [RA.cur [D.sl 1 l0, I n1, I n2] [D.sl 1 l0, I n5, I n6], RA.ro (AD.one (I (↑l3.length : Int)))] (RR.vals [AD.one (I n7)]), 0 ≤ n7, n7 < (↑l3.length : Int), l3[n7.toNat]? = some [I n8]]) :
    RetR Try.prog 59 [RA.cur [D.sl 1 l0, I n1, I n2] [D.sl 1 l0, I n5, I n6], RA.ro (AD.one (D.sl 1 l3))] (RR.vals [AD.one (I n8)]) :=
  .of [Ans.resR [some [D.sl 1 l0, I n5, I n6], none] (RR.vals [AD.one (I n7)]), Ans.el [I n8]] _ Try.func59 rfl (by kernel_rfl) h

/- loop.example/g00973/spec.l02Stamp -/

theorem spec_l02Stamp_p0 (l0 : List (List D)) (n1 : Int) (n2 : Int) (n4 : Int) (n5 : Int) (n6 : Int) (n8 : Int) (n9 : Int) (n10 : Int)
    (h : Obs [RetR Try.prog 33 [RA.cur [D.sl 1 l0, I n1, I n2] [D.sl 1 l0, I n4, I n5], RA.ro (AD.one (I 4))] (RR.vals [AD.one (I n6)]), RetR Try.prog 33 [RA.cur [D.sl 1 l0, I n4, I n5] [D.sl 1 l0, I n8, I n9], RA.ro (AD.one (I 5))] (RR.vals [AD.one (I n10)])]) :
    RetR Try.prog 81 [RA.cur [D.sl 1 l0, I n1, I n2] [D.sl 1 l0, I n8, I n9]] (RR.vals [AD.agg [I n6, I n10]]) :=
  .of [Ans.resR [some [D.sl 1 l0, I n4, I n5], none] (RR.vals [AD.one (I n6)]), Ans.resR [some [D.sl 1 l0, I n8, I n9], none] (RR.vals [AD.one (I n10)])] _ Try.func81 rfl (by kernel_rfl) h

/- loop.example/g00973/spec.l02Any -/

theorem spec_l02Any_p0 (l0 : List (List D)) (n1 : Int) (n2 : Int) (n4 : Int) (n5 : Int) (n6 : Int) (n7 : Int) (n9 : Int) (n10 : Int) (n11 : Int) (n13 : Int) (n14 : Int) (n15 : Int)
    (h : Obs [RetR Try.prog 81 [RA.cur [D.sl 1 l0, I n1, I n2] [D.sl 1 l0, I n4, I n5]] (RR.vals [AD.agg [I n6, I n7]]), RetR Try.prog 33 [RA.cur [D.sl 1 l0, I n4, I n5] [D.sl 1 l0, I n9, I n10], RA.ro (AD.one (I 10))] (RR.vals [AD.one (I n11)]), (n11 == 0) = true, RetR Try.prog 59 [RA.cur [D.sl 1 l0, I n9, I n10] [D.sl 1 l0, I n13, I n14], RA.ro (AD.one (D.sl 1 [[I (-1)], [I 3], [I 4], [I 9223372036854775807]]))] (RR.vals [AD.one (I n15)])]) :
    RetR Try.prog 60 [RA.cur [D.sl 1 l0, I n1, I n2] [D.sl 1 l0, I n13, I n14]] (RR.vals [AD.agg [I n15, I n7]]) :=
  .of [Ans.resR [some [D.sl 1 l0, I n4, I n5]] (RR.vals [AD.agg [I n6, I n7]]), Ans.resR [some [D.sl 1 l0, I n9, I n10], none] (RR.vals [AD.one (I n11)]), Ans.br true, Ans.resR [some [D.sl 1 l0, I n13, I n14], none] (RR.vals [AD.one (I n15)])] _ Try.func60 rfl (by kernel_rfl) h

theorem spec_l02Any_p1 (l0 : List (List D)) (n1 : Int) (n2 : Int) (n4 : Int) (n5 : Int) (n6 : Int) (n7 : Int) (n9 : Int) (n10 : Int) (n11 : Int) (n13 : Int) (n14 : Int) (n15 : Int)
    (h : Obs [RetR Try.prog 81 [RA.cur [D.sl 1 l0, I n1, I n2] [D.sl 1 l0, I n4, I n5]] (RR.vals [AD.agg [I n6, I n7]]), RetR Try.prog 33 [RA.cur [D.sl 1 l0, I n4, I n5] [D.sl 1 l0, I n9, I n10], RA.ro (AD.one (I 10))] (RR.vals [AD.one (I n11)]), (n11 == 0) = false, (n11 == 1) = true, RetR Try.prog 59 [RA.cur [D.sl 1 l0, I n9, I n10] [D.sl 1 l0, I n13, I n14], RA.ro (AD.one (D.sl 1 [[I (-1)], [I 5], [I 6], [I 7], [I (-9223372036854775808)]]))] (RR.vals [AD.one (I n15)])]) :
    RetR Try.prog 60 [RA.cur [D.sl 1 l0, I n1, I n2] [D.sl 1 l0, I n13, I n14]] (RR.vals [AD.agg [I n6, I n15]]) :=
  .of [Ans.resR [some [D.sl 1 l0, I n4, I n5]] (RR.vals [AD.agg [I n6, I n7]]), Ans.resR [some [D.sl 1 l0, I n9, I n10], none] (RR.vals [AD.one (I n11)]), Ans.br false, Ans.br true, Ans.resR [some [D.sl 1 l0, I n13, I n14], none] (RR.vals [AD.one (I n15)])] _ Try.func60 rfl (by kernel_rfl) h

theorem spec_l02Any_p2 (l0 : List (List D)) (n1 : Int) (n2 : Int) (n4 : Int) (n5 : Int) (n6 : Int) (n7 : Int) (n9 : Int) (n10 : Int) (n11 : Int)
    (h : Obs [RetR Try.prog 81 [RA.cur [D.sl 1 l0, I n1, I n2] [D.sl 1 l0, I n4, I n5]] (RR.vals [AD.agg [I n6, I n7]]), RetR Try.prog 33 [RA.cur [D.sl 1 l0, I n4, I n5] [D.sl 1 l0, I n9, I n10], RA.ro (AD.one (I 10))] (RR.vals [AD.one (I n11)]), (n11 == 0) = false, (n11 == 1) = false]) :
    RetR Try.prog 60 [RA.cur [D.sl 1 l0, I n1, I n2] [D.sl 1 l0, I n9, I n10]] (RR.vals [AD.agg [I n6, I n7]]) :=
  .of [Ans.resR [some [D.sl 1 l0, I n4, I n5]] (RR.vals [AD.agg [I n6, I n7]]), Ans.resR [some [D.sl 1 l0, I n9, I n10], none] (RR.vals [AD.one (I n11)]), Ans.br false, Ans.br false] _ Try.func60 rfl (by kernel_rfl) h

/- loop.example/g00973/spec.l05Record -/

theorem spec_l05Record_p0 (l0 : List (List D)) (n1 : Int) (n2 : Int) (n4 : Int) (n5 : Int) (n6 : Int) (n8 : Int) (n9 : Int) (n10 : Int) (n11 : Int) (n13 : Int) (n14 : Int) (n15 : Int) (n17 : Int) (n18 : Int) (n19 : Int)
    (h : Obs [RetR Try.prog 33 [RA.cur [D.sl 1 l0, I n1, I n2] [D.sl 1 l0, I n4, I n5], RA.ro (AD.one (I 5))] (RR.vals [AD.one (I n6)]), RetR Try.prog 81 [RA.cur [D.sl 1 l0, I n4, I n5] [D.sl 1 l0, I n8, I n9]] (RR.vals [AD.agg [I n10, I n11]]), RetR Try.prog 33 [RA.cur [D.sl 1 l0, I n8, I n9] [D.sl 1 l0, I n13, I n14], RA.ro (AD.one (I 12))] (RR.vals [AD.one (I n15)]), RetR Try.prog 33 [RA.cur [D.sl 1 l0, I n13, I n14] [D.sl 1 l0, I n17, I n18], RA.ro (AD.one (I 40))] (RR.vals [AD.one (I n19)])]) :
    RetR Try.prog 58 [RA.cur [D.sl 1 l0, I n1, I n2] [D.sl 1 l0, I n17, I n18]] (RR.vals [AD.agg [I n6, I n10, I n11, I n15, I n19]]) :=
  .of [Ans.resR [some [D.sl 1 l0, I n4, I n5], none] (RR.vals [AD.one (I n6)]), Ans.resR [some [D.sl 1 l0, I n8, I n9]] (RR.vals [AD.agg [I n10, I n11]]), Ans.resR [some [D.sl 1 l0, I n13, I n14], none] (RR.vals [AD.one (I n15)]), Ans.resR [some [D.sl 1 l0, I n17, I n18], none] (RR.vals [AD.one (I n19)])] _ Try.func58 rfl (by kernel_rfl) h

/- loop.example/g00973/spec.l05Any -/

theorem spec_l05Any_p0 (l0 : List (List D)) (n1 : Int) (n2 : Int) (n4 : Int) (n5 : Int) (n6 : Int) (n7 : Int) (n8 : Int) (n9 : Int) (n10 : Int) (n12 : Int) (n13 : Int) (n14 : Int) (n16 : Int) (n17 : Int) (n18 : Int)
    (h : Obs [RetR Try.prog 58 [RA.cur [D.sl 1 l0, I n1, I n2] [D.sl 1 l0, I n4, I n5]] (RR.vals [AD.agg [I n6, I n7, I n8, I n9, I n10]]), RetR Try.prog 33 [RA.cur [D.sl 1 l0, I n4, I n5] [D.sl 1 l0, I n12, I n13], RA.ro (AD.one (I 12))] (RR.vals [AD.one (I n14)]), (n14 == 0) = true, RetR Try.prog 59 [RA.cur [D.sl 1 l0, I n12, I n13] [D.sl 1 l0, I n16, I n17], RA.ro (AD.one (D.sl 1 [[I (-1)], [I 7], [I 8]]))] (RR.vals [AD.one (I n18)])]) :
    RetR Try.prog 34 [RA.cur [D.sl 1 l0, I n1, I n2] [D.sl 1 l0, I n16, I n17]] (RR.vals [AD.agg [I n18, I n7, I n8, I n9, I n10]]) :=
  .of [Ans.resR [some [D.sl 1 l0, I n4, I n5]] (RR.vals [AD.agg [I n6, I n7, I n8, I n9, I n10]]), Ans.resR [some [D.sl 1 l0, I n12, I n13], none] (RR.vals [AD.one (I n14)]), Ans.br true, Ans.resR [some [D.sl 1 l0, I n16, I n17], none] (RR.vals [AD.one (I n18)])] _ Try.func34 rfl (by kernel_rfl) h

theorem spec_l05Any_p1 (l0 : List (List D)) (n1 : Int) (n2 : Int) (n4 : Int) (n5 : Int) (n6 : Int) (n7 : Int) (n8 : Int) (n9 : Int) (n10 : Int) (n12 : Int) (n13 : Int) (n14 : Int) (n16 : Int) (n17 : Int) (n18 : Int) (n19 : Int)
    (h : Obs [RetR Try.prog 58 [RA.cur [D.sl 1 l0, I n1, I n2] [D.sl 1 l0, I n4, I n5]] (RR.vals [AD.agg [I n6, I n7, I n8, I n9, I n10]]), RetR Try.prog 33 [RA.cur [D.sl 1 l0, I n4, I n5] [D.sl 1 l0, I n12, I n13], RA.ro (AD.one (I 12))] (RR.vals [AD.one (I n14)]), (n14 == 0) = false, (n14 == 1) = true, RetR Try.prog 60 [RA.cur [D.sl 1 l0, I n12, I n13] [D.sl 1 l0, I n16, I n17]] (RR.vals [AD.agg [I n18, I n19]])]) :
    RetR Try.prog 34 [RA.cur [D.sl 1 l0, I n1, I n2] [D.sl 1 l0, I n16, I n17]] (RR.vals [AD.agg [I n6, I n18, I n19, I n9, I n10]]) :=
  .of [Ans.resR [some [D.sl 1 l0, I n4, I n5]] (RR.vals [AD.agg [I n6, I n7, I n8, I n9, I n10]]), Ans.resR [some [D.sl 1 l0, I n12, I n13], none] (RR.vals [AD.one (I n14)]), Ans.br false, Ans.br true, Ans.resR [some [D.sl 1 l0, I n16, I n17]] (RR.vals [AD.agg [I n18, I n19]])] _ Try.func34 rfl (by kernel_rfl) h

theorem spec_l05Any_p2 (l0 : List (List D)) (n1 : Int) (n2 : Int) (n4 : Int) (n5 : Int) (n6 : Int) (n7 : Int) (n8 : Int) (n9 : Int) (n10 : Int) (n12 : Int) (n13 : Int) (n14 : Int) (n16 : Int) (n17 : Int) (n18 : Int)
    (h : Obs [RetR Try.prog 58 [RA.cur [D.sl 1 l0, I n1, I n2] [D.sl 1 l0, I n4, I n5]] (RR.vals [AD.agg [I n6, I n7, I n8, I n9, I n10]]), RetR Try.prog 33 [RA.cur [D.sl 1 l0, I n4, I n5] [D.sl 1 l0, I n12, I n13], RA.ro (AD.one (I 12))] (RR.vals [AD.one (I n14)]), (n14 == 0) = false, (n14 == 1) = false, (n14 == 2) = true, RetR Try.prog 59 [RA.cur [D.sl 1 l0, I n12, I n13] [D.sl 1 l0, I n16, I n17], RA.ro (AD.one (D.sl 1 [[I (-1)], [I 99], [I 100], [I (-9223372036854775808)]]))] (RR.vals [AD.one (I n18)])]) :
    RetR Try.prog 34 [RA.cur [D.sl 1 l0, I n1, I n2] [D.sl 1 l0, I n16, I n17]] (RR.vals [AD.agg [I n6, I n7, I n8, I n18, I n10]]) :=
  .of [Ans.resR [some [D.sl 1 l0, I n4, I n5]] (RR.vals [AD.agg [I n6, I n7, I n8, I n9, I n10]]), Ans.resR [some [D.sl 1 l0, I n12, I n13], none] (RR.vals [AD.one (I n14)]), Ans.br false, Ans.br false, Ans.br true, Ans.resR [some [D.sl 1 l0, I n16, I n17], none] (RR.vals [AD.one (I n18)])] _ Try.func34 rfl (by kernel_rfl) h

theorem spec_l05Any_p3 (l0 : List (List D)) (n1 : Int) (n2 : Int) (n4 : Int) (n5 : Int) (n6 : Int) (n7 : Int) (n8 : Int) (n9 : Int) (n10 : Int) (n12 : Int) (n13 : Int) (n14 : Int) (n16 : Int) (n17 : Int) (n18 : Int)
    (h : Obs [RetR Try.prog 58 [RA.cur [D.sl 1 l0, I n1, I n2] [D.sl 1 l0, I n4, I n5]] (RR.vals [AD.agg [I n6, I n7, I n8, I n9, I n10]]), RetR Try.prog 33 [RA.cur [D.sl 1 l0, I n4, I n5] [D.sl 1 l0, I n12, I n13], RA.ro (AD.one (I 12))] (RR.vals [AD.one (I n14)]), (n14 == 0) = false, (n14 == 1) = false, (n14 == 2) = false, (n14 == 3) = true, RetR Try.prog 59 [RA.cur [D.sl 1 l0, I n12, I n13] [D.sl 1 l0, I n16, I n17], RA.ro (AD.one (D.sl 1 [[I (-1)], [I 999], [I 1000], [I 9223372036854775807]]))] (RR.vals [AD.one (I n18)])]) :
    RetR Try.prog 34 [RA.cur [D.sl 1 l0, I n1, I n2] [D.sl 1 l0, I n16, I n17]] (RR.vals [AD.agg [I n6, I n7, I n8, I n9, I n18]]) :=
  .of [Ans.resR [some [D.sl 1 l0, I n4, I n5]] (RR.vals [AD.agg [I n6, I n7, I n8, I n9, I n10]]), Ans.resR [some [D.sl 1 l0, I n12, I n13], none] (RR.vals [AD.one (I n14)]), Ans.br false, Ans.br false, Ans.br false, Ans.br true, Ans.resR [some [D.sl 1 l0, I n16, I n17], none] (RR.vals [AD.one (I n18)])] _ Try.func34 rfl (by kernel_rfl) h

theorem spec_l05Any_p4 (l0 : List (List D)) (n1 : Int) (n2 : Int) (n4 : Int) (n5 : Int) (n6 : Int) (n7 : Int) (n8 : Int) (n9 : Int) (n10 : Int) (n12 : Int) (n13 : Int) (n14 : Int)
    (h : Obs [RetR Try.prog 58 [RA.cur [D.sl 1 l0, I n1, I n2] [D.sl 1 l0, I n4, I n5]] (RR.vals [AD.agg [I n6, I n7, I n8, I n9, I n10]]), RetR Try.prog 33 [RA.cur [D.sl 1 l0, I n4, I n5] [D.sl 1 l0, I n12, I n13], RA.ro (AD.one (I 12))] (RR.vals [AD.one (I n14)]), (n14 == 0) = false, (n14 == 1) = false, (n14 == 2) = false, (n14 == 3) = false]) :
    RetR Try.prog 34 [RA.cur [D.sl 1 l0, I n1, I n2] [D.sl 1 l0, I n12, I n13]] (RR.vals [AD.agg [I n6, I n7, I n8, I n9, I n10]]) :=
  .of [Ans.resR [some [D.sl 1 l0, I n4, I n5]] (RR.vals [AD.agg [I n6, I n7, I n8, I n9, I n10]]), Ans.resR [some [D.sl 1 l0, I n12, I n13], none] (RR.vals [AD.one (I n14)]), Ans.br false, Ans.br false, Ans.br false, Ans.br false] _ Try.func34 rfl (by kernel_rfl) h

/- loop.example/g00973/spec.l05List -/

def spec_l05List_L0 (l0 : List (List D)) (n1 : Int) (l2 : List (List D)) (n3 : Int) (n4 : Int) : St :=
  { env := envOf 35 [(0, PV.al (AL.one (Leaf.ptr 1000000000 0))), (3, PV.al (AL.one (Leaf.sl (Tag.own 5) 5 l2))), (4, PV.al (AL.one (Leaf.v (Value.int IntKind.i64 n1))))], boxes := [(1000000000, [Leaf.sv 1000000100 1 l0, Leaf.v (Value.int IntKind.i64 n3), Leaf.v (Value.int IntKind.i64 n4)])] }

theorem spec_l05List_L0_s0 (l0 : List (List D)) (n3 : Int) (l4 : List (List D)) (n5 : Int) (n6 : Int) (n8 : Int) (n9 : Int) (n10 : Int) (n12 : Int) (n13 : Int) (b14 : Bool) (n16 : Int) (n17 : Int) (n18 : Int) (n19 : Int) (n20 : Int) (n21 : Int) (n22 : Int) (n23 : Int)
    (h : Obs [RetR Try.prog 33 [RA.cur [D.sl 1 l0, I n5, I n6] [D.sl 1 l0, I n8, I n9], RA.ro (AD.one (I 7))] (RR.vals [AD.one (I n10)]), decide (n3 < n10) = true, decide ((↑l4.length : Int) > 0) = true, RetR Try.prog 32 [RA.cur [D.sl 1 l0, I n8, I n9] [D.sl 1 l0, I n12, I n13], RA.ro (AD.one (I 5))] (RR.vals [AD.one (B b14)]), b14 = true, RetR Try.prog 33 [RA.cur [D.sl 1 l0, I n12, I n13] [D.sl 1 l0, I n16, I n17], RA.ro (AD.one (I (↑l4.length : Int)))] (RR.vals [AD.one (I n18)]), 0 ≤ n18, n18 < (↑l4.length : Int), l4[n18.toNat]? = some [I n19, I n20, I n21, I n22, I n23], (l4.length + [[I n19, I n20, I n21, I n22, I n23]].length) * 40 ≤ 140737488355328, l4.length + [[I n19, I n20, I n21, I n22, I n23]].length ≤ 9223372036854775807, Flat [[I n19, I n20, I n21, I n22, I n23]], inInt IntKind.i64 (n3 + 1)]) :
    Tr Try.prog (loopOf Try.f31 0) (spec_l05List_L0 l0 n3 l4 n5 n6) Ex.normal (spec_l05List_L0 l0 (n3 + 1) (l4 ++ [[I n19, I n20, I n21, I n22, I n23]]) n16 n17) :=
  .of_loopc (ks := [4, 0, 3]) (bs := [1000000000]) (ans := [Ans.resR [some [D.sl 1 l0, I n8, I n9], none] (RR.vals [AD.one (I n10)]), Ans.br true, Ans.br true, Ans.resR [some [D.sl 1 l0, I n12, I n13], none] (RR.vals [AD.one (B b14)]), Ans.br true, Ans.resR [some [D.sl 1 l0, I n16, I n17], none] (RR.vals [AD.one (I n18)]), Ans.el [I n19, I n20, I n21, I n22, I n23]]) (by kernel_rfl) h

theorem spec_l05List_L0_s1 (l0 : List (List D)) (n3 : Int) (l4 : List (List D)) (n5 : Int) (n6 : Int) (n8 : Int) (n9 : Int) (n10 : Int) (n12 : Int) (n13 : Int) (b14 : Bool) (n16 : Int) (n17 : Int) (n18 : Int) (n19 : Int) (n20 : Int) (n21 : Int) (n22 : Int)
    (h : Obs [RetR Try.prog 33 [RA.cur [D.sl 1 l0, I n5, I n6] [D.sl 1 l0, I n8, I n9], RA.ro (AD.one (I 7))] (RR.vals [AD.one (I n10)]), decide (n3 < n10) = true, decide ((↑l4.length : Int) > 0) = true, RetR Try.prog 32 [RA.cur [D.sl 1 l0, I n8, I n9] [D.sl 1 l0, I n12, I n13], RA.ro (AD.one (I 5))] (RR.vals [AD.one (B b14)]), b14 = false, RetR Try.prog 34 [RA.cur [D.sl 1 l0, I n12, I n13] [D.sl 1 l0, I n16, I n17]] (RR.vals [AD.agg [I n18, I n19, I n20, I n21, I n22]]), (l4.length + [[I n18, I n19, I n20, I n21, I n22]].length) * 40 ≤ 140737488355328, l4.length + [[I n18, I n19, I n20, I n21, I n22]].length ≤ 9223372036854775807, Flat [[I n18, I n19, I n20, I n21, I n22]], inInt IntKind.i64 (n3 + 1)]) :
    Tr Try.prog (loopOf Try.f31 0) (spec_l05List_L0 l0 n3 l4 n5 n6) Ex.normal (spec_l05List_L0 l0 (n3 + 1) (l4 ++ [[I n18, I n19, I n20, I n21, I n22]]) n16 n17) :=
  .of_loopc (ks := [4, 0, 3]) (bs := [1000000000]) (ans := [Ans.resR [some [D.sl 1 l0, I n8, I n9], none] (RR.vals [AD.one (I n10)]), Ans.br true, Ans.br true, Ans.resR [some [D.sl 1 l0, I n12, I n13], none] (RR.vals [AD.one (B b14)]), Ans.br false, Ans.resR [some [D.sl 1 l0, I n16, I n17]] (RR.vals [AD.agg [I n18, I n19, I n20, I n21, I n22]])]) (by kernel_rfl) h

theorem spec_l05List_L0_s2 (l0 : List (List D)) (n3 : Int) (l4 : List (List D)) (n5 : Int) (n6 : Int) (n8 : Int) (n9 : Int) (n10 : Int) (n12 : Int) (n13 : Int) (n14 : Int) (n15 : Int) (n16 : Int) (n17 : Int) (n18 : Int)
    (h : Obs [RetR Try.prog 33 [RA.cur [D.sl 1 l0, I n5, I n6] [D.sl 1 l0, I n8, I n9], RA.ro (AD.one (I 7))] (RR.vals [AD.one (I n10)]), decide (n3 < n10) = true, decide ((↑l4.length : Int) > 0) = false, RetR Try.prog 34 [RA.cur [D.sl 1 l0, I n8, I n9] [D.sl 1 l0, I n12, I n13]] (RR.vals [AD.agg [I n14, I n15, I n16, I n17, I n18]]), (l4.length + [[I n14, I n15, I n16, I n17, I n18]].length) * 40 ≤ 140737488355328, l4.length + [[I n14, I n15, I n16, I n17, I n18]].length ≤ 9223372036854775807, Flat [[I n14, I n15, I n16, I n17, I n18]], inInt IntKind.i64 (n3 + 1)]) :
    Tr Try.prog (loopOf Try.f31 0) (spec_l05List_L0 l0 n3 l4 n5 n6) Ex.normal (spec_l05List_L0 l0 (n3 + 1) (l4 ++ [[I n14, I n15, I n16, I n17, I n18]]) n12 n13) :=
  .of_loopc (ks := [4, 0, 3]) (bs := [1000000000]) (ans := [Ans.resR [some [D.sl 1 l0, I n8, I n9], none] (RR.vals [AD.one (I n10)]), Ans.br true, Ans.br false, Ans.resR [some [D.sl 1 l0, I n12, I n13]] (RR.vals [AD.agg [I n14, I n15, I n16, I n17, I n18]])]) (by kernel_rfl) h

def spec_l05List_X0 (l0 : List (List D)) (l1 : List (List D)) (n2 : Int) (n3 : Int) : St :=
  { env := envOf 35 [(0, PV.al (AL.one (Leaf.ptr 1000000000 0))), (3, PV.al (AL.one (Leaf.sl (Tag.own 5) 5 l1)))], boxes := [(1000000000, [Leaf.sv 1000000100 1 l0, Leaf.v (Value.int IntKind.i64 n2), Leaf.v (Value.int IntKind.i64 n3)])] }

theorem spec_l05List_L0_x3 (l0 : List (List D)) (n3 : Int) (l4 : List (List D)) (n5 : Int) (n6 : Int) (n8 : Int) (n9 : Int) (n10 : Int)
    (h : Obs [RetR Try.prog 33 [RA.cur [D.sl 1 l0, I n5, I n6] [D.sl 1 l0, I n8, I n9], RA.ro (AD.one (I 7))] (RR.vals [AD.one (I n10)]), decide (n3 < n10) = false]) :
    Tr Try.prog (loopOf Try.f31 0) (spec_l05List_L0 l0 n3 l4 n5 n6) (Ex.exit 0) (spec_l05List_X0 l0 l4 n8 n9) :=
  .of_loopc (ks := [3, 0]) (bs := [1000000000]) (ans := [Ans.resR [some [D.sl 1 l0, I n8, I n9], none] (RR.vals [AD.one (I n10)]), Ans.br false]) (by kernel_rfl) h

theorem spec_l05List_p0 (l0 : List (List D)) (n1 : Int) (n2 : Int) (l3 : List (List D)) (n4 : Int) (n5 : Int)
    (h : Obs [LoopOk Try.prog (loopOf Try.f31 0) (spec_l05List_L0 l0 0 [] n1 n2) (Ex.exit 0) (spec_l05List_X0 l0 l3 n4 n5)]) :
    RetR Try.prog 31 [RA.cur [D.sl 1 l0, I n1, I n2] [D.sl 1 l0, I n4, I n5]] (RR.vals [AD.one (D.sl 5 l3)]) :=
  .of [Ans.loop [] [4, 0, 3] [1000000000] (Ex.exit 0) (spec_l05List_X0 l0 l3 n4 n5)] _ Try.func31 rfl (by kernel_rfl) h

/- loop.example/g00973/spec.DrawPlaces -/

/- loop.example/g00973/spec.DrawWithoutOne -/

def spec_DrawWithoutOne_R4 (l0 : List (List D)) (l1 : List (List D)) (n2 : Int) (n3 : Int) (b4 : Bool) : St :=
  { env := envOf 28 [(0, PV.al (AL.one (Leaf.sl Tag.free 1 l0))), (2, PV.al (AL.one (Leaf.v (Value.slice none 0 0)))), (3, PV.al (AL.one (Leaf.ptr 3 0))), (4, PV.al (AL.one (Leaf.ptr 7 0))), (5, PV.al (AL.one (Leaf.sl (Tag.own 100000) 5 l1))), (6, PV.al (AL.one (Leaf.sl Tag.free 1 l0))), (7, PV.al (AL.one (Leaf.ptr 7 0))), (8, PV.al (AL.one (Leaf.ptr 7 0))), (9, PV.al (AL.one (Leaf.sl (Tag.own 100000) 5 l1))), (10, PV.al (AL.one (Leaf.sl (Tag.own 100000) 5 l1))), (11, PV.al (AL.one (Leaf.v (Value.int IntKind.i64 (↑l1.length : Int))))), (12, PV.al (AL.one (Leaf.sb (decide ((↑l1.length : Int) > 0))))), (13, PV.al (AL.one (Leaf.v (Value.bool true)))), (14, PV.al (AL.one (Leaf.ptr 7 0))), (15, PV.al (AL.one (Leaf.sb b4))), (16, PV.al (AL.one (Leaf.sb b4)))], boxes := [(7, [Leaf.sl Tag.free 1 l0, Leaf.v (Value.int IntKind.i64 n2), Leaf.v (Value.int IntKind.i64 n3)]), (3, [Leaf.v (Value.int IntKind.i64 0), Leaf.v (Value.int IntKind.i64 0), Leaf.v (Value.int IntKind.i64 0), Leaf.v (Value.int IntKind.i64 0), Leaf.v (Value.int IntKind.i64 0)])] }

def spec_DrawWithoutOne_Q4 (l0 : List (List D)) (l1 : List (List D)) (b2 : Bool) (n3 : Int) (n4 : Int) (n5 : Int) (n6 : Int) (n7 : Int) (n8 : Int) (n9 : Int) (n10 : Int) : St :=
  { env := envOf 28 [(0, PV.al (AL.one (Leaf.sl Tag.free 1 l0))), (2, PV.al (AL.one (Leaf.sl (Tag.own 100000) 5 l1))), (3, PV.al (AL.one (Leaf.ptr 3 0))), (4, PV.al (AL.one (Leaf.ptr 7 0))), (5, PV.al (AL.one (Leaf.sl (Tag.own 100000) 5 l1))), (6, PV.al (AL.one (Leaf.sl Tag.free 1 l0))), (7, PV.al (AL.one (Leaf.ptr 7 0))), (8, PV.al (AL.one (Leaf.ptr 7 0))), (9, PV.al (AL.one (Leaf.sl (Tag.own 100000) 5 l1))), (10, PV.al (AL.one (Leaf.sl (Tag.own 100000) 5 l1))), (11, PV.al (AL.one (Leaf.v (Value.int IntKind.i64 (↑l1.length : Int))))), (12, PV.al (AL.one (Leaf.sb (decide ((↑l1.length : Int) > 0))))), (13, PV.al (AL.one (Leaf.v (Value.bool true)))), (14, PV.al (AL.one (Leaf.ptr 7 0))), (15, PV.al (AL.one (Leaf.sb b2))), (16, PV.al (AL.one (Leaf.sb b2))), (17, PV.al (AL.one (Leaf.sl (Tag.own 100000) 5 l1))), (18, PV.al (AL.one (Leaf.sl (Tag.own 100000) 5 l1))), (19, PV.al (AL.one (Leaf.ptr 7 0))), (20, PV.al (AL.one (Leaf.sl (Tag.own 100000) 5 l1))), (21, PV.al (AL.one (Leaf.v (Value.int IntKind.i64 (↑l1.length : Int))))), (22, PV.al (AL.one (Leaf.v (Value.int IntKind.i64 n5)))), (23, PV.al (AL.one (Leaf.ep (Tag.own 100000) 5 l1 n5.toNat 0))), (24, PV.al (AL.agg [Leaf.v (Value.int IntKind.i64 n6), Leaf.v (Value.int IntKind.i64 n7), Leaf.v (Value.int IntKind.i64 n8), Leaf.v (Value.int IntKind.i64 n9), Leaf.v (Value.int IntKind.i64 n10)]))], boxes := [(7, [Leaf.sl Tag.free 1 l0, Leaf.v (Value.int IntKind.i64 n3), Leaf.v (Value.int IntKind.i64 n4)]), (3, [Leaf.v (Value.int IntKind.i64 n6), Leaf.v (Value.int IntKind.i64 n7), Leaf.v (Value.int IntKind.i64 n8), Leaf.v (Value.int IntKind.i64 n9), Leaf.v (Value.int IntKind.i64 n10)])] }

theorem spec_DrawWithoutOne_R4_r2 (l0 : List (List D)) (l7 : List (List D)) (n9 : Int) (n10 : Int) (b11 : Bool) (n13 : Int) (n14 : Int) (n15 : Int) (n16 : Int) (n17 : Int) (n18 : Int) (n19 : Int) (n20 : Int)
    (h : Obs [RetR Try.prog 33 [RA.cur [D.sl 1 l0, I n9, I n10] [D.sl 1 l0, I n13, I n14], RA.ro (AD.one (I (↑l7.length : Int)))] (RR.vals [AD.one (I n15)]), 0 ≤ n15, n15 < (↑l7.length : Int), l7[n15.toNat]? = some [I n16, I n17, I n18, I n19, I n20]]) :
    RegOk Try.prog (regOf Try.f15 4) (spec_DrawWithoutOne_R4 l0 l7 n9 n10 b11) (spec_DrawWithoutOne_Q4 l0 l7 b11 n13 n14 n15 n16 n17 n18 n19 n20) :=
  .of [[], [], [], [], [], [Ans.resR [some [D.sl 1 l0, I n13, I n14], none] (RR.vals [AD.one (I n15)])], [], [Ans.el [I n16, I n17, I n18, I n19, I n20]], [], []] [[], [], [], [], [], [RetR Try.prog 33 [RA.cur [D.sl 1 l0, I n9, I n10] [D.sl 1 l0, I n13, I n14], RA.ro (AD.one (I (↑l7.length : Int)))] (RR.vals [AD.one (I n15)])], [0 ≤ n15, n15 < (↑l7.length : Int)], [l7[n15.toNat]? = some [I n16, I n17, I n18, I n19, I n20]], [], []] (by kernel_rfl) (by kernel_rfl) (by kernel_rfl) h

theorem spec_DrawWithoutOne_p0 (l0 : List (List D)) (n2 : Int) (n3 : Int) (n5 : Int) (n6 : Int) (l7 : List (List D)) (n9 : Int) (n10 : Int) (b11 : Bool) (n13 : Int) (n14 : Int) (n15 : Int) (n16 : Int) (n17 : Int) (n18 : Int) (n19 : Int) (n20 : Int)
    (h : Obs [RetR Try.prog 30 [RA.ro (AD.one (D.sl 1 l0))] (RR.newp [some 0, none, none] [D.sl 1 l0, I n2, I n3]), RetR Try.prog 31 [RA.cur [D.sl 1 l0, I n2, I n3] [D.sl 1 l0, I n5, I n6]] (RR.vals [AD.one (D.sl 5 l7)]), decide ((↑l7.length : Int) > 0) = true, RetR Try.prog 32 [RA.cur [D.sl 1 l0, I n5, I n6] [D.sl 1 l0, I n9, I n10], RA.ro (AD.one (I 2))] (RR.vals [AD.one (B b11)]), b11 = true, RegOk Try.prog (regOf Try.f15 4) (spec_DrawWithoutOne_R4 l0 l7 n9 n10 b11) (spec_DrawWithoutOne_Q4 l0 l7 b11 n13 n14 n15 n16 n17 n18 n19 n20)]) :
    Ret Try.prog 15 [AD.one (D.sl 1 l0)] [AD.one (D.sl 5 l7), AD.agg [I n16, I n17, I n18, I n19, I n20]] :=
  .of [Ans.resR [none] (RR.newp [some 0, none, none] [D.sl 1 l0, I n2, I n3]), Ans.resR [some [D.sl 1 l0, I n5, I n6]] (RR.vals [AD.one (D.sl 5 l7)]), Ans.br true, Ans.resR [some [D.sl 1 l0, I n9, I n10], none] (RR.vals [AD.one (B b11)]), Ans.br true, Ans.reg (spec_DrawWithoutOne_Q4 l0 l7 b11 n13 n14 n15 n16 n17 n18 n19 n20)] _ Try.func15 rfl (by kernel_rfl) h

theorem spec_DrawWithoutOne_p1 (l0 : List (List D)) (n2 : Int) (n3 : Int) (n5 : Int) (n6 : Int) (l7 : List (List D)) (n9 : Int) (n10 : Int) (b11 : Bool) (n13 : Int) (n14 : Int) (n15 : Int) (n16 : Int) (n17 : Int) (n18 : Int) (n19 : Int)
    (h : Obs [RetR Try.prog 30 [RA.ro (AD.one (D.sl 1 l0))] (RR.newp [some 0, none, none] [D.sl 1 l0, I n2, I n3]), RetR Try.prog 31 [RA.cur [D.sl 1 l0, I n2, I n3] [D.sl 1 l0, I n5, I n6]] (RR.vals [AD.one (D.sl 5 l7)]), decide ((↑l7.length : Int) > 0) = true, RetR Try.prog 32 [RA.cur [D.sl 1 l0, I n5, I n6] [D.sl 1 l0, I n9, I n10], RA.ro (AD.one (I 2))] (RR.vals [AD.one (B b11)]), b11 = false, RetR Try.prog 34 [RA.cur [D.sl 1 l0, I n9, I n10] [D.sl 1 l0, I n13, I n14]] (RR.vals [AD.agg [I n15, I n16, I n17, I n18, I n19]])]) :
    Ret Try.prog 15 [AD.one (D.sl 1 l0)] [AD.one (D.sl 5 l7), AD.agg [I n15, I n16, I n17, I n18, I n19]] :=
  .of [Ans.resR [none] (RR.newp [some 0, none, none] [D.sl 1 l0, I n2, I n3]), Ans.resR [some [D.sl 1 l0, I n5, I n6]] (RR.vals [AD.one (D.sl 5 l7)]), Ans.br true, Ans.resR [some [D.sl 1 l0, I n9, I n10], none] (RR.vals [AD.one (B b11)]), Ans.br false, Ans.resR [some [D.sl 1 l0, I n13, I n14]] (RR.vals [AD.agg [I n15, I n16, I n17, I n18, I n19]])] _ Try.func15 rfl (by kernel_rfl) h

theorem spec_DrawWithoutOne_p2 (l0 : List (List D)) (n2 : Int) (n3 : Int) (n5 : Int) (n6 : Int) (l7 : List (List D)) (n9 : Int) (n10 : Int) (n11 : Int) (n12 : Int) (n13 : Int) (n14 : Int) (n15 : Int)
    (h : Obs [RetR Try.prog 30 [RA.ro (AD.one (D.sl 1 l0))] (RR.newp [some 0, none, none] [D.sl 1 l0, I n2, I n3]), RetR Try.prog 31 [RA.cur [D.sl 1 l0, I n2, I n3] [D.sl 1 l0, I n5, I n6]] (RR.vals [AD.one (D.sl 5 l7)]), decide ((↑l7.length : Int) > 0) = false, RetR Try.prog 34 [RA.cur [D.sl 1 l0, I n5, I n6] [D.sl 1 l0, I n9, I n10]] (RR.vals [AD.agg [I n11, I n12, I n13, I n14, I n15]])]) :
    Ret Try.prog 15 [AD.one (D.sl 1 l0)] [AD.one (D.sl 5 l7), AD.agg [I n11, I n12, I n13, I n14, I n15]] :=
  .of [Ans.resR [none] (RR.newp [some 0, none, none] [D.sl 1 l0, I n2, I n3]), Ans.resR [some [D.sl 1 l0, I n5, I n6]] (RR.vals [AD.one (D.sl 5 l7)]), Ans.br false, Ans.resR [some [D.sl 1 l0, I n9, I n10]] (RR.vals [AD.agg [I n11, I n12, I n13, I n14, I n15]])] _ Try.func15 rfl (by kernel_rfl) h

end Go.Proofs.Ytenekpkjlgddnaa
