import Derived.Test.YtenekpkjlgddnaaRows
import Derived.Test.YtenekpkjlgddnaaR22
import Derived.Test.YtenekpkjlgddnaaR33
set_option linter.unusedVariables false
set_option linter.unusedSimpArgs false
namespace Go.Proofs.Ytenekpkjlgddnaa
open Go.Sx Go.RowKit

/- loop.example/g00973/impl.alone -/

theorem aloneR_p0 (l0 : List (List D)) (n1 : Int) (n2 : Int) (l3 : List (List D)) (n4 : Int) (b5 : Bool) (l6 : List (List D)) (n7 : Int) (n8 : Int) (b9 : Bool)
    (h : Obs [Ret Try.prog 40 [AD.agg [D.sl 4 l0, I n1, I n2]] [AD.one (B b9)], (!b9) = true]) :
    RetR Try.prog 26 [RA.ro (AD.agg [D.sl 4 l0, I n1, I n2]), RA.ro (AD.one (D.sl 5 l3)), RA.ro (AD.one (I n4)), RA.fn 27 [4, 5], RA.ref [B b5] [B b5], RA.cur [D.sl 4 l6, I n7, I n8] [D.sl 4 l6, I n7, I n8]] (RR.vals [AD.one (D.sl 4 []), AD.one (I 0), AD.one (B false)]) :=
  .of [Ans.res [AD.one (B b9)], Ans.br true] _ Try.func26 rfl (by kernel_rfl) h

def aloneR_L0 (l0 : List (List D)) (l1 : List (List D)) (n2 : Int) (l3 : List (List D)) (l4 : List (List D)) (n5 : Int) (n6 : Int) (b7 : Bool) (n8 : Int) (n9 : Int) : St :=
  { env := envOf 74 [(3, PV.al (AL.one (Leaf.clo 27 [1000000004, 1000000005]))), (4, PV.al (AL.one (Leaf.ptr 4 0))), (11, PV.al (AL.one (Leaf.sl (Tag.own 38) 5 l3))), (24, PV.al (AL.one (Leaf.sl (Tag.own 250000) 5 l1))), (25, PV.al (AL.one (Leaf.v (Value.int IntKind.i64 (↑l1.length : Int))))), (26, PV.al (AL.one (Leaf.v (Value.int IntKind.i64 n2))))], boxes := [(4, [Leaf.sl Tag.free 4 l4, Leaf.v (Value.int IntKind.i64 n5), Leaf.v (Value.int IntKind.i64 n6)]), (1000000004, [Leaf.sb b7]), (1000000005, [Leaf.sv 1000000600 4 l0, Leaf.v (Value.int IntKind.i64 n8), Leaf.v (Value.int IntKind.i64 n9)])] }

theorem aloneR_L0_s0 (l6 : List (List D)) (l10 : List (List D)) (n11 : Int) (l12 : List (List D)) (l13 : List (List D)) (n14 : Int) (n15 : Int) (b16 : Bool) (n17 : Int) (n18 : Int) (n19 : Int) (n20 : Int) (n21 : Int) (n22 : Int) (n23 : Int) (b24 : Bool)
    (h : Obs [decide (n11 < (↑l10.length : Int)) = true, 0 ≤ n11, n11 < (↑l10.length : Int), l10[n11.toNat]? = some [I n19, I n20, I n21, I n22, I n23], Ret Try.prog 41 [AD.agg [I n19, I n20, I n21, I n22, I n23]] [AD.one (B b24)], b24 = true, (l12.length + [[I 0, I n20, I 0, I n22, I n23]].length) * 40 ≤ 140737488355328, l12.length + [[I 0, I n20, I 0, I n22, I n23]].length ≤ 9223372036854775807, Flat [[I 0, I n20, I 0, I n22, I n23]], inInt IntKind.i64 (n11 + 1)]) :
    Tr Try.prog (loopOf Try.f26 0) (aloneR_L0 l6 l10 n11 l12 l13 n14 n15 b16 n17 n18) Ex.normal (aloneR_L0 l6 l10 (n11 + 1) (l12 ++ [[I 0, I n20, I 0, I n22, I n23]]) l13 n14 n15 b16 n17 n18) :=
  .of_loopc (ks := [26, 25, 24, 11, 3, 4]) (bs := [4, 1000000004, 1000000005]) (ans := [Ans.br true, Ans.el [I n19, I n20, I n21, I n22, I n23], Ans.res [AD.one (B b24)], Ans.br true]) (by kernel_rfl) h

theorem aloneR_L0_s1 (l6 : List (List D)) (l10 : List (List D)) (n11 : Int) (l12 : List (List D)) (l13 : List (List D)) (n14 : Int) (n15 : Int) (b16 : Bool) (n17 : Int) (n18 : Int) (n19 : Int) (n20 : Int) (n21 : Int) (n22 : Int) (n23 : Int) (b24 : Bool)
    (h : Obs [decide (n11 < (↑l10.length : Int)) = true, 0 ≤ n11, n11 < (↑l10.length : Int), l10[n11.toNat]? = some [I n19, I n20, I n21, I n22, I n23], Ret Try.prog 41 [AD.agg [I n19, I n20, I n21, I n22, I n23]] [AD.one (B b24)], b24 = false, inInt IntKind.i64 (n11 + 1)]) :
    Tr Try.prog (loopOf Try.f26 0) (aloneR_L0 l6 l10 n11 l12 l13 n14 n15 b16 n17 n18) Ex.normal (aloneR_L0 l6 l10 (n11 + 1) l12 l13 n14 n15 b16 n17 n18) :=
  .of_loopc (ks := [26, 25, 24, 11, 3, 4]) (bs := [4, 1000000004, 1000000005]) (ans := [Ans.br true, Ans.el [I n19, I n20, I n21, I n22, I n23], Ans.res [AD.one (B b24)], Ans.br false]) (by kernel_rfl) h

def aloneR_X0 (l0 : List (List D)) (l1 : List (List D)) (l2 : List (List D)) (n3 : Int) (n4 : Int) (b5 : Bool) (n6 : Int) (n7 : Int) : St :=
  { env := envOf 74 [(3, PV.al (AL.one (Leaf.clo 27 [1000000004, 1000000005]))), (4, PV.al (AL.one (Leaf.ptr 4 0))), (11, PV.al (AL.one (Leaf.sl (Tag.own 38) 5 l1)))], boxes := [(4, [Leaf.sl Tag.free 4 l2, Leaf.v (Value.int IntKind.i64 n3), Leaf.v (Value.int IntKind.i64 n4)]), (1000000004, [Leaf.sb b5]), (1000000005, [Leaf.sv 1000000600 4 l0, Leaf.v (Value.int IntKind.i64 n6), Leaf.v (Value.int IntKind.i64 n7)])] }

theorem aloneR_L0_x2 (l6 : List (List D)) (l10 : List (List D)) (n11 : Int) (l12 : List (List D)) (l13 : List (List D)) (n14 : Int) (n15 : Int) (b16 : Bool) (n17 : Int) (n18 : Int)
    (h : Obs [decide (n11 < (↑l10.length : Int)) = false]) :
    Tr Try.prog (loopOf Try.f26 0) (aloneR_L0 l6 l10 n11 l12 l13 n14 n15 b16 n17 n18) (Ex.exit 0) (aloneR_X0 l6 l12 l13 n14 n15 b16 n17 n18) :=
  .of_loopc (ks := [11, 3, 4]) (bs := [4, 1000000004, 1000000005]) (ans := [Ans.br false]) (by kernel_rfl) h

def aloneR_L1 (l0 : List (List D)) (l1 : List (List D)) (n2 : Int) (l3 : List (List D)) (l4 : List (List D)) (n5 : Int) (n6 : Int) (b7 : Bool) (n8 : Int) (n9 : Int) : St :=
  { env := envOf 74 [(3, PV.al (AL.one (Leaf.clo 27 [1000000004, 1000000005]))), (4, PV.al (AL.one (Leaf.ptr 4 0))), (11, PV.al (AL.one (Leaf.sl (Tag.own 38) 5 l1))), (14, PV.al (AL.one (Leaf.sl (Tag.own 590000) 4 l3))), (15, PV.al (AL.one (Leaf.v (Value.int IntKind.i64 n2))))], boxes := [(4, [Leaf.sl Tag.free 4 l4, Leaf.v (Value.int IntKind.i64 n5), Leaf.v (Value.int IntKind.i64 n6)]), (1000000004, [Leaf.sb b7]), (1000000005, [Leaf.sv 1000000600 4 l0, Leaf.v (Value.int IntKind.i64 n8), Leaf.v (Value.int IntKind.i64 n9)])] }

theorem aloneR_L1_s0 (l6 : List (List D)) (l18 : List (List D)) (n19 : Int) (l20 : List (List D)) (l21 : List (List D)) (n22 : Int) (n23 : Int) (b24 : Bool) (n25 : Int) (n26 : Int) (n27 : Int) (n28 : Int) (n29 : Int) (n30 : Int) (n31 : Int) (b32 : Bool) (n33 : Int) (n34 : Int) (n35 : Int) (n36 : Int) (n37 : Int) (n38 : Int) (n39 : Int) (l40 : List (List D)) (l41 : List (List D)) (b42 : Bool)
    (h : Obs [decide ((↑l18.length : Int) > 0) = true, decide (n19 < 20000) = true, (0 : Int) ≤ 0, 0 < (↑l18.length : Int), l18[0]? = some [I n27, I n28, I n29, I n30, I n31], RetR Try.prog 27 [RA.ro (AD.agg [I n27, I n28, I n29, I n30, I n31]), RA.ref [B b24] [B b32], RA.cur [D.sl 4 l6, I n25, I n26] [D.sl 4 l6, I n33, I n34]] (RR.vals []), (0 : Int) ≤ 0, 0 < (↑l18.length : Int), l18[0]? = some [I n35, I n36, I n37, I n38, I n39], Ret Try.prog 21 [AD.agg [D.sl 4 l21, I n22, I n23], AD.one (D.sl 4 l20), AD.agg [I n35, I n36, I n37, I n38, I n39]] [AD.one (D.sl 4 l40), AD.one (D.sl 5 l41), AD.one (B b42)], (0 : Int) ≤ (some (1 : Int)).getD 0, (some (1 : Int)).getD 0 ≤ none.getD (↑l18.length : Int), none.getD (↑l18.length : Int) ≤ (↑l18.length : Int), ((List.take (l18.length - 1) (List.drop 1 l18)).length + l41.length) * 40 ≤ 140737488355328, (List.take (l18.length - 1) (List.drop 1 l18)).length + l41.length ≤ 9223372036854775807, Flat l41, inInt IntKind.i64 (n19 + 1)]) :
    Tr Try.prog (loopOf Try.f26 1) (aloneR_L1 l6 l18 n19 l20 l21 n22 n23 b24 n25 n26) Ex.normal (aloneR_L1 l6 (List.take (l18.length - 1) (List.drop 1 l18) ++ l41) (n19 + 1) l40 l21 n22 n23 b32 n33 n34) :=
  .of_loopc (ks := [11, 15, 3, 4, 14]) (bs := [4, 1000000004, 1000000005]) (ans := [Ans.br true, Ans.br true, Ans.el [I n27, I n28, I n29, I n30, I n31], Ans.resR [none, some [B b32], some [D.sl 4 l6, I n33, I n34]] (RR.vals []), Ans.el [I n35, I n36, I n37, I n38, I n39], Ans.res [AD.one (D.sl 4 l40), AD.one (D.sl 5 l41), AD.one (B b42)], Ans.own]) (by kernel_rfl) h

def aloneR_X1 (l0 : List (List D)) (l1 : List (List D)) (n2 : Int) (l3 : List (List D)) (b4 : Bool) (n5 : Int) (n6 : Int) : St :=
  { env := envOf 74 [(3, PV.al (AL.one (Leaf.clo 27 [1000000004, 1000000005]))), (11, PV.al (AL.one (Leaf.sl (Tag.own 38) 5 l3))), (14, PV.al (AL.one (Leaf.sl (Tag.own 590000) 4 l1))), (15, PV.al (AL.one (Leaf.v (Value.int IntKind.i64 n2))))], boxes := [(1000000004, [Leaf.sb b4]), (1000000005, [Leaf.sv 1000000600 4 l0, Leaf.v (Value.int IntKind.i64 n5), Leaf.v (Value.int IntKind.i64 n6)])] }

theorem aloneR_L1_x1 (l6 : List (List D)) (l18 : List (List D)) (n19 : Int) (l20 : List (List D)) (l21 : List (List D)) (n22 : Int) (n23 : Int) (b24 : Bool) (n25 : Int) (n26 : Int)
    (h : Obs [decide ((↑l18.length : Int) > 0) = true, decide (n19 < 20000) = false]) :
    Tr Try.prog (loopOf Try.f26 1) (aloneR_L1 l6 l18 n19 l20 l21 n22 n23 b24 n25 n26) (Ex.exit 2) (aloneR_X1 l6 l20 n19 l18 b24 n25 n26) :=
  .of_loopc (ks := [14, 15, 11, 3]) (bs := [1000000004, 1000000005]) (ans := [Ans.br true, Ans.br false]) (by kernel_rfl) h

theorem aloneR_L1_x2 (l6 : List (List D)) (l18 : List (List D)) (n19 : Int) (l20 : List (List D)) (l21 : List (List D)) (n22 : Int) (n23 : Int) (b24 : Bool) (n25 : Int) (n26 : Int)
    (h : Obs [decide ((↑l18.length : Int) > 0) = false]) :
    Tr Try.prog (loopOf Try.f26 1) (aloneR_L1 l6 l18 n19 l20 l21 n22 n23 b24 n25 n26) (Ex.exit 2) (aloneR_X1 l6 l20 n19 l18 b24 n25 n26) :=
  .of_loopc (ks := [14, 15, 11, 3]) (bs := [1000000004, 1000000005]) (ans := [Ans.br false]) (by kernel_rfl) h

theorem aloneR_p1 (l0 : List (List D)) (n1 : Int) (n2 : Int) (l3 : List (List D)) (n4 : Int) (b5 : Bool) (l6 : List (List D)) (n7 : Int) (n8 : Int) (b9 : Bool) (l10 : List (List D)) (l11 : List (List D)) (l12 : List (List D)) (n13 : Int) (n14 : Int) (b15 : Bool) (n16 : Int) (n17 : Int) (l18 : List (List D)) (n19 : Int) (l20 : List (List D)) (b21 : Bool) (n22 : Int) (n23 : Int)
    (h : Obs [Ret Try.prog 40 [AD.agg [D.sl 4 l0, I n1, I n2]] [AD.one (B b9)], (!b9) = false, Ret Try.prog 54 [AD.one (D.sl 5 l3), AD.one (I n4)] [AD.one (D.sl 5 l10)], LoopOk Try.prog (loopOf Try.f26 0) (aloneR_L0 l6 l10 0 [] l0 n1 n2 b5 n7 n8) (Ex.exit 0) (aloneR_X0 l6 l11 l12 n13 n14 b15 n16 n17), LoopOk Try.prog (loopOf Try.f26 1) (aloneR_L1 l6 l11 0 [] l12 n13 n14 b15 n16 n17) (Ex.exit 2) (aloneR_X1 l6 l18 n19 l20 b21 n22 n23)]) :
    RetR Try.prog 26 [RA.ro (AD.agg [D.sl 4 l0, I n1, I n2]), RA.ro (AD.one (D.sl 5 l3)), RA.ro (AD.one (I n4)), RA.fn 27 [4, 5], RA.ref [B b5] [B b21], RA.cur [D.sl 4 l6, I n7, I n8] [D.sl 4 l6, I n22, I n23]] (RR.vals [AD.one (D.sl 4 l18), AD.one (I n19), AD.one (B ((↑l20.length : Int) == 0))]) :=
  .of [Ans.res [AD.one (B b9)], Ans.br false, Ans.res [AD.one (D.sl 5 l10)], Ans.loop [(11, 38, 5)] [26, 25, 24, 11, 3, 4] [4, 1000000004, 1000000005] (Ex.exit 0) (aloneR_X0 l6 l11 l12 n13 n14 b15 n16 n17), Ans.loop [(14, 590000, 4)] [11, 15, 3, 4, 14] [4, 1000000004, 1000000005] (Ex.exit 2) (aloneR_X1 l6 l18 n19 l20 b21 n22 n23)] _ Try.func26 rfl (by kernel_rfl) h

/- loop.example/g00973/impl.AloneCapped -/

theorem impl_AloneCapped_p0 (l0 : List (List D)) (n1 : Int) (n2 : Int) (l3 : List (List D)) (n4 : Int) (b5 : Bool) (n6 : Int) (n7 : Int) (l8 : List (List D)) (n9 : Int) (b10 : Bool)
    (h : Obs [RetR Try.prog 26 [RA.ro (AD.agg [D.sl 4 l0, I n1, I n2]), RA.ro (AD.one (D.sl 5 l3)), RA.ro (AD.one (I n4)), RA.fn 27 [4, 5], RA.ref [B false] [B b5], RA.cur [D.sl 4 l0, I n1, I n2] [D.sl 4 l0, I n6, I n7]] (RR.vals [AD.one (D.sl 4 l8), AD.one (I n9), AD.one (B b10)])]) :
    Ret Try.prog 11 [AD.agg [D.sl 4 l0, I n1, I n2], AD.one (D.sl 5 l3), AD.one (I n4)] [AD.one (B b5)] :=
  .of [Ans.resR [none, none, none, none, some [B b5], some [D.sl 4 l0, I n6, I n7]] (RR.vals [AD.one (D.sl 4 l8), AD.one (I n9), AD.one (B b10)])] _ Try.func11 rfl (by kernel_rfl) h

/- loop.example/g00973/impl.AloneCapped$1 -/

theorem impl_AloneCapped_1_p0 (n0 : Int) (n1 : Int) (n2 : Int) (n3 : Int) (n4 : Int) (b5 : Bool) (l6 : List (List D)) (n7 : Int) (n8 : Int)
    (h : Obs [b5 = true]) :
    RetR Try.prog 27 [RA.ro (AD.agg [I n0, I n1, I n2, I n3, I n4]), RA.ref [B b5] [B true], RA.cur [D.sl 4 l6, I n7, I n8] [D.sl 4 l6, I n7, I n8]] (RR.vals []) :=
  .of [Ans.br true] _ Try.func27 rfl (by kernel_rfl) h

theorem impl_AloneCapped_1_p1 (n0 : Int) (n1 : Int) (n2 : Int) (n3 : Int) (n4 : Int) (b5 : Bool) (l6 : List (List D)) (n7 : Int) (n8 : Int) (b9 : Bool)
    (h : Obs [b5 = false, Ret Try.prog 20 [AD.agg [D.sl 4 l6, I n7, I n8], AD.agg [I n0, I n1, I n2, I n3, I n4]] [AD.one (B b9)]]) :
    RetR Try.prog 27 [RA.ro (AD.agg [I n0, I n1, I n2, I n3, I n4]), RA.ref [B b5] [B b9], RA.cur [D.sl 4 l6, I n7, I n8] [D.sl 4 l6, I n7, I n8]] (RR.vals []) :=
  .of [Ans.br false, Ans.res [AD.one (B b9)]] _ Try.func27 rfl (by kernel_rfl) h

end Go.Proofs.Ytenekpkjlgddnaa
