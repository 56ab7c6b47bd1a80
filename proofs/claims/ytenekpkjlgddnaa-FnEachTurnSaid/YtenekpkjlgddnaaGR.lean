import Derived.Test.YtenekpkjlgddnaaRows
import Derived.Test.YtenekpkjlgddnaaGE
namespace Go.Proofs.Ytenekpkjlgddnaa
open Go.Sx Go.RowKit
variable {a b c d e : Int} {A : LL} {q r s : Bool}
theorem ql9(h:Oo [.b (a==2) true,.r 63 [cI b,cI 0,cI 999] [cB q],.n q true]):
 Rt 64 [.agg (nd a b c A)] [cB false]:=
 h.of
theorem qma(h:Oo [.b (a==2) true,.r 63 [cI b,cI 0,cI 999] [cB q],.n q false,.b (c != 0) true]):
 Rt 64 [.agg (nd a b c A)] [cB false]:=
 h.of
theorem qmb(h:Oo [.b (a==2) true,.r 63 [cI b,cI 0,cI 999] [cB q],.n q false,.b (c != 0) false,.b (decide ((A.length:Int)>2)) true]):
 Rt 64 [.agg (nd a b c A)] [cB false]:=
 h.of
theorem qmc(h:Oo [.b (a==2) true,.r 63 [cI b,cI 0,cI 999] [cB q],.n q false,.b (c != 0) false,.b (decide ((A.length:Int)>2)) false,.b (a==8) true,.b (decide ((A.length:Int)>0)) true]):
 Rt 64 [.agg (nd a b c A)] [cB false]:=
 h.of
theorem qmd(h:Oo [.b (a==2) true,.r 63 [cI b,cI 0,cI 999] [cB q],.n q false,.b (c != 0) false,.b (decide ((A.length:Int)>2)) false,.b (a==8) true,.b (decide ((A.length:Int)>0)) false,.b ((A.length:Int)==2) true,.p ((0:Int)≤0),.p (0<(A.length:Int)),.e A 0 [I d],.p ((0:Int)≤1),.p (1<(A.length:Int)),.e A 1 [I e],.b (d==e) true]):
 Rt 64 [.agg (nd a b c A)] [cB false]:=
 h.of
def qaf(A:LL)(a:Int):St:=
 { env:=envOf 101 [(91,vF 1 A),(92,vI (A.length:Int)),(93,vI a)],boxes:=[] }
def qan(q:Bool):St:=
 { env:=envOf 101 [(2,.al (.one (.sb q)))],boxes:=[] }
theorem qme(h:Oo [.b (decide (a<(A.length:Int))) true,.p (0≤a),.p (a<(A.length:Int)),.e A a.toNat [I b],.r 63 [cI b,cI 0,cI 7] [cB q],.n q true]):
 Tp (qab Try.f64 0) (qaf A a) .ret (qan false):=
 h.lp [2] []
theorem qmf(h:Oo [.b (decide (a<(A.length:Int))) true,.p (0≤a),.p (a<(A.length:Int)),.e A a.toNat [I b],.r 63 [cI b,cI 0,cI 7] [cB q],.n q false,.u a]):
 Tp (qab Try.f64 0) (qaf A a) .normal (qaf A (a+1)):=
 h.lp [93,92,91] []
def qao:St:=
 { env:=envOf 101 [],boxes:=[] }
theorem qmg(h:Oo [.b (decide (a<(A.length:Int))) false]):
 Tp (qab Try.f64 0) (qaf A a) (.exit 1) qao:=
 h.lp [] []
theorem qmh(h:Oo [.b (a==2) true,.r 63 [cI b,cI 0,cI 999] [cB q],.n q false,.b (c != 0) false,.b (decide ((A.length:Int)>2)) false,.b (a==8) true,.b (decide ((A.length:Int)>0)) false,.b ((A.length:Int)==2) true,.p ((0:Int)≤0),.p (0<(A.length:Int)),.e A 0 [I d],.p ((0:Int)≤1),.p (1<(A.length:Int)),.e A 1 [I e],.b (d==e) false,.l [] [93,92,91] [] (qab Try.f64 0) (qaf A 0) .ret (qan r)]):
 Rt 64 [.agg (nd a b c A)] [cB r]:=
 h.of
theorem qmi(h:Oo [.b (a==2) true,.r 63 [cI b,cI 0,cI 999] [cB q],.n q false,.b (c != 0) false,.b (decide ((A.length:Int)>2)) false,.b (a==8) true,.b (decide ((A.length:Int)>0)) false,.b ((A.length:Int)==2) true,.p ((0:Int)≤0),.p (0<(A.length:Int)),.e A 0 [I d],.p ((0:Int)≤1),.p (1<(A.length:Int)),.e A 1 [I e],.b (d==e) false,.l [] [93,92,91] [] (qab Try.f64 0) (qaf A 0) (.exit 1) qao]):
 Rt 64 [.agg (nd a b c A)] [cB true]:=
 h.of
theorem qmj(h:Oo [.b (a==2) true,.r 63 [cI b,cI 0,cI 999] [cB q],.n q false,.b (c != 0) false,.b (decide ((A.length:Int)>2)) false,.b (a==8) true,.b (decide ((A.length:Int)>0)) false,.b ((A.length:Int)==2) false,.l [] [93,92,91] [] (qab Try.f64 0) (qaf A 0) .ret (qan r)]):
 Rt 64 [.agg (nd a b c A)] [cB r]:=
 h.of
theorem qmk(h:Oo [.b (a==2) true,.r 63 [cI b,cI 0,cI 999] [cB q],.n q false,.b (c != 0) false,.b (decide ((A.length:Int)>2)) false,.b (a==8) true,.b (decide ((A.length:Int)>0)) false,.b ((A.length:Int)==2) false,.l [] [93,92,91] [] (qab Try.f64 0) (qaf A 0) (.exit 1) qao]):
 Rt 64 [.agg (nd a b c A)] [cB true]:=
 h.of
theorem qml(h:Oo [.b (a==2) true,.r 63 [cI b,cI 0,cI 999] [cB q],.n q false,.b (c != 0) false,.b (decide ((A.length:Int)>2)) false,.b (a==8) false,.b ((A.length:Int)==2) true,.p ((0:Int)≤0),.p (0<(A.length:Int)),.e A 0 [I d],.p ((0:Int)≤1),.p (1<(A.length:Int)),.e A 1 [I e],.b (d==e) true]):
 Rt 64 [.agg (nd a b c A)] [cB false]:=
 h.of
theorem qmm(h:Oo [.b (a==2) true,.r 63 [cI b,cI 0,cI 999] [cB q],.n q false,.b (c != 0) false,.b (decide ((A.length:Int)>2)) false,.b (a==8) false,.b ((A.length:Int)==2) true,.p ((0:Int)≤0),.p (0<(A.length:Int)),.e A 0 [I d],.p ((0:Int)≤1),.p (1<(A.length:Int)),.e A 1 [I e],.b (d==e) false,.l [] [93,92,91] [] (qab Try.f64 0) (qaf A 0) .ret (qan r)]):
 Rt 64 [.agg (nd a b c A)] [cB r]:=
 h.of
theorem qmn(h:Oo [.b (a==2) true,.r 63 [cI b,cI 0,cI 999] [cB q],.n q false,.b (c != 0) false,.b (decide ((A.length:Int)>2)) false,.b (a==8) false,.b ((A.length:Int)==2) true,.p ((0:Int)≤0),.p (0<(A.length:Int)),.e A 0 [I d],.p ((0:Int)≤1),.p (1<(A.length:Int)),.e A 1 [I e],.b (d==e) false,.l [] [93,92,91] [] (qab Try.f64 0) (qaf A 0) (.exit 1) qao]):
 Rt 64 [.agg (nd a b c A)] [cB true]:=
 h.of
theorem qmo(h:Oo [.b (a==2) true,.r 63 [cI b,cI 0,cI 999] [cB q],.n q false,.b (c != 0) false,.b (decide ((A.length:Int)>2)) false,.b (a==8) false,.b ((A.length:Int)==2) false,.l [] [93,92,91] [] (qab Try.f64 0) (qaf A 0) .ret (qan r)]):
 Rt 64 [.agg (nd a b c A)] [cB r]:=
 h.of
theorem qmp(h:Oo [.b (a==2) true,.r 63 [cI b,cI 0,cI 999] [cB q],.n q false,.b (c != 0) false,.b (decide ((A.length:Int)>2)) false,.b (a==8) false,.b ((A.length:Int)==2) false,.l [] [93,92,91] [] (qab Try.f64 0) (qaf A 0) (.exit 1) qao]):
 Rt 64 [.agg (nd a b c A)] [cB true]:=
 h.of
theorem qmq(h:Oo [.b (a==2) false,.b (a==3) true,.r 63 [cI b,cI 1,cI 10] [cB q],.n q true]):
 Rt 64 [.agg (nd a b c A)] [cB false]:=
 h.of
theorem qmr(h:Oo [.b (a==2) false,.b (a==3) true,.r 63 [cI b,cI 1,cI 10] [cB q],.n q false,.a .wr,.r 63 [cI c,cI 0,cI (IntKind.i64.wrap (b-1))] [cB r],.n r true]):
 Rt 64 [.agg (nd a b c A)] [cB false]:=
 h.of
theorem qms(h:Oo [.b (a==2) false,.b (a==3) true,.r 63 [cI b,cI 1,cI 10] [cB q],.n q false,.a .wr,.r 63 [cI c,cI 0,cI (IntKind.i64.wrap (b-1))] [cB r],.n r false,.b (decide ((A.length:Int)>2)) true]):
 Rt 64 [.agg (nd a b c A)] [cB false]:=
 h.of
theorem qmt(h:Oo [.b (a==2) false,.b (a==3) true,.r 63 [cI b,cI 1,cI 10] [cB q],.n q false,.a .wr,.r 63 [cI c,cI 0,cI (IntKind.i64.wrap (b-1))] [cB r],.n r false,.b (decide ((A.length:Int)>2)) false,.b (a==8) true,.b (decide ((A.length:Int)>0)) true]):
 Rt 64 [.agg (nd a b c A)] [cB false]:=
 h.of
theorem qmu(h:Oo [.b (a==2) false,.b (a==3) true,.r 63 [cI b,cI 1,cI 10] [cB q],.n q false,.a .wr,.r 63 [cI c,cI 0,cI (IntKind.i64.wrap (b-1))] [cB r],.n r false,.b (decide ((A.length:Int)>2)) false,.b (a==8) true,.b (decide ((A.length:Int)>0)) false,.b ((A.length:Int)==2) true,.p ((0:Int)≤0),.p (0<(A.length:Int)),.e A 0 [I d],.p ((0:Int)≤1),.p (1<(A.length:Int)),.e A 1 [I e],.b (d==e) true]):
 Rt 64 [.agg (nd a b c A)] [cB false]:=
 h.of
theorem qmv(h:Oo [.b (a==2) false,.b (a==3) true,.r 63 [cI b,cI 1,cI 10] [cB q],.n q false,.a .wr,.r 63 [cI c,cI 0,cI (IntKind.i64.wrap (b-1))] [cB r],.n r false,.b (decide ((A.length:Int)>2)) false,.b (a==8) true,.b (decide ((A.length:Int)>0)) false,.b ((A.length:Int)==2) true,.p ((0:Int)≤0),.p (0<(A.length:Int)),.e A 0 [I d],.p ((0:Int)≤1),.p (1<(A.length:Int)),.e A 1 [I e],.b (d==e) false,.l [] [93,92,91] [] (qab Try.f64 0) (qaf A 0) .ret (qan s)]):
 Rt 64 [.agg (nd a b c A)] [cB s]:=
 h.of
theorem qmw(h:Oo [.b (a==2) false,.b (a==3) true,.r 63 [cI b,cI 1,cI 10] [cB q],.n q false,.a .wr,.r 63 [cI c,cI 0,cI (IntKind.i64.wrap (b-1))] [cB r],.n r false,.b (decide ((A.length:Int)>2)) false,.b (a==8) true,.b (decide ((A.length:Int)>0)) false,.b ((A.length:Int)==2) true,.p ((0:Int)≤0),.p (0<(A.length:Int)),.e A 0 [I d],.p ((0:Int)≤1),.p (1<(A.length:Int)),.e A 1 [I e],.b (d==e) false,.l [] [93,92,91] [] (qab Try.f64 0) (qaf A 0) (.exit 1) qao]):
 Rt 64 [.agg (nd a b c A)] [cB true]:=
 h.of
theorem qmx(h:Oo [.b (a==2) false,.b (a==3) true,.r 63 [cI b,cI 1,cI 10] [cB q],.n q false,.a .wr,.r 63 [cI c,cI 0,cI (IntKind.i64.wrap (b-1))] [cB r],.n r false,.b (decide ((A.length:Int)>2)) false,.b (a==8) true,.b (decide ((A.length:Int)>0)) false,.b ((A.length:Int)==2) false,.l [] [93,92,91] [] (qab Try.f64 0) (qaf A 0) .ret (qan s)]):
 Rt 64 [.agg (nd a b c A)] [cB s]:=
 h.of
theorem qmy(h:Oo [.b (a==2) false,.b (a==3) true,.r 63 [cI b,cI 1,cI 10] [cB q],.n q false,.a .wr,.r 63 [cI c,cI 0,cI (IntKind.i64.wrap (b-1))] [cB r],.n r false,.b (decide ((A.length:Int)>2)) false,.b (a==8) true,.b (decide ((A.length:Int)>0)) false,.b ((A.length:Int)==2) false,.l [] [93,92,91] [] (qab Try.f64 0) (qaf A 0) (.exit 1) qao]):
 Rt 64 [.agg (nd a b c A)] [cB true]:=
 h.of
theorem qmz(h:Oo [.b (a==2) false,.b (a==3) true,.r 63 [cI b,cI 1,cI 10] [cB q],.n q false,.a .wr,.r 63 [cI c,cI 0,cI (IntKind.i64.wrap (b-1))] [cB r],.n r false,.b (decide ((A.length:Int)>2)) false,.b (a==8) false,.b ((A.length:Int)==2) true,.p ((0:Int)≤0),.p (0<(A.length:Int)),.e A 0 [I d],.p ((0:Int)≤1),.p (1<(A.length:Int)),.e A 1 [I e],.b (d==e) true]):
 Rt 64 [.agg (nd a b c A)] [cB false]:=
 h.of
theorem qmA(h:Oo [.b (a==2) false,.b (a==3) true,.r 63 [cI b,cI 1,cI 10] [cB q],.n q false,.a .wr,.r 63 [cI c,cI 0,cI (IntKind.i64.wrap (b-1))] [cB r],.n r false,.b (decide ((A.length:Int)>2)) false,.b (a==8) false,.b ((A.length:Int)==2) true,.p ((0:Int)≤0),.p (0<(A.length:Int)),.e A 0 [I d],.p ((0:Int)≤1),.p (1<(A.length:Int)),.e A 1 [I e],.b (d==e) false,.l [] [93,92,91] [] (qab Try.f64 0) (qaf A 0) .ret (qan s)]):
 Rt 64 [.agg (nd a b c A)] [cB s]:=
 h.of
theorem qmB(h:Oo [.b (a==2) false,.b (a==3) true,.r 63 [cI b,cI 1,cI 10] [cB q],.n q false,.a .wr,.r 63 [cI c,cI 0,cI (IntKind.i64.wrap (b-1))] [cB r],.n r false,.b (decide ((A.length:Int)>2)) false,.b (a==8) false,.b ((A.length:Int)==2) true,.p ((0:Int)≤0),.p (0<(A.length:Int)),.e A 0 [I d],.p ((0:Int)≤1),.p (1<(A.length:Int)),.e A 1 [I e],.b (d==e) false,.l [] [93,92,91] [] (qab Try.f64 0) (qaf A 0) (.exit 1) qao]):
 Rt 64 [.agg (nd a b c A)] [cB true]:=
 h.of
theorem qmC(h:Oo [.b (a==2) false,.b (a==3) true,.r 63 [cI b,cI 1,cI 10] [cB q],.n q false,.a .wr,.r 63 [cI c,cI 0,cI (IntKind.i64.wrap (b-1))] [cB r],.n r false,.b (decide ((A.length:Int)>2)) false,.b (a==8) false,.b ((A.length:Int)==2) false,.l [] [93,92,91] [] (qab Try.f64 0) (qaf A 0) .ret (qan s)]):
 Rt 64 [.agg (nd a b c A)] [cB s]:=
 h.of
theorem qmD(h:Oo [.b (a==2) false,.b (a==3) true,.r 63 [cI b,cI 1,cI 10] [cB q],.n q false,.a .wr,.r 63 [cI c,cI 0,cI (IntKind.i64.wrap (b-1))] [cB r],.n r false,.b (decide ((A.length:Int)>2)) false,.b (a==8) false,.b ((A.length:Int)==2) false,.l [] [93,92,91] [] (qab Try.f64 0) (qaf A 0) (.exit 1) qao]):
 Rt 64 [.agg (nd a b c A)] [cB true]:=
 h.of
theorem qmE(h:Oo [.b (a==2) false,.b (a==3) false,.b (a==4) true,.r 63 [cI b,cI 0,cI 99] [cB q],.n q true]):
 Rt 64 [.agg (nd a b c A)] [cB false]:=
 h.of
theorem qmF(h:Oo [.b (a==2) false,.b (a==3) false,.b (a==4) true,.r 63 [cI b,cI 0,cI 99] [cB q],.n q false,.b (c != 0) true]):
 Rt 64 [.agg (nd a b c A)] [cB false]:=
 h.of
theorem qmG(h:Oo [.b (a==2) false,.b (a==3) false,.b (a==4) true,.r 63 [cI b,cI 0,cI 99] [cB q],.n q false,.b (c != 0) false,.b (decide ((A.length:Int)>2)) true]):
 Rt 64 [.agg (nd a b c A)] [cB false]:=
 h.of
theorem qmH(h:Oo [.b (a==2) false,.b (a==3) false,.b (a==4) true,.r 63 [cI b,cI 0,cI 99] [cB q],.n q false,.b (c != 0) false,.b (decide ((A.length:Int)>2)) false,.b (a==8) true,.b (decide ((A.length:Int)>0)) true]):
 Rt 64 [.agg (nd a b c A)] [cB false]:=
 h.of
theorem qmI(h:Oo [.b (a==2) false,.b (a==3) false,.b (a==4) true,.r 63 [cI b,cI 0,cI 99] [cB q],.n q false,.b (c != 0) false,.b (decide ((A.length:Int)>2)) false,.b (a==8) true,.b (decide ((A.length:Int)>0)) false,.b ((A.length:Int)==2) true,.p ((0:Int)≤0),.p (0<(A.length:Int)),.e A 0 [I d],.p ((0:Int)≤1),.p (1<(A.length:Int)),.e A 1 [I e],.b (d==e) true]):
 Rt 64 [.agg (nd a b c A)] [cB false]:=
 h.of
theorem qmJ(h:Oo [.b (a==2) false,.b (a==3) false,.b (a==4) true,.r 63 [cI b,cI 0,cI 99] [cB q],.n q false,.b (c != 0) false,.b (decide ((A.length:Int)>2)) false,.b (a==8) true,.b (decide ((A.length:Int)>0)) false,.b ((A.length:Int)==2) true,.p ((0:Int)≤0),.p (0<(A.length:Int)),.e A 0 [I d],.p ((0:Int)≤1),.p (1<(A.length:Int)),.e A 1 [I e],.b (d==e) false,.l [] [93,92,91] [] (qab Try.f64 0) (qaf A 0) .ret (qan r)]):
 Rt 64 [.agg (nd a b c A)] [cB r]:=
 h.of
theorem qmK(h:Oo [.b (a==2) false,.b (a==3) false,.b (a==4) true,.r 63 [cI b,cI 0,cI 99] [cB q],.n q false,.b (c != 0) false,.b (decide ((A.length:Int)>2)) false,.b (a==8) true,.b (decide ((A.length:Int)>0)) false,.b ((A.length:Int)==2) true,.p ((0:Int)≤0),.p (0<(A.length:Int)),.e A 0 [I d],.p ((0:Int)≤1),.p (1<(A.length:Int)),.e A 1 [I e],.b (d==e) false,.l [] [93,92,91] [] (qab Try.f64 0) (qaf A 0) (.exit 1) qao]):
 Rt 64 [.agg (nd a b c A)] [cB true]:=
 h.of
theorem qmL(h:Oo [.b (a==2) false,.b (a==3) false,.b (a==4) true,.r 63 [cI b,cI 0,cI 99] [cB q],.n q false,.b (c != 0) false,.b (decide ((A.length:Int)>2)) false,.b (a==8) true,.b (decide ((A.length:Int)>0)) false,.b ((A.length:Int)==2) false,.l [] [93,92,91] [] (qab Try.f64 0) (qaf A 0) .ret (qan r)]):
 Rt 64 [.agg (nd a b c A)] [cB r]:=
 h.of
theorem qmM(h:Oo [.b (a==2) false,.b (a==3) false,.b (a==4) true,.r 63 [cI b,cI 0,cI 99] [cB q],.n q false,.b (c != 0) false,.b (decide ((A.length:Int)>2)) false,.b (a==8) true,.b (decide ((A.length:Int)>0)) false,.b ((A.length:Int)==2) false,.l [] [93,92,91] [] (qab Try.f64 0) (qaf A 0) (.exit 1) qao]):
 Rt 64 [.agg (nd a b c A)] [cB true]:=
 h.of
theorem qmN(h:Oo [.b (a==2) false,.b (a==3) false,.b (a==4) true,.r 63 [cI b,cI 0,cI 99] [cB q],.n q false,.b (c != 0) false,.b (decide ((A.length:Int)>2)) false,.b (a==8) false,.b ((A.length:Int)==2) true,.p ((0:Int)≤0),.p (0<(A.length:Int)),.e A 0 [I d],.p ((0:Int)≤1),.p (1<(A.length:Int)),.e A 1 [I e],.b (d==e) true]):
 Rt 64 [.agg (nd a b c A)] [cB false]:=
 h.of
theorem qmO(h:Oo [.b (a==2) false,.b (a==3) false,.b (a==4) true,.r 63 [cI b,cI 0,cI 99] [cB q],.n q false,.b (c != 0) false,.b (decide ((A.length:Int)>2)) false,.b (a==8) false,.b ((A.length:Int)==2) true,.p ((0:Int)≤0),.p (0<(A.length:Int)),.e A 0 [I d],.p ((0:Int)≤1),.p (1<(A.length:Int)),.e A 1 [I e],.b (d==e) false,.l [] [93,92,91] [] (qab Try.f64 0) (qaf A 0) .ret (qan r)]):
 Rt 64 [.agg (nd a b c A)] [cB r]:=
 h.of
theorem qmP(h:Oo [.b (a==2) false,.b (a==3) false,.b (a==4) true,.r 63 [cI b,cI 0,cI 99] [cB q],.n q false,.b (c != 0) false,.b (decide ((A.length:Int)>2)) false,.b (a==8) false,.b ((A.length:Int)==2) true,.p ((0:Int)≤0),.p (0<(A.length:Int)),.e A 0 [I d],.p ((0:Int)≤1),.p (1<(A.length:Int)),.e A 1 [I e],.b (d==e) false,.l [] [93,92,91] [] (qab Try.f64 0) (qaf A 0) (.exit 1) qao]):
 Rt 64 [.agg (nd a b c A)] [cB true]:=
 h.of
theorem qmQ(h:Oo [.b (a==2) false,.b (a==3) false,.b (a==4) true,.r 63 [cI b,cI 0,cI 99] [cB q],.n q false,.b (c != 0) false,.b (decide ((A.length:Int)>2)) false,.b (a==8) false,.b ((A.length:Int)==2) false,.l [] [93,92,91] [] (qab Try.f64 0) (qaf A 0) .ret (qan r)]):
 Rt 64 [.agg (nd a b c A)] [cB r]:=
 h.of
theorem qmR(h:Oo [.b (a==2) false,.b (a==3) false,.b (a==4) true,.r 63 [cI b,cI 0,cI 99] [cB q],.n q false,.b (c != 0) false,.b (decide ((A.length:Int)>2)) false,.b (a==8) false,.b ((A.length:Int)==2) false,.l [] [93,92,91] [] (qab Try.f64 0) (qaf A 0) (.exit 1) qao]):
 Rt 64 [.agg (nd a b c A)] [cB true]:=
 h.of
theorem qmS(h:Oo [.b (a==2) false,.b (a==3) false,.b (a==4) false,.b (a==1) true,.b (a==1) true,.b (b != 0) true]):
 Rt 64 [.agg (nd a b c A)] [cB false]:=
 h.of
theorem qmT(h:Oo [.b (a==2) false,.b (a==3) false,.b (a==4) false,.b (a==1) true,.b (a==1) true,.b (b != 0) false,.b (c != 0) true]):
 Rt 64 [.agg (nd a b c A)] [cB false]:=
 h.of
theorem qmU(h:Oo [.b (a==2) false,.b (a==3) false,.b (a==4) false,.b (a==1) true,.b (a==1) true,.b (b != 0) false,.b (c != 0) false,.b (decide ((A.length:Int)>2)) true]):
 Rt 64 [.agg (nd a b c A)] [cB false]:=
 h.of
theorem qmV(h:Oo [.b (a==2) false,.b (a==3) false,.b (a==4) false,.b (a==1) true,.b (a==1) true,.b (b != 0) false,.b (c != 0) false,.b (decide ((A.length:Int)>2)) false,.b (a==8) true,.b (decide ((A.length:Int)>0)) true]):
 Rt 64 [.agg (nd a b c A)] [cB false]:=
 h.of
theorem qmW(h:Oo [.b (a==2) false,.b (a==3) false,.b (a==4) false,.b (a==1) true,.b (a==1) true,.b (b != 0) false,.b (c != 0) false,.b (decide ((A.length:Int)>2)) false,.b (a==8) true,.b (decide ((A.length:Int)>0)) false,.b ((A.length:Int)==2) true,.p ((0:Int)≤0),.p (0<(A.length:Int)),.e A 0 [I d],.p ((0:Int)≤1),.p (1<(A.length:Int)),.e A 1 [I e],.b (d==e) true]):
 Rt 64 [.agg (nd a b c A)] [cB false]:=
 h.of
theorem qmX(h:Oo [.b (a==2) false,.b (a==3) false,.b (a==4) false,.b (a==1) true,.b (a==1) true,.b (b != 0) false,.b (c != 0) false,.b (decide ((A.length:Int)>2)) false,.b (a==8) true,.b (decide ((A.length:Int)>0)) false,.b ((A.length:Int)==2) true,.p ((0:Int)≤0),.p (0<(A.length:Int)),.e A 0 [I d],.p ((0:Int)≤1),.p (1<(A.length:Int)),.e A 1 [I e],.b (d==e) false,.l [] [93,92,91] [] (qab Try.f64 0) (qaf A 0) .ret (qan q)]):
 Rt 64 [.agg (nd a b c A)] [cB q]:=
 h.of
theorem qmY(h:Oo [.b (a==2) false,.b (a==3) false,.b (a==4) false,.b (a==1) true,.b (a==1) true,.b (b != 0) false,.b (c != 0) false,.b (decide ((A.length:Int)>2)) false,.b (a==8) true,.b (decide ((A.length:Int)>0)) false,.b ((A.length:Int)==2) true,.p ((0:Int)≤0),.p (0<(A.length:Int)),.e A 0 [I d],.p ((0:Int)≤1),.p (1<(A.length:Int)),.e A 1 [I e],.b (d==e) false,.l [] [93,92,91] [] (qab Try.f64 0) (qaf A 0) (.exit 1) qao]):
 Rt 64 [.agg (nd a b c A)] [cB true]:=
 h.of
theorem qmZ(h:Oo [.b (a==2) false,.b (a==3) false,.b (a==4) false,.b (a==1) true,.b (a==1) true,.b (b != 0) false,.b (c != 0) false,.b (decide ((A.length:Int)>2)) false,.b (a==8) true,.b (decide ((A.length:Int)>0)) false,.b ((A.length:Int)==2) false,.l [] [93,92,91] [] (qab Try.f64 0) (qaf A 0) .ret (qan q)]):
 Rt 64 [.agg (nd a b c A)] [cB q]:=
 h.of
theorem qm0(h:Oo [.b (a==2) false,.b (a==3) false,.b (a==4) false,.b (a==1) true,.b (a==1) true,.b (b != 0) false,.b (c != 0) false,.b (decide ((A.length:Int)>2)) false,.b (a==8) true,.b (decide ((A.length:Int)>0)) false,.b ((A.length:Int)==2) false,.l [] [93,92,91] [] (qab Try.f64 0) (qaf A 0) (.exit 1) qao]):
 Rt 64 [.agg (nd a b c A)] [cB true]:=
 h.of
theorem qm1(h:Oo [.b (a==2) false,.b (a==3) false,.b (a==4) false,.b (a==1) true,.b (a==1) true,.b (b != 0) false,.b (c != 0) false,.b (decide ((A.length:Int)>2)) false,.b (a==8) false,.b ((A.length:Int)==2) true,.p ((0:Int)≤0),.p (0<(A.length:Int)),.e A 0 [I d],.p ((0:Int)≤1),.p (1<(A.length:Int)),.e A 1 [I e],.b (d==e) true]):
 Rt 64 [.agg (nd a b c A)] [cB false]:=
 h.of
theorem qm2(h:Oo [.b (a==2) false,.b (a==3) false,.b (a==4) false,.b (a==1) true,.b (a==1) true,.b (b != 0) false,.b (c != 0) false,.b (decide ((A.length:Int)>2)) false,.b (a==8) false,.b ((A.length:Int)==2) true,.p ((0:Int)≤0),.p (0<(A.length:Int)),.e A 0 [I d],.p ((0:Int)≤1),.p (1<(A.length:Int)),.e A 1 [I e],.b (d==e) false,.l [] [93,92,91] [] (qab Try.f64 0) (qaf A 0) .ret (qan q)]):
 Rt 64 [.agg (nd a b c A)] [cB q]:=
 h.of
theorem qm3(h:Oo [.b (a==2) false,.b (a==3) false,.b (a==4) false,.b (a==1) true,.b (a==1) true,.b (b != 0) false,.b (c != 0) false,.b (decide ((A.length:Int)>2)) false,.b (a==8) false,.b ((A.length:Int)==2) true,.p ((0:Int)≤0),.p (0<(A.length:Int)),.e A 0 [I d],.p ((0:Int)≤1),.p (1<(A.length:Int)),.e A 1 [I e],.b (d==e) false,.l [] [93,92,91] [] (qab Try.f64 0) (qaf A 0) (.exit 1) qao]):
 Rt 64 [.agg (nd a b c A)] [cB true]:=
 h.of
theorem qm4(h:Oo [.b (a==2) false,.b (a==3) false,.b (a==4) false,.b (a==1) true,.b (a==1) true,.b (b != 0) false,.b (c != 0) false,.b (decide ((A.length:Int)>2)) false,.b (a==8) false,.b ((A.length:Int)==2) false,.l [] [93,92,91] [] (qab Try.f64 0) (qaf A 0) .ret (qan q)]):
 Rt 64 [.agg (nd a b c A)] [cB q]:=
 h.of
theorem qm5(h:Oo [.b (a==2) false,.b (a==3) false,.b (a==4) false,.b (a==1) true,.b (a==1) true,.b (b != 0) false,.b (c != 0) false,.b (decide ((A.length:Int)>2)) false,.b (a==8) false,.b ((A.length:Int)==2) false,.l [] [93,92,91] [] (qab Try.f64 0) (qaf A 0) (.exit 1) qao]):
 Rt 64 [.agg (nd a b c A)] [cB true]:=
 h.of
theorem qm6(h:Oo [.b (a==2) false,.b (a==3) false,.b (a==4) false,.b (a==1) false,.b (a==5) true,.b (a==5) true,.b (b != 0) true]):
 Rt 64 [.agg (nd a b c A)] [cB false]:=
 h.of
theorem qm7(h:Oo [.b (a==2) false,.b (a==3) false,.b (a==4) false,.b (a==1) false,.b (a==5) true,.b (a==5) true,.b (b != 0) false,.b (c != 0) true]):
 Rt 64 [.agg (nd a b c A)] [cB false]:=
 h.of
theorem qm8(h:Oo [.b (a==2) false,.b (a==3) false,.b (a==4) false,.b (a==1) false,.b (a==5) true,.b (a==5) true,.b (b != 0) false,.b (c != 0) false,.b (decide ((A.length:Int)>2)) true]):
 Rt 64 [.agg (nd a b c A)] [cB false]:=
 h.of
theorem qm9(h:Oo [.b (a==2) false,.b (a==3) false,.b (a==4) false,.b (a==1) false,.b (a==5) true,.b (a==5) true,.b (b != 0) false,.b (c != 0) false,.b (decide ((A.length:Int)>2)) false,.b (a==8) true,.b (decide ((A.length:Int)>0)) true]):
 Rt 64 [.agg (nd a b c A)] [cB false]:=
 h.of
theorem qna(h:Oo [.b (a==2) false,.b (a==3) false,.b (a==4) false,.b (a==1) false,.b (a==5) true,.b (a==5) true,.b (b != 0) false,.b (c != 0) false,.b (decide ((A.length:Int)>2)) false,.b (a==8) true,.b (decide ((A.length:Int)>0)) false,.b ((A.length:Int)==2) true,.p ((0:Int)≤0),.p (0<(A.length:Int)),.e A 0 [I d],.p ((0:Int)≤1),.p (1<(A.length:Int)),.e A 1 [I e],.b (d==e) true]):
 Rt 64 [.agg (nd a b c A)] [cB false]:=
 h.of
theorem qnb(h:Oo [.b (a==2) false,.b (a==3) false,.b (a==4) false,.b (a==1) false,.b (a==5) true,.b (a==5) true,.b (b != 0) false,.b (c != 0) false,.b (decide ((A.length:Int)>2)) false,.b (a==8) true,.b (decide ((A.length:Int)>0)) false,.b ((A.length:Int)==2) true,.p ((0:Int)≤0),.p (0<(A.length:Int)),.e A 0 [I d],.p ((0:Int)≤1),.p (1<(A.length:Int)),.e A 1 [I e],.b (d==e) false,.l [] [93,92,91] [] (qab Try.f64 0) (qaf A 0) .ret (qan q)]):
 Rt 64 [.agg (nd a b c A)] [cB q]:=
 h.of
theorem qnc(h:Oo [.b (a==2) false,.b (a==3) false,.b (a==4) false,.b (a==1) false,.b (a==5) true,.b (a==5) true,.b (b != 0) false,.b (c != 0) false,.b (decide ((A.length:Int)>2)) false,.b (a==8) true,.b (decide ((A.length:Int)>0)) false,.b ((A.length:Int)==2) true,.p ((0:Int)≤0),.p (0<(A.length:Int)),.e A 0 [I d],.p ((0:Int)≤1),.p (1<(A.length:Int)),.e A 1 [I e],.b (d==e) false,.l [] [93,92,91] [] (qab Try.f64 0) (qaf A 0) (.exit 1) qao]):
 Rt 64 [.agg (nd a b c A)] [cB true]:=
 h.of
theorem qnd(h:Oo [.b (a==2) false,.b (a==3) false,.b (a==4) false,.b (a==1) false,.b (a==5) true,.b (a==5) true,.b (b != 0) false,.b (c != 0) false,.b (decide ((A.length:Int)>2)) false,.b (a==8) true,.b (decide ((A.length:Int)>0)) false,.b ((A.length:Int)==2) false,.l [] [93,92,91] [] (qab Try.f64 0) (qaf A 0) .ret (qan q)]):
 Rt 64 [.agg (nd a b c A)] [cB q]:=
 h.of
theorem qne(h:Oo [.b (a==2) false,.b (a==3) false,.b (a==4) false,.b (a==1) false,.b (a==5) true,.b (a==5) true,.b (b != 0) false,.b (c != 0) false,.b (decide ((A.length:Int)>2)) false,.b (a==8) true,.b (decide ((A.length:Int)>0)) false,.b ((A.length:Int)==2) false,.l [] [93,92,91] [] (qab Try.f64 0) (qaf A 0) (.exit 1) qao]):
 Rt 64 [.agg (nd a b c A)] [cB true]:=
 h.of
theorem qnf(h:Oo [.b (a==2) false,.b (a==3) false,.b (a==4) false,.b (a==1) false,.b (a==5) true,.b (a==5) true,.b (b != 0) false,.b (c != 0) false,.b (decide ((A.length:Int)>2)) false,.b (a==8) false,.b ((A.length:Int)==2) true,.p ((0:Int)≤0),.p (0<(A.length:Int)),.e A 0 [I d],.p ((0:Int)≤1),.p (1<(A.length:Int)),.e A 1 [I e],.b (d==e) true]):
 Rt 64 [.agg (nd a b c A)] [cB false]:=
 h.of
theorem qng(h:Oo [.b (a==2) false,.b (a==3) false,.b (a==4) false,.b (a==1) false,.b (a==5) true,.b (a==5) true,.b (b != 0) false,.b (c != 0) false,.b (decide ((A.length:Int)>2)) false,.b (a==8) false,.b ((A.length:Int)==2) true,.p ((0:Int)≤0),.p (0<(A.length:Int)),.e A 0 [I d],.p ((0:Int)≤1),.p (1<(A.length:Int)),.e A 1 [I e],.b (d==e) false,.l [] [93,92,91] [] (qab Try.f64 0) (qaf A 0) .ret (qan q)]):
 Rt 64 [.agg (nd a b c A)] [cB q]:=
 h.of
theorem qnh(h:Oo [.b (a==2) false,.b (a==3) false,.b (a==4) false,.b (a==1) false,.b (a==5) true,.b (a==5) true,.b (b != 0) false,.b (c != 0) false,.b (decide ((A.length:Int)>2)) false,.b (a==8) false,.b ((A.length:Int)==2) true,.p ((0:Int)≤0),.p (0<(A.length:Int)),.e A 0 [I d],.p ((0:Int)≤1),.p (1<(A.length:Int)),.e A 1 [I e],.b (d==e) false,.l [] [93,92,91] [] (qab Try.f64 0) (qaf A 0) (.exit 1) qao]):
 Rt 64 [.agg (nd a b c A)] [cB true]:=
 h.of
theorem qni(h:Oo [.b (a==2) false,.b (a==3) false,.b (a==4) false,.b (a==1) false,.b (a==5) true,.b (a==5) true,.b (b != 0) false,.b (c != 0) false,.b (decide ((A.length:Int)>2)) false,.b (a==8) false,.b ((A.length:Int)==2) false,.l [] [93,92,91] [] (qab Try.f64 0) (qaf A 0) .ret (qan q)]):
 Rt 64 [.agg (nd a b c A)] [cB q]:=
 h.of
theorem qnj(h:Oo [.b (a==2) false,.b (a==3) false,.b (a==4) false,.b (a==1) false,.b (a==5) true,.b (a==5) true,.b (b != 0) false,.b (c != 0) false,.b (decide ((A.length:Int)>2)) false,.b (a==8) false,.b ((A.length:Int)==2) false,.l [] [93,92,91] [] (qab Try.f64 0) (qaf A 0) (.exit 1) qao]):
 Rt 64 [.agg (nd a b c A)] [cB true]:=
 h.of
theorem qnk(h:Oo [.b (a==2) false,.b (a==3) false,.b (a==4) false,.b (a==1) false,.b (a==5) false,.b (a==6) true,.b (a==6) true,.b (b != 0) true]):
 Rt 64 [.agg (nd a b c A)] [cB false]:=
 h.of
theorem qnl(h:Oo [.b (a==2) false,.b (a==3) false,.b (a==4) false,.b (a==1) false,.b (a==5) false,.b (a==6) true,.b (a==6) true,.b (b != 0) false,.b (c != 0) true]):
 Rt 64 [.agg (nd a b c A)] [cB false]:=
 h.of
theorem qnm(h:Oo [.b (a==2) false,.b (a==3) false,.b (a==4) false,.b (a==1) false,.b (a==5) false,.b (a==6) true,.b (a==6) true,.b (b != 0) false,.b (c != 0) false,.b (decide ((A.length:Int)>2)) true]):
 Rt 64 [.agg (nd a b c A)] [cB false]:=
 h.of
theorem qnn(h:Oo [.b (a==2) false,.b (a==3) false,.b (a==4) false,.b (a==1) false,.b (a==5) false,.b (a==6) true,.b (a==6) true,.b (b != 0) false,.b (c != 0) false,.b (decide ((A.length:Int)>2)) false,.b (a==8) true,.b (decide ((A.length:Int)>0)) true]):
 Rt 64 [.agg (nd a b c A)] [cB false]:=
 h.of
theorem qno(h:Oo [.b (a==2) false,.b (a==3) false,.b (a==4) false,.b (a==1) false,.b (a==5) false,.b (a==6) true,.b (a==6) true,.b (b != 0) false,.b (c != 0) false,.b (decide ((A.length:Int)>2)) false,.b (a==8) true,.b (decide ((A.length:Int)>0)) false,.b ((A.length:Int)==2) true,.p ((0:Int)≤0),.p (0<(A.length:Int)),.e A 0 [I d],.p ((0:Int)≤1),.p (1<(A.length:Int)),.e A 1 [I e],.b (d==e) true]):
 Rt 64 [.agg (nd a b c A)] [cB false]:=
 h.of
theorem qnp(h:Oo [.b (a==2) false,.b (a==3) false,.b (a==4) false,.b (a==1) false,.b (a==5) false,.b (a==6) true,.b (a==6) true,.b (b != 0) false,.b (c != 0) false,.b (decide ((A.length:Int)>2)) false,.b (a==8) true,.b (decide ((A.length:Int)>0)) false,.b ((A.length:Int)==2) true,.p ((0:Int)≤0),.p (0<(A.length:Int)),.e A 0 [I d],.p ((0:Int)≤1),.p (1<(A.length:Int)),.e A 1 [I e],.b (d==e) false,.l [] [93,92,91] [] (qab Try.f64 0) (qaf A 0) .ret (qan q)]):
 Rt 64 [.agg (nd a b c A)] [cB q]:=
 h.of
theorem qnq(h:Oo [.b (a==2) false,.b (a==3) false,.b (a==4) false,.b (a==1) false,.b (a==5) false,.b (a==6) true,.b (a==6) true,.b (b != 0) false,.b (c != 0) false,.b (decide ((A.length:Int)>2)) false,.b (a==8) true,.b (decide ((A.length:Int)>0)) false,.b ((A.length:Int)==2) true,.p ((0:Int)≤0),.p (0<(A.length:Int)),.e A 0 [I d],.p ((0:Int)≤1),.p (1<(A.length:Int)),.e A 1 [I e],.b (d==e) false,.l [] [93,92,91] [] (qab Try.f64 0) (qaf A 0) (.exit 1) qao]):
 Rt 64 [.agg (nd a b c A)] [cB true]:=
 h.of
theorem qnr(h:Oo [.b (a==2) false,.b (a==3) false,.b (a==4) false,.b (a==1) false,.b (a==5) false,.b (a==6) true,.b (a==6) true,.b (b != 0) false,.b (c != 0) false,.b (decide ((A.length:Int)>2)) false,.b (a==8) true,.b (decide ((A.length:Int)>0)) false,.b ((A.length:Int)==2) false,.l [] [93,92,91] [] (qab Try.f64 0) (qaf A 0) .ret (qan q)]):
 Rt 64 [.agg (nd a b c A)] [cB q]:=
 h.of
theorem qns(h:Oo [.b (a==2) false,.b (a==3) false,.b (a==4) false,.b (a==1) false,.b (a==5) false,.b (a==6) true,.b (a==6) true,.b (b != 0) false,.b (c != 0) false,.b (decide ((A.length:Int)>2)) false,.b (a==8) true,.b (decide ((A.length:Int)>0)) false,.b ((A.length:Int)==2) false,.l [] [93,92,91] [] (qab Try.f64 0) (qaf A 0) (.exit 1) qao]):
 Rt 64 [.agg (nd a b c A)] [cB true]:=
 h.of
theorem qnt(h:Oo [.b (a==2) false,.b (a==3) false,.b (a==4) false,.b (a==1) false,.b (a==5) false,.b (a==6) true,.b (a==6) true,.b (b != 0) false,.b (c != 0) false,.b (decide ((A.length:Int)>2)) false,.b (a==8) false,.b ((A.length:Int)==2) true,.p ((0:Int)≤0),.p (0<(A.length:Int)),.e A 0 [I d],.p ((0:Int)≤1),.p (1<(A.length:Int)),.e A 1 [I e],.b (d==e) true]):
 Rt 64 [.agg (nd a b c A)] [cB false]:=
 h.of
theorem qnu(h:Oo [.b (a==2) false,.b (a==3) false,.b (a==4) false,.b (a==1) false,.b (a==5) false,.b (a==6) true,.b (a==6) true,.b (b != 0) false,.b (c != 0) false,.b (decide ((A.length:Int)>2)) false,.b (a==8) false,.b ((A.length:Int)==2) true,.p ((0:Int)≤0),.p (0<(A.length:Int)),.e A 0 [I d],.p ((0:Int)≤1),.p (1<(A.length:Int)),.e A 1 [I e],.b (d==e) false,.l [] [93,92,91] [] (qab Try.f64 0) (qaf A 0) .ret (qan q)]):
 Rt 64 [.agg (nd a b c A)] [cB q]:=
 h.of
theorem qnv(h:Oo [.b (a==2) false,.b (a==3) false,.b (a==4) false,.b (a==1) false,.b (a==5) false,.b (a==6) true,.b (a==6) true,.b (b != 0) false,.b (c != 0) false,.b (decide ((A.length:Int)>2)) false,.b (a==8) false,.b ((A.length:Int)==2) true,.p ((0:Int)≤0),.p (0<(A.length:Int)),.e A 0 [I d],.p ((0:Int)≤1),.p (1<(A.length:Int)),.e A 1 [I e],.b (d==e) false,.l [] [93,92,91] [] (qab Try.f64 0) (qaf A 0) (.exit 1) qao]):
 Rt 64 [.agg (nd a b c A)] [cB true]:=
 h.of
theorem qnw(h:Oo [.b (a==2) false,.b (a==3) false,.b (a==4) false,.b (a==1) false,.b (a==5) false,.b (a==6) true,.b (a==6) true,.b (b != 0) false,.b (c != 0) false,.b (decide ((A.length:Int)>2)) false,.b (a==8) false,.b ((A.length:Int)==2) false,.l [] [93,92,91] [] (qab Try.f64 0) (qaf A 0) .ret (qan q)]):
 Rt 64 [.agg (nd a b c A)] [cB q]:=
 h.of
theorem qnx(h:Oo [.b (a==2) false,.b (a==3) false,.b (a==4) false,.b (a==1) false,.b (a==5) false,.b (a==6) true,.b (a==6) true,.b (b != 0) false,.b (c != 0) false,.b (decide ((A.length:Int)>2)) false,.b (a==8) false,.b ((A.length:Int)==2) false,.l [] [93,92,91] [] (qab Try.f64 0) (qaf A 0) (.exit 1) qao]):
 Rt 64 [.agg (nd a b c A)] [cB true]:=
 h.of
theorem qny(h:Oo [.b (a==2) false,.b (a==3) false,.b (a==4) false,.b (a==1) false,.b (a==5) false,.b (a==6) false,.b (a==7) true,.b (a==7) true,.b (b != 0) true]):
 Rt 64 [.agg (nd a b c A)] [cB false]:=
 h.of
theorem qnz(h:Oo [.b (a==2) false,.b (a==3) false,.b (a==4) false,.b (a==1) false,.b (a==5) false,.b (a==6) false,.b (a==7) true,.b (a==7) true,.b (b != 0) false,.b (c != 0) true]):
 Rt 64 [.agg (nd a b c A)] [cB false]:=
 h.of
theorem qnA(h:Oo [.b (a==2) false,.b (a==3) false,.b (a==4) false,.b (a==1) false,.b (a==5) false,.b (a==6) false,.b (a==7) true,.b (a==7) true,.b (b != 0) false,.b (c != 0) false,.b (decide ((A.length:Int)>2)) true]):
 Rt 64 [.agg (nd a b c A)] [cB false]:=
 h.of
theorem qnB(h:Oo [.b (a==2) false,.b (a==3) false,.b (a==4) false,.b (a==1) false,.b (a==5) false,.b (a==6) false,.b (a==7) true,.b (a==7) true,.b (b != 0) false,.b (c != 0) false,.b (decide ((A.length:Int)>2)) false,.b (a==8) true,.b (decide ((A.length:Int)>0)) true]):
 Rt 64 [.agg (nd a b c A)] [cB false]:=
 h.of
theorem qnC(h:Oo [.b (a==2) false,.b (a==3) false,.b (a==4) false,.b (a==1) false,.b (a==5) false,.b (a==6) false,.b (a==7) true,.b (a==7) true,.b (b != 0) false,.b (c != 0) false,.b (decide ((A.length:Int)>2)) false,.b (a==8) true,.b (decide ((A.length:Int)>0)) false,.b ((A.length:Int)==2) true,.p ((0:Int)≤0),.p (0<(A.length:Int)),.e A 0 [I d],.p ((0:Int)≤1),.p (1<(A.length:Int)),.e A 1 [I e],.b (d==e) true]):
 Rt 64 [.agg (nd a b c A)] [cB false]:=
 h.of
theorem qnD(h:Oo [.b (a==2) false,.b (a==3) false,.b (a==4) false,.b (a==1) false,.b (a==5) false,.b (a==6) false,.b (a==7) true,.b (a==7) true,.b (b != 0) false,.b (c != 0) false,.b (decide ((A.length:Int)>2)) false,.b (a==8) true,.b (decide ((A.length:Int)>0)) false,.b ((A.length:Int)==2) true,.p ((0:Int)≤0),.p (0<(A.length:Int)),.e A 0 [I d],.p ((0:Int)≤1),.p (1<(A.length:Int)),.e A 1 [I e],.b (d==e) false,.l [] [93,92,91] [] (qab Try.f64 0) (qaf A 0) .ret (qan q)]):
 Rt 64 [.agg (nd a b c A)] [cB q]:=
 h.of
theorem qnE(h:Oo [.b (a==2) false,.b (a==3) false,.b (a==4) false,.b (a==1) false,.b (a==5) false,.b (a==6) false,.b (a==7) true,.b (a==7) true,.b (b != 0) false,.b (c != 0) false,.b (decide ((A.length:Int)>2)) false,.b (a==8) true,.b (decide ((A.length:Int)>0)) false,.b ((A.length:Int)==2) true,.p ((0:Int)≤0),.p (0<(A.length:Int)),.e A 0 [I d],.p ((0:Int)≤1),.p (1<(A.length:Int)),.e A 1 [I e],.b (d==e) false,.l [] [93,92,91] [] (qab Try.f64 0) (qaf A 0) (.exit 1) qao]):
 Rt 64 [.agg (nd a b c A)] [cB true]:=
 h.of
theorem qnF(h:Oo [.b (a==2) false,.b (a==3) false,.b (a==4) false,.b (a==1) false,.b (a==5) false,.b (a==6) false,.b (a==7) true,.b (a==7) true,.b (b != 0) false,.b (c != 0) false,.b (decide ((A.length:Int)>2)) false,.b (a==8) true,.b (decide ((A.length:Int)>0)) false,.b ((A.length:Int)==2) false,.l [] [93,92,91] [] (qab Try.f64 0) (qaf A 0) .ret (qan q)]):
 Rt 64 [.agg (nd a b c A)] [cB q]:=
 h.of
theorem qnG(h:Oo [.b (a==2) false,.b (a==3) false,.b (a==4) false,.b (a==1) false,.b (a==5) false,.b (a==6) false,.b (a==7) true,.b (a==7) true,.b (b != 0) false,.b (c != 0) false,.b (decide ((A.length:Int)>2)) false,.b (a==8) true,.b (decide ((A.length:Int)>0)) false,.b ((A.length:Int)==2) false,.l [] [93,92,91] [] (qab Try.f64 0) (qaf A 0) (.exit 1) qao]):
 Rt 64 [.agg (nd a b c A)] [cB true]:=
 h.of
theorem qnH(h:Oo [.b (a==2) false,.b (a==3) false,.b (a==4) false,.b (a==1) false,.b (a==5) false,.b (a==6) false,.b (a==7) true,.b (a==7) true,.b (b != 0) false,.b (c != 0) false,.b (decide ((A.length:Int)>2)) false,.b (a==8) false,.b ((A.length:Int)==2) true,.p ((0:Int)≤0),.p (0<(A.length:Int)),.e A 0 [I d],.p ((0:Int)≤1),.p (1<(A.length:Int)),.e A 1 [I e],.b (d==e) true]):
 Rt 64 [.agg (nd a b c A)] [cB false]:=
 h.of
theorem qnI(h:Oo [.b (a==2) false,.b (a==3) false,.b (a==4) false,.b (a==1) false,.b (a==5) false,.b (a==6) false,.b (a==7) true,.b (a==7) true,.b (b != 0) false,.b (c != 0) false,.b (decide ((A.length:Int)>2)) false,.b (a==8) false,.b ((A.length:Int)==2) true,.p ((0:Int)≤0),.p (0<(A.length:Int)),.e A 0 [I d],.p ((0:Int)≤1),.p (1<(A.length:Int)),.e A 1 [I e],.b (d==e) false,.l [] [93,92,91] [] (qab Try.f64 0) (qaf A 0) .ret (qan q)]):
 Rt 64 [.agg (nd a b c A)] [cB q]:=
 h.of
theorem qnJ(h:Oo [.b (a==2) false,.b (a==3) false,.b (a==4) false,.b (a==1) false,.b (a==5) false,.b (a==6) false,.b (a==7) true,.b (a==7) true,.b (b != 0) false,.b (c != 0) false,.b (decide ((A.length:Int)>2)) false,.b (a==8) false,.b ((A.length:Int)==2) true,.p ((0:Int)≤0),.p (0<(A.length:Int)),.e A 0 [I d],.p ((0:Int)≤1),.p (1<(A.length:Int)),.e A 1 [I e],.b (d==e) false,.l [] [93,92,91] [] (qab Try.f64 0) (qaf A 0) (.exit 1) qao]):
 Rt 64 [.agg (nd a b c A)] [cB true]:=
 h.of
theorem qnK(h:Oo [.b (a==2) false,.b (a==3) false,.b (a==4) false,.b (a==1) false,.b (a==5) false,.b (a==6) false,.b (a==7) true,.b (a==7) true,.b (b != 0) false,.b (c != 0) false,.b (decide ((A.length:Int)>2)) false,.b (a==8) false,.b ((A.length:Int)==2) false,.l [] [93,92,91] [] (qab Try.f64 0) (qaf A 0) .ret (qan q)]):
 Rt 64 [.agg (nd a b c A)] [cB q]:=
 h.of
theorem qnL(h:Oo [.b (a==2) false,.b (a==3) false,.b (a==4) false,.b (a==1) false,.b (a==5) false,.b (a==6) false,.b (a==7) true,.b (a==7) true,.b (b != 0) false,.b (c != 0) false,.b (decide ((A.length:Int)>2)) false,.b (a==8) false,.b ((A.length:Int)==2) false,.l [] [93,92,91] [] (qab Try.f64 0) (qaf A 0) (.exit 1) qao]):
 Rt 64 [.agg (nd a b c A)] [cB true]:=
 h.of
theorem qnM(h:Oo [.b (a==2) false,.b (a==3) false,.b (a==4) false,.b (a==1) false,.b (a==5) false,.b (a==6) false,.b (a==7) false,.b (a==8) true,.b (b != 0) true]):
 Rt 64 [.agg (nd a b c A)] [cB false]:=
 h.of
theorem qnN(h:Oo [.b (a==2) false,.b (a==3) false,.b (a==4) false,.b (a==1) false,.b (a==5) false,.b (a==6) false,.b (a==7) false,.b (a==8) true,.b (b != 0) false,.b (c != 0) true]):
 Rt 64 [.agg (nd a b c A)] [cB false]:=
 h.of
theorem qnO(h:Oo [.b (a==2) false,.b (a==3) false,.b (a==4) false,.b (a==1) false,.b (a==5) false,.b (a==6) false,.b (a==7) false,.b (a==8) true,.b (b != 0) false,.b (c != 0) false,.b (decide ((A.length:Int)>2)) true]):
 Rt 64 [.agg (nd a b c A)] [cB false]:=
 h.of
theorem qnP(h:Oo [.b (a==2) false,.b (a==3) false,.b (a==4) false,.b (a==1) false,.b (a==5) false,.b (a==6) false,.b (a==7) false,.b (a==8) true,.b (b != 0) false,.b (c != 0) false,.b (decide ((A.length:Int)>2)) false,.b (a==8) true,.b (decide ((A.length:Int)>0)) true]):
 Rt 64 [.agg (nd a b c A)] [cB false]:=
 h.of
theorem qnQ(h:Oo [.b (a==2) false,.b (a==3) false,.b (a==4) false,.b (a==1) false,.b (a==5) false,.b (a==6) false,.b (a==7) false,.b (a==8) true,.b (b != 0) false,.b (c != 0) false,.b (decide ((A.length:Int)>2)) false,.b (a==8) true,.b (decide ((A.length:Int)>0)) false,.b ((A.length:Int)==2) true,.p ((0:Int)≤0),.p (0<(A.length:Int)),.e A 0 [I d],.p ((0:Int)≤1),.p (1<(A.length:Int)),.e A 1 [I e],.b (d==e) true]):
 Rt 64 [.agg (nd a b c A)] [cB false]:=
 h.of
theorem qnR(h:Oo [.b (a==2) false,.b (a==3) false,.b (a==4) false,.b (a==1) false,.b (a==5) false,.b (a==6) false,.b (a==7) false,.b (a==8) true,.b (b != 0) false,.b (c != 0) false,.b (decide ((A.length:Int)>2)) false,.b (a==8) true,.b (decide ((A.length:Int)>0)) false,.b ((A.length:Int)==2) true,.p ((0:Int)≤0),.p (0<(A.length:Int)),.e A 0 [I d],.p ((0:Int)≤1),.p (1<(A.length:Int)),.e A 1 [I e],.b (d==e) false,.l [] [93,92,91] [] (qab Try.f64 0) (qaf A 0) .ret (qan q)]):
 Rt 64 [.agg (nd a b c A)] [cB q]:=
 h.of
theorem qnS(h:Oo [.b (a==2) false,.b (a==3) false,.b (a==4) false,.b (a==1) false,.b (a==5) false,.b (a==6) false,.b (a==7) false,.b (a==8) true,.b (b != 0) false,.b (c != 0) false,.b (decide ((A.length:Int)>2)) false,.b (a==8) true,.b (decide ((A.length:Int)>0)) false,.b ((A.length:Int)==2) true,.p ((0:Int)≤0),.p (0<(A.length:Int)),.e A 0 [I d],.p ((0:Int)≤1),.p (1<(A.length:Int)),.e A 1 [I e],.b (d==e) false,.l [] [93,92,91] [] (qab Try.f64 0) (qaf A 0) (.exit 1) qao]):
 Rt 64 [.agg (nd a b c A)] [cB true]:=
 h.of
theorem qnT(h:Oo [.b (a==2) false,.b (a==3) false,.b (a==4) false,.b (a==1) false,.b (a==5) false,.b (a==6) false,.b (a==7) false,.b (a==8) true,.b (b != 0) false,.b (c != 0) false,.b (decide ((A.length:Int)>2)) false,.b (a==8) true,.b (decide ((A.length:Int)>0)) false,.b ((A.length:Int)==2) false,.l [] [93,92,91] [] (qab Try.f64 0) (qaf A 0) .ret (qan q)]):
 Rt 64 [.agg (nd a b c A)] [cB q]:=
 h.of
theorem qnU(h:Oo [.b (a==2) false,.b (a==3) false,.b (a==4) false,.b (a==1) false,.b (a==5) false,.b (a==6) false,.b (a==7) false,.b (a==8) true,.b (b != 0) false,.b (c != 0) false,.b (decide ((A.length:Int)>2)) false,.b (a==8) true,.b (decide ((A.length:Int)>0)) false,.b ((A.length:Int)==2) false,.l [] [93,92,91] [] (qab Try.f64 0) (qaf A 0) (.exit 1) qao]):
 Rt 64 [.agg (nd a b c A)] [cB true]:=
 h.of
theorem qnV(h:Oo [.b (a==2) false,.b (a==3) false,.b (a==4) false,.b (a==1) false,.b (a==5) false,.b (a==6) false,.b (a==7) false,.b (a==8) false]):
 Rt 64 [.agg (nd a b c A)] [cB false]:=
 h.of
end Go.Proofs.Ytenekpkjlgddnaa
