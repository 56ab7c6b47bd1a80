import Derived.Test.YtdanpadojemjeaaGreatRows
import Derived.Test.YtdanpadojemjeaaGreatGE
namespace Go.Proofs.YtdanpadojemjeaaGreat
open Go.Sx Go.RowKit
variable {a b c d e f g : Int} {A : LL} {q r s t : Bool}
theorem qGP(h:Oo [.b (a==2) true,.r 137 [cI b,cI 0,cI 999] [cB r],.r 137 [cI a,cI 1,cI 8] [cB q],.n q true]):
 Rt 220 [.agg (nd a b c A)] [cB false]:=
 h.of
theorem qGQ(h:Oo [.b (a==2) true,.r 137 [cI b,cI 0,cI 999] [cB q],.r 137 [cI a,cI 1,cI 8] [cB r],.n r false,.n q true]):
 Rt 220 [.agg (nd a b c A)] [cB false]:=
 h.of
theorem qGR(h:Oo [.b (a==2) true,.r 137 [cI b,cI 0,cI 999] [cB q],.r 137 [cI a,cI 1,cI 8] [cB r],.n r false,.n q false,.b (!c==0) true]):
 Rt 220 [.agg (nd a b c A)] [cB false]:=
 h.of
theorem qGS(h:Oo [.b (a==2) true,.r 137 [cI b,cI 0,cI 999] [cB q],.r 137 [cI a,cI 1,cI 8] [cB r],.n r false,.n q false,.b (!c==0) false,.b (decide ((A.length:Int)>2)) true]):
 Rt 220 [.agg (nd a b c A)] [cB false]:=
 h.of
theorem qGT(h:Oo [.b (a==2) true,.r 137 [cI b,cI 0,cI 999] [cB q],.r 137 [cI a,cI 1,cI 8] [cB r],.n r false,.n q false,.b (!c==0) false,.b (decide ((A.length:Int)>2)) false,.b (a==8) true,.b (decide ((A.length:Int)>0)) true]):
 Rt 220 [.agg (nd a b c A)] [cB false]:=
 h.of
def qa9(a b c:Int)(A:LL)(d:Int):St:=
 { env:=envOf 93 [(1,vP 1),(5,vI d)],boxes:=[(1,[lI a,lI b,lI c,.sl .free 1 A])] }
def qc2(q:Bool):St:=
 { env:=envOf 93 [(2,.al (.one (.sb q)))],boxes:=[] }
theorem qly(h:Oo [.b (decide (a<(A.length:Int))) true,.p (0≤a),.p (a<(A.length:Int)),.e A a.toNat [I b],.r 137 [cI b,cI 0,cI 7] [cB q],.n q true]):
 Tp (qaa Tryz.f220 0) (qa9 c d e A a) .ret (qc2 false):=
 h.lp [2] []
theorem qGU(h:Oo [.b (decide (a<(A.length:Int))) true,.p (0≤a),.p (a<(A.length:Int)),.e A a.toNat [I c],.r 137 [cI c,cI 0,cI 7] [cB q],.n q false,.b (decide (a>0)) true,.p ((0:Int)≤0),.p (0<(A.length:Int)),.e A 0 [I d],.p ((0:Int)≤1),.p (1<(A.length:Int)),.e A 1 [I b],.b (d==b) true]):
 Tp (qaa Tryz.f220 0) (qa9 e f g A a) .ret (qc2 false):=
 h.lp [2] []
theorem qGV(h:Oo [.b (decide (a<(A.length:Int))) true,.p (0≤a),.p (a<(A.length:Int)),.e A a.toNat [I f],.r 137 [cI f,cI 0,cI 7] [cB q],.n q false,.b (decide (a>0)) true,.p ((0:Int)≤0),.p (0<(A.length:Int)),.e A 0 [I g],.p ((0:Int)≤1),.p (1<(A.length:Int)),.e A 1 [I d],.b (g==d) false,.u a]):
 Tp (qaa Tryz.f220 0) (qa9 b c e A a) .normal (qa9 b c e A (a+1)):=
 h.lp [5,1] [1]
theorem qqc(h:Oo [.b (decide (a<(A.length:Int))) true,.p (0≤a),.p (a<(A.length:Int)),.e A a.toNat [I e],.r 137 [cI e,cI 0,cI 7] [cB q],.n q false,.b (decide (a>0)) false,.u a]):
 Tp (qaa Tryz.f220 0) (qa9 b c d A a) .normal (qa9 b c d A (a+1)):=
 h.lp [5,1] [1]
def qdt:St:=
 { env:=envOf 93 [],boxes:=[] }
theorem qlz(h:Oo [.b (decide (a<(A.length:Int))) false]):
 Tp (qaa Tryz.f220 0) (qa9 b c d A a) (.exit 1) qdt:=
 h.lp [] []
theorem qGW(h:Oo [.b (a==2) true,.r 137 [cI b,cI 0,cI 999] [cB q],.r 137 [cI a,cI 1,cI 8] [cB r],.n r false,.n q false,.b (!c==0) false,.b (decide ((A.length:Int)>2)) false,.b (a==8) true,.b (decide ((A.length:Int)>0)) false,.l [] [5,1] [1] (qaa Tryz.f220 0) (qa9 a b c A 0) .ret (qc2 s)]):
 Rt 220 [.agg (nd a b c A)] [cB s]:=
 h.of
theorem qGX(h:Oo [.b (a==2) true,.r 137 [cI b,cI 0,cI 999] [cB q],.r 137 [cI a,cI 1,cI 8] [cB r],.n r false,.n q false,.b (!c==0) false,.b (decide ((A.length:Int)>2)) false,.b (a==8) true,.b (decide ((A.length:Int)>0)) false,.l [] [5,1] [1] (qaa Tryz.f220 0) (qa9 a b c A 0) (.exit 1) qdt]):
 Rt 220 [.agg (nd a b c A)] [cB true]:=
 h.of
theorem qGY(h:Oo [.b (a==2) true,.r 137 [cI b,cI 0,cI 999] [cB q],.r 137 [cI a,cI 1,cI 8] [cB r],.n r false,.n q false,.b (!c==0) false,.b (decide ((A.length:Int)>2)) false,.b (a==8) false,.l [] [5,1] [1] (qaa Tryz.f220 0) (qa9 a b c A 0) .ret (qc2 s)]):
 Rt 220 [.agg (nd a b c A)] [cB s]:=
 h.of
theorem qGZ(h:Oo [.b (a==2) true,.r 137 [cI b,cI 0,cI 999] [cB q],.r 137 [cI a,cI 1,cI 8] [cB r],.n r false,.n q false,.b (!c==0) false,.b (decide ((A.length:Int)>2)) false,.b (a==8) false,.l [] [5,1] [1] (qaa Tryz.f220 0) (qa9 a b c A 0) (.exit 1) qdt]):
 Rt 220 [.agg (nd a b c A)] [cB true]:=
 h.of
theorem qG0(h:Oo [.b (a==2) false,.b (a==3) true,.r 137 [cI b,cI 1,cI 10] [cB r],.a .wr,.r 137 [cI c,cI 0,cI (IntKind.i64.wrap (b-1))] [cB s],.r 137 [cI a,cI 1,cI 8] [cB q],.n q true]):
 Rt 220 [.agg (nd a b c A)] [cB false]:=
 h.of
theorem qG1(h:Oo [.b (a==2) false,.b (a==3) true,.r 137 [cI b,cI 1,cI 10] [cB q],.a .wr,.r 137 [cI c,cI 0,cI (IntKind.i64.wrap (b-1))] [cB s],.r 137 [cI a,cI 1,cI 8] [cB r],.n r false,.n q true]):
 Rt 220 [.agg (nd a b c A)] [cB false]:=
 h.of
theorem qG2(h:Oo [.b (a==2) false,.b (a==3) true,.r 137 [cI b,cI 1,cI 10] [cB q],.a .wr,.r 137 [cI c,cI 0,cI (IntKind.i64.wrap (b-1))] [cB r],.r 137 [cI a,cI 1,cI 8] [cB s],.n s false,.n q false,.n r true]):
 Rt 220 [.agg (nd a b c A)] [cB false]:=
 h.of
theorem qG3(h:Oo [.b (a==2) false,.b (a==3) true,.r 137 [cI b,cI 1,cI 10] [cB q],.a .wr,.r 137 [cI c,cI 0,cI (IntKind.i64.wrap (b-1))] [cB r],.r 137 [cI a,cI 1,cI 8] [cB s],.n s false,.n q false,.n r false,.b (decide ((A.length:Int)>2)) true]):
 Rt 220 [.agg (nd a b c A)] [cB false]:=
 h.of
theorem qG4(h:Oo [.b (a==2) false,.b (a==3) true,.r 137 [cI b,cI 1,cI 10] [cB q],.a .wr,.r 137 [cI c,cI 0,cI (IntKind.i64.wrap (b-1))] [cB r],.r 137 [cI a,cI 1,cI 8] [cB s],.n s false,.n q false,.n r false,.b (decide ((A.length:Int)>2)) false,.b (a==8) true,.b (decide ((A.length:Int)>0)) true]):
 Rt 220 [.agg (nd a b c A)] [cB false]:=
 h.of
theorem qG5(h:Oo [.b (a==2) false,.b (a==3) true,.r 137 [cI b,cI 1,cI 10] [cB q],.a .wr,.r 137 [cI c,cI 0,cI (IntKind.i64.wrap (b-1))] [cB r],.r 137 [cI a,cI 1,cI 8] [cB s],.n s false,.n q false,.n r false,.b (decide ((A.length:Int)>2)) false,.b (a==8) true,.b (decide ((A.length:Int)>0)) false,.l [] [5,1] [1] (qaa Tryz.f220 0) (qa9 a b c A 0) .ret (qc2 t)]):
 Rt 220 [.agg (nd a b c A)] [cB t]:=
 h.of
theorem qG6(h:Oo [.b (a==2) false,.b (a==3) true,.r 137 [cI b,cI 1,cI 10] [cB q],.a .wr,.r 137 [cI c,cI 0,cI (IntKind.i64.wrap (b-1))] [cB r],.r 137 [cI a,cI 1,cI 8] [cB s],.n s false,.n q false,.n r false,.b (decide ((A.length:Int)>2)) false,.b (a==8) true,.b (decide ((A.length:Int)>0)) false,.l [] [5,1] [1] (qaa Tryz.f220 0) (qa9 a b c A 0) (.exit 1) qdt]):
 Rt 220 [.agg (nd a b c A)] [cB true]:=
 h.of
theorem qG7(h:Oo [.b (a==2) false,.b (a==3) true,.r 137 [cI b,cI 1,cI 10] [cB q],.a .wr,.r 137 [cI c,cI 0,cI (IntKind.i64.wrap (b-1))] [cB r],.r 137 [cI a,cI 1,cI 8] [cB s],.n s false,.n q false,.n r false,.b (decide ((A.length:Int)>2)) false,.b (a==8) false,.l [] [5,1] [1] (qaa Tryz.f220 0) (qa9 a b c A 0) .ret (qc2 t)]):
 Rt 220 [.agg (nd a b c A)] [cB t]:=
 h.of
theorem qG8(h:Oo [.b (a==2) false,.b (a==3) true,.r 137 [cI b,cI 1,cI 10] [cB q],.a .wr,.r 137 [cI c,cI 0,cI (IntKind.i64.wrap (b-1))] [cB r],.r 137 [cI a,cI 1,cI 8] [cB s],.n s false,.n q false,.n r false,.b (decide ((A.length:Int)>2)) false,.b (a==8) false,.l [] [5,1] [1] (qaa Tryz.f220 0) (qa9 a b c A 0) (.exit 1) qdt]):
 Rt 220 [.agg (nd a b c A)] [cB true]:=
 h.of
theorem qG9(h:Oo [.b (a==2) false,.b (a==3) false,.b (a==4) true,.r 137 [cI b,cI 0,cI 99] [cB r],.r 137 [cI a,cI 1,cI 8] [cB q],.n q true]):
 Rt 220 [.agg (nd a b c A)] [cB false]:=
 h.of
theorem qHa(h:Oo [.b (a==2) false,.b (a==3) false,.b (a==4) true,.r 137 [cI b,cI 0,cI 99] [cB q],.r 137 [cI a,cI 1,cI 8] [cB r],.n r false,.n q true]):
 Rt 220 [.agg (nd a b c A)] [cB false]:=
 h.of
theorem qHb(h:Oo [.b (a==2) false,.b (a==3) false,.b (a==4) true,.r 137 [cI b,cI 0,cI 99] [cB q],.r 137 [cI a,cI 1,cI 8] [cB r],.n r false,.n q false,.b (!c==0) true]):
 Rt 220 [.agg (nd a b c A)] [cB false]:=
 h.of
theorem qHc(h:Oo [.b (a==2) false,.b (a==3) false,.b (a==4) true,.r 137 [cI b,cI 0,cI 99] [cB q],.r 137 [cI a,cI 1,cI 8] [cB r],.n r false,.n q false,.b (!c==0) false,.b (decide ((A.length:Int)>2)) true]):
 Rt 220 [.agg (nd a b c A)] [cB false]:=
 h.of
theorem qHd(h:Oo [.b (a==2) false,.b (a==3) false,.b (a==4) true,.r 137 [cI b,cI 0,cI 99] [cB q],.r 137 [cI a,cI 1,cI 8] [cB r],.n r false,.n q false,.b (!c==0) false,.b (decide ((A.length:Int)>2)) false,.b (a==8) true,.b (decide ((A.length:Int)>0)) true]):
 Rt 220 [.agg (nd a b c A)] [cB false]:=
 h.of
theorem qHe(h:Oo [.b (a==2) false,.b (a==3) false,.b (a==4) true,.r 137 [cI b,cI 0,cI 99] [cB q],.r 137 [cI a,cI 1,cI 8] [cB r],.n r false,.n q false,.b (!c==0) false,.b (decide ((A.length:Int)>2)) false,.b (a==8) true,.b (decide ((A.length:Int)>0)) false,.l [] [5,1] [1] (qaa Tryz.f220 0) (qa9 a b c A 0) .ret (qc2 s)]):
 Rt 220 [.agg (nd a b c A)] [cB s]:=
 h.of
theorem qHf(h:Oo [.b (a==2) false,.b (a==3) false,.b (a==4) true,.r 137 [cI b,cI 0,cI 99] [cB q],.r 137 [cI a,cI 1,cI 8] [cB r],.n r false,.n q false,.b (!c==0) false,.b (decide ((A.length:Int)>2)) false,.b (a==8) true,.b (decide ((A.length:Int)>0)) false,.l [] [5,1] [1] (qaa Tryz.f220 0) (qa9 a b c A 0) (.exit 1) qdt]):
 Rt 220 [.agg (nd a b c A)] [cB true]:=
 h.of
theorem qHg(h:Oo [.b (a==2) false,.b (a==3) false,.b (a==4) true,.r 137 [cI b,cI 0,cI 99] [cB q],.r 137 [cI a,cI 1,cI 8] [cB r],.n r false,.n q false,.b (!c==0) false,.b (decide ((A.length:Int)>2)) false,.b (a==8) false,.l [] [5,1] [1] (qaa Tryz.f220 0) (qa9 a b c A 0) .ret (qc2 s)]):
 Rt 220 [.agg (nd a b c A)] [cB s]:=
 h.of
theorem qHh(h:Oo [.b (a==2) false,.b (a==3) false,.b (a==4) true,.r 137 [cI b,cI 0,cI 99] [cB q],.r 137 [cI a,cI 1,cI 8] [cB r],.n r false,.n q false,.b (!c==0) false,.b (decide ((A.length:Int)>2)) false,.b (a==8) false,.l [] [5,1] [1] (qaa Tryz.f220 0) (qa9 a b c A 0) (.exit 1) qdt]):
 Rt 220 [.agg (nd a b c A)] [cB true]:=
 h.of
theorem qHi(h:Oo [.b (a==2) false,.b (a==3) false,.b (a==4) false,.r 137 [cI a,cI 1,cI 8] [cB q],.n q true]):
 Rt 220 [.agg (nd a b c A)] [cB false]:=
 h.of
theorem qHj(h:Oo [.b (a==2) false,.b (a==3) false,.b (a==4) false,.r 137 [cI a,cI 1,cI 8] [cB q],.n q false,.b (!b==0) true]):
 Rt 220 [.agg (nd a b c A)] [cB false]:=
 h.of
theorem qHk(h:Oo [.b (a==2) false,.b (a==3) false,.b (a==4) false,.r 137 [cI a,cI 1,cI 8] [cB q],.n q false,.b (!b==0) false,.b (!c==0) true]):
 Rt 220 [.agg (nd a b c A)] [cB false]:=
 h.of
theorem qHl(h:Oo [.b (a==2) false,.b (a==3) false,.b (a==4) false,.r 137 [cI a,cI 1,cI 8] [cB q],.n q false,.b (!b==0) false,.b (!c==0) false,.b (decide ((A.length:Int)>2)) true]):
 Rt 220 [.agg (nd a b c A)] [cB false]:=
 h.of
theorem qHm(h:Oo [.b (a==2) false,.b (a==3) false,.b (a==4) false,.r 137 [cI a,cI 1,cI 8] [cB q],.n q false,.b (!b==0) false,.b (!c==0) false,.b (decide ((A.length:Int)>2)) false,.b (a==8) true,.b (decide ((A.length:Int)>0)) true]):
 Rt 220 [.agg (nd a b c A)] [cB false]:=
 h.of
theorem qHn(h:Oo [.b (a==2) false,.b (a==3) false,.b (a==4) false,.r 137 [cI a,cI 1,cI 8] [cB q],.n q false,.b (!b==0) false,.b (!c==0) false,.b (decide ((A.length:Int)>2)) false,.b (a==8) true,.b (decide ((A.length:Int)>0)) false,.l [] [5,1] [1] (qaa Tryz.f220 0) (qa9 a b c A 0) .ret (qc2 r)]):
 Rt 220 [.agg (nd a b c A)] [cB r]:=
 h.of
theorem qHo(h:Oo [.b (a==2) false,.b (a==3) false,.b (a==4) false,.r 137 [cI a,cI 1,cI 8] [cB q],.n q false,.b (!b==0) false,.b (!c==0) false,.b (decide ((A.length:Int)>2)) false,.b (a==8) true,.b (decide ((A.length:Int)>0)) false,.l [] [5,1] [1] (qaa Tryz.f220 0) (qa9 a b c A 0) (.exit 1) qdt]):
 Rt 220 [.agg (nd a b c A)] [cB true]:=
 h.of
theorem qHp(h:Oo [.b (a==2) false,.b (a==3) false,.b (a==4) false,.r 137 [cI a,cI 1,cI 8] [cB q],.n q false,.b (!b==0) false,.b (!c==0) false,.b (decide ((A.length:Int)>2)) false,.b (a==8) false,.l [] [5,1] [1] (qaa Tryz.f220 0) (qa9 a b c A 0) .ret (qc2 r)]):
 Rt 220 [.agg (nd a b c A)] [cB r]:=
 h.of
theorem qHq(h:Oo [.b (a==2) false,.b (a==3) false,.b (a==4) false,.r 137 [cI a,cI 1,cI 8] [cB q],.n q false,.b (!b==0) false,.b (!c==0) false,.b (decide ((A.length:Int)>2)) false,.b (a==8) false,.l [] [5,1] [1] (qaa Tryz.f220 0) (qa9 a b c A 0) (.exit 1) qdt]):
 Rt 220 [.agg (nd a b c A)] [cB true]:=
 h.of
theorem qHr(h:Oo [.b (a==2) true,.r 81 [cI b,cI 0,cI 999] [cB q],.n q true]):
 Rt 197 [.agg (nd a b c A)] [cB false]:=
 h.of
theorem qHs(h:Oo [.b (a==2) true,.r 81 [cI b,cI 0,cI 999] [cB q],.n q false,.b (c != 0) true]):
 Rt 197 [.agg (nd a b c A)] [cB false]:=
 h.of
theorem qHt(h:Oo [.b (a==2) true,.r 81 [cI b,cI 0,cI 999] [cB q],.n q false,.b (c != 0) false,.b (decide ((A.length:Int)>2)) true]):
 Rt 197 [.agg (nd a b c A)] [cB false]:=
 h.of
theorem qHu(h:Oo [.b (a==2) true,.r 81 [cI b,cI 0,cI 999] [cB q],.n q false,.b (c != 0) false,.b (decide ((A.length:Int)>2)) false,.b (a==8) true,.b (decide ((A.length:Int)>0)) true]):
 Rt 197 [.agg (nd a b c A)] [cB false]:=
 h.of
theorem qHv(h:Oo [.b (a==2) true,.r 81 [cI b,cI 0,cI 999] [cB q],.n q false,.b (c != 0) false,.b (decide ((A.length:Int)>2)) false,.b (a==8) true,.b (decide ((A.length:Int)>0)) false,.b ((A.length:Int)==2) true,.p ((0:Int)≤0),.p (0<(A.length:Int)),.e A 0 [I d],.p ((0:Int)≤1),.p (1<(A.length:Int)),.e A 1 [I e],.b (d==e) true]):
 Rt 197 [.agg (nd a b c A)] [cB false]:=
 h.of
def qar(A:LL)(a:Int):St:=
 { env:=envOf 101 [(91,vF 1 A),(92,vI (A.length:Int)),(93,vI a)],boxes:=[] }
def qaT(q:Bool):St:=
 { env:=envOf 101 [(2,.al (.one (.sb q)))],boxes:=[] }
theorem qHw(h:Oo [.b (decide (a<(A.length:Int))) true,.p (0≤a),.p (a<(A.length:Int)),.e A a.toNat [I b],.r 81 [cI b,cI 0,cI 7] [cB q],.n q true]):
 Tp (qaa Tryz.f197 0) (qar A a) .ret (qaT false):=
 h.lp [2] []
theorem qHx(h:Oo [.b (decide (a<(A.length:Int))) true,.p (0≤a),.p (a<(A.length:Int)),.e A a.toNat [I b],.r 81 [cI b,cI 0,cI 7] [cB q],.n q false,.u a]):
 Tp (qaa Tryz.f197 0) (qar A a) .normal (qar A (a+1)):=
 h.lp [93,92,91] []
def qaW:St:=
 { env:=envOf 101 [],boxes:=[] }
theorem qHy(h:Oo [.b (decide (a<(A.length:Int))) false]):
 Tp (qaa Tryz.f197 0) (qar A a) (.exit 1) qaW:=
 h.lp [] []
theorem qHz(h:Oo [.b (a==2) true,.r 81 [cI b,cI 0,cI 999] [cB q],.n q false,.b (c != 0) false,.b (decide ((A.length:Int)>2)) false,.b (a==8) true,.b (decide ((A.length:Int)>0)) false,.b ((A.length:Int)==2) true,.p ((0:Int)≤0),.p (0<(A.length:Int)),.e A 0 [I d],.p ((0:Int)≤1),.p (1<(A.length:Int)),.e A 1 [I e],.b (d==e) false,.l [] [93,92,91] [] (qaa Tryz.f197 0) (qar A 0) .ret (qaT r)]):
 Rt 197 [.agg (nd a b c A)] [cB r]:=
 h.of
theorem qHA(h:Oo [.b (a==2) true,.r 81 [cI b,cI 0,cI 999] [cB q],.n q false,.b (c != 0) false,.b (decide ((A.length:Int)>2)) false,.b (a==8) true,.b (decide ((A.length:Int)>0)) false,.b ((A.length:Int)==2) true,.p ((0:Int)≤0),.p (0<(A.length:Int)),.e A 0 [I d],.p ((0:Int)≤1),.p (1<(A.length:Int)),.e A 1 [I e],.b (d==e) false,.l [] [93,92,91] [] (qaa Tryz.f197 0) (qar A 0) (.exit 1) qaW]):
 Rt 197 [.agg (nd a b c A)] [cB true]:=
 h.of
theorem qHB(h:Oo [.b (a==2) true,.r 81 [cI b,cI 0,cI 999] [cB q],.n q false,.b (c != 0) false,.b (decide ((A.length:Int)>2)) false,.b (a==8) true,.b (decide ((A.length:Int)>0)) false,.b ((A.length:Int)==2) false,.l [] [93,92,91] [] (qaa Tryz.f197 0) (qar A 0) .ret (qaT r)]):
 Rt 197 [.agg (nd a b c A)] [cB r]:=
 h.of
theorem qHC(h:Oo [.b (a==2) true,.r 81 [cI b,cI 0,cI 999] [cB q],.n q false,.b (c != 0) false,.b (decide ((A.length:Int)>2)) false,.b (a==8) true,.b (decide ((A.length:Int)>0)) false,.b ((A.length:Int)==2) false,.l [] [93,92,91] [] (qaa Tryz.f197 0) (qar A 0) (.exit 1) qaW]):
 Rt 197 [.agg (nd a b c A)] [cB true]:=
 h.of
theorem qHD(h:Oo [.b (a==2) true,.r 81 [cI b,cI 0,cI 999] [cB q],.n q false,.b (c != 0) false,.b (decide ((A.length:Int)>2)) false,.b (a==8) false,.b ((A.length:Int)==2) true,.p ((0:Int)≤0),.p (0<(A.length:Int)),.e A 0 [I d],.p ((0:Int)≤1),.p (1<(A.length:Int)),.e A 1 [I e],.b (d==e) true]):
 Rt 197 [.agg (nd a b c A)] [cB false]:=
 h.of
theorem qHE(h:Oo [.b (a==2) true,.r 81 [cI b,cI 0,cI 999] [cB q],.n q false,.b (c != 0) false,.b (decide ((A.length:Int)>2)) false,.b (a==8) false,.b ((A.length:Int)==2) true,.p ((0:Int)≤0),.p (0<(A.length:Int)),.e A 0 [I d],.p ((0:Int)≤1),.p (1<(A.length:Int)),.e A 1 [I e],.b (d==e) false,.l [] [93,92,91] [] (qaa Tryz.f197 0) (qar A 0) .ret (qaT r)]):
 Rt 197 [.agg (nd a b c A)] [cB r]:=
 h.of
theorem qHF(h:Oo [.b (a==2) true,.r 81 [cI b,cI 0,cI 999] [cB q],.n q false,.b (c != 0) false,.b (decide ((A.length:Int)>2)) false,.b (a==8) false,.b ((A.length:Int)==2) true,.p ((0:Int)≤0),.p (0<(A.length:Int)),.e A 0 [I d],.p ((0:Int)≤1),.p (1<(A.length:Int)),.e A 1 [I e],.b (d==e) false,.l [] [93,92,91] [] (qaa Tryz.f197 0) (qar A 0) (.exit 1) qaW]):
 Rt 197 [.agg (nd a b c A)] [cB true]:=
 h.of
theorem qHG(h:Oo [.b (a==2) true,.r 81 [cI b,cI 0,cI 999] [cB q],.n q false,.b (c != 0) false,.b (decide ((A.length:Int)>2)) false,.b (a==8) false,.b ((A.length:Int)==2) false,.l [] [93,92,91] [] (qaa Tryz.f197 0) (qar A 0) .ret (qaT r)]):
 Rt 197 [.agg (nd a b c A)] [cB r]:=
 h.of
theorem qHH(h:Oo [.b (a==2) true,.r 81 [cI b,cI 0,cI 999] [cB q],.n q false,.b (c != 0) false,.b (decide ((A.length:Int)>2)) false,.b (a==8) false,.b ((A.length:Int)==2) false,.l [] [93,92,91] [] (qaa Tryz.f197 0) (qar A 0) (.exit 1) qaW]):
 Rt 197 [.agg (nd a b c A)] [cB true]:=
 h.of
theorem qHI(h:Oo [.b (a==2) false,.b (a==3) true,.r 81 [cI b,cI 1,cI 10] [cB q],.n q true]):
 Rt 197 [.agg (nd a b c A)] [cB false]:=
 h.of
theorem qHJ(h:Oo [.b (a==2) false,.b (a==3) true,.r 81 [cI b,cI 1,cI 10] [cB q],.n q false,.a .wr,.r 81 [cI c,cI 0,cI (IntKind.i64.wrap (b-1))] [cB r],.n r true]):
 Rt 197 [.agg (nd a b c A)] [cB false]:=
 h.of
theorem qHK(h:Oo [.b (a==2) false,.b (a==3) true,.r 81 [cI b,cI 1,cI 10] [cB q],.n q false,.a .wr,.r 81 [cI c,cI 0,cI (IntKind.i64.wrap (b-1))] [cB r],.n r false,.b (decide ((A.length:Int)>2)) true]):
 Rt 197 [.agg (nd a b c A)] [cB false]:=
 h.of
theorem qHL(h:Oo [.b (a==2) false,.b (a==3) true,.r 81 [cI b,cI 1,cI 10] [cB q],.n q false,.a .wr,.r 81 [cI c,cI 0,cI (IntKind.i64.wrap (b-1))] [cB r],.n r false,.b (decide ((A.length:Int)>2)) false,.b (a==8) true,.b (decide ((A.length:Int)>0)) true]):
 Rt 197 [.agg (nd a b c A)] [cB false]:=
 h.of
theorem qHM(h:Oo [.b (a==2) false,.b (a==3) true,.r 81 [cI b,cI 1,cI 10] [cB q],.n q false,.a .wr,.r 81 [cI c,cI 0,cI (IntKind.i64.wrap (b-1))] [cB r],.n r false,.b (decide ((A.length:Int)>2)) false,.b (a==8) true,.b (decide ((A.length:Int)>0)) false,.b ((A.length:Int)==2) true,.p ((0:Int)≤0),.p (0<(A.length:Int)),.e A 0 [I d],.p ((0:Int)≤1),.p (1<(A.length:Int)),.e A 1 [I e],.b (d==e) true]):
 Rt 197 [.agg (nd a b c A)] [cB false]:=
 h.of
theorem qHN(h:Oo [.b (a==2) false,.b (a==3) true,.r 81 [cI b,cI 1,cI 10] [cB q],.n q false,.a .wr,.r 81 [cI c,cI 0,cI (IntKind.i64.wrap (b-1))] [cB r],.n r false,.b (decide ((A.length:Int)>2)) false,.b (a==8) true,.b (decide ((A.length:Int)>0)) false,.b ((A.length:Int)==2) true,.p ((0:Int)≤0),.p (0<(A.length:Int)),.e A 0 [I d],.p ((0:Int)≤1),.p (1<(A.length:Int)),.e A 1 [I e],.b (d==e) false,.l [] [93,92,91] [] (qaa Tryz.f197 0) (qar A 0) .ret (qaT s)]):
 Rt 197 [.agg (nd a b c A)] [cB s]:=
 h.of
theorem qHO(h:Oo [.b (a==2) false,.b (a==3) true,.r 81 [cI b,cI 1,cI 10] [cB q],.n q false,.a .wr,.r 81 [cI c,cI 0,cI (IntKind.i64.wrap (b-1))] [cB r],.n r false,.b (decide ((A.length:Int)>2)) false,.b (a==8) true,.b (decide ((A.length:Int)>0)) false,.b ((A.length:Int)==2) true,.p ((0:Int)≤0),.p (0<(A.length:Int)),.e A 0 [I d],.p ((0:Int)≤1),.p (1<(A.length:Int)),.e A 1 [I e],.b (d==e) false,.l [] [93,92,91] [] (qaa Tryz.f197 0) (qar A 0) (.exit 1) qaW]):
 Rt 197 [.agg (nd a b c A)] [cB true]:=
 h.of
theorem qHP(h:Oo [.b (a==2) false,.b (a==3) true,.r 81 [cI b,cI 1,cI 10] [cB q],.n q false,.a .wr,.r 81 [cI c,cI 0,cI (IntKind.i64.wrap (b-1))] [cB r],.n r false,.b (decide ((A.length:Int)>2)) false,.b (a==8) true,.b (decide ((A.length:Int)>0)) false,.b ((A.length:Int)==2) false,.l [] [93,92,91] [] (qaa Tryz.f197 0) (qar A 0) .ret (qaT s)]):
 Rt 197 [.agg (nd a b c A)] [cB s]:=
 h.of
theorem qHQ(h:Oo [.b (a==2) false,.b (a==3) true,.r 81 [cI b,cI 1,cI 10] [cB q],.n q false,.a .wr,.r 81 [cI c,cI 0,cI (IntKind.i64.wrap (b-1))] [cB r],.n r false,.b (decide ((A.length:Int)>2)) false,.b (a==8) true,.b (decide ((A.length:Int)>0)) false,.b ((A.length:Int)==2) false,.l [] [93,92,91] [] (qaa Tryz.f197 0) (qar A 0) (.exit 1) qaW]):
 Rt 197 [.agg (nd a b c A)] [cB true]:=
 h.of
theorem qHR(h:Oo [.b (a==2) false,.b (a==3) true,.r 81 [cI b,cI 1,cI 10] [cB q],.n q false,.a .wr,.r 81 [cI c,cI 0,cI (IntKind.i64.wrap (b-1))] [cB r],.n r false,.b (decide ((A.length:Int)>2)) false,.b (a==8) false,.b ((A.length:Int)==2) true,.p ((0:Int)≤0),.p (0<(A.length:Int)),.e A 0 [I d],.p ((0:Int)≤1),.p (1<(A.length:Int)),.e A 1 [I e],.b (d==e) true]):
 Rt 197 [.agg (nd a b c A)] [cB false]:=
 h.of
theorem qHS(h:Oo [.b (a==2) false,.b (a==3) true,.r 81 [cI b,cI 1,cI 10] [cB q],.n q false,.a .wr,.r 81 [cI c,cI 0,cI (IntKind.i64.wrap (b-1))] [cB r],.n r false,.b (decide ((A.length:Int)>2)) false,.b (a==8) false,.b ((A.length:Int)==2) true,.p ((0:Int)≤0),.p (0<(A.length:Int)),.e A 0 [I d],.p ((0:Int)≤1),.p (1<(A.length:Int)),.e A 1 [I e],.b (d==e) false,.l [] [93,92,91] [] (qaa Tryz.f197 0) (qar A 0) .ret (qaT s)]):
 Rt 197 [.agg (nd a b c A)] [cB s]:=
 h.of
theorem qHT(h:Oo [.b (a==2) false,.b (a==3) true,.r 81 [cI b,cI 1,cI 10] [cB q],.n q false,.a .wr,.r 81 [cI c,cI 0,cI (IntKind.i64.wrap (b-1))] [cB r],.n r false,.b (decide ((A.length:Int)>2)) false,.b (a==8) false,.b ((A.length:Int)==2) true,.p ((0:Int)≤0),.p (0<(A.length:Int)),.e A 0 [I d],.p ((0:Int)≤1),.p (1<(A.length:Int)),.e A 1 [I e],.b (d==e) false,.l [] [93,92,91] [] (qaa Tryz.f197 0) (qar A 0) (.exit 1) qaW]):
 Rt 197 [.agg (nd a b c A)] [cB true]:=
 h.of
theorem qHU(h:Oo [.b (a==2) false,.b (a==3) true,.r 81 [cI b,cI 1,cI 10] [cB q],.n q false,.a .wr,.r 81 [cI c,cI 0,cI (IntKind.i64.wrap (b-1))] [cB r],.n r false,.b (decide ((A.length:Int)>2)) false,.b (a==8) false,.b ((A.length:Int)==2) false,.l [] [93,92,91] [] (qaa Tryz.f197 0) (qar A 0) .ret (qaT s)]):
 Rt 197 [.agg (nd a b c A)] [cB s]:=
 h.of
theorem qHV(h:Oo [.b (a==2) false,.b (a==3) true,.r 81 [cI b,cI 1,cI 10] [cB q],.n q false,.a .wr,.r 81 [cI c,cI 0,cI (IntKind.i64.wrap (b-1))] [cB r],.n r false,.b (decide ((A.length:Int)>2)) false,.b (a==8) false,.b ((A.length:Int)==2) false,.l [] [93,92,91] [] (qaa Tryz.f197 0) (qar A 0) (.exit 1) qaW]):
 Rt 197 [.agg (nd a b c A)] [cB true]:=
 h.of
theorem qHW(h:Oo [.b (a==2) false,.b (a==3) false,.b (a==4) true,.r 81 [cI b,cI 0,cI 99] [cB q],.n q true]):
 Rt 197 [.agg (nd a b c A)] [cB false]:=
 h.of
theorem qHX(h:Oo [.b (a==2) false,.b (a==3) false,.b (a==4) true,.r 81 [cI b,cI 0,cI 99] [cB q],.n q false,.b (c != 0) true]):
 Rt 197 [.agg (nd a b c A)] [cB false]:=
 h.of
theorem qHY(h:Oo [.b (a==2) false,.b (a==3) false,.b (a==4) true,.r 81 [cI b,cI 0,cI 99] [cB q],.n q false,.b (c != 0) false,.b (decide ((A.length:Int)>2)) true]):
 Rt 197 [.agg (nd a b c A)] [cB false]:=
 h.of
theorem qHZ(h:Oo [.b (a==2) false,.b (a==3) false,.b (a==4) true,.r 81 [cI b,cI 0,cI 99] [cB q],.n q false,.b (c != 0) false,.b (decide ((A.length:Int)>2)) false,.b (a==8) true,.b (decide ((A.length:Int)>0)) true]):
 Rt 197 [.agg (nd a b c A)] [cB false]:=
 h.of
theorem qH0(h:Oo [.b (a==2) false,.b (a==3) false,.b (a==4) true,.r 81 [cI b,cI 0,cI 99] [cB q],.n q false,.b (c != 0) false,.b (decide ((A.length:Int)>2)) false,.b (a==8) true,.b (decide ((A.length:Int)>0)) false,.b ((A.length:Int)==2) true,.p ((0:Int)≤0),.p (0<(A.length:Int)),.e A 0 [I d],.p ((0:Int)≤1),.p (1<(A.length:Int)),.e A 1 [I e],.b (d==e) true]):
 Rt 197 [.agg (nd a b c A)] [cB false]:=
 h.of
theorem qH1(h:Oo [.b (a==2) false,.b (a==3) false,.b (a==4) true,.r 81 [cI b,cI 0,cI 99] [cB q],.n q false,.b (c != 0) false,.b (decide ((A.length:Int)>2)) false,.b (a==8) true,.b (decide ((A.length:Int)>0)) false,.b ((A.length:Int)==2) true,.p ((0:Int)≤0),.p (0<(A.length:Int)),.e A 0 [I d],.p ((0:Int)≤1),.p (1<(A.length:Int)),.e A 1 [I e],.b (d==e) false,.l [] [93,92,91] [] (qaa Tryz.f197 0) (qar A 0) .ret (qaT r)]):
 Rt 197 [.agg (nd a b c A)] [cB r]:=
 h.of
theorem qH2(h:Oo [.b (a==2) false,.b (a==3) false,.b (a==4) true,.r 81 [cI b,cI 0,cI 99] [cB q],.n q false,.b (c != 0) false,.b (decide ((A.length:Int)>2)) false,.b (a==8) true,.b (decide ((A.length:Int)>0)) false,.b ((A.length:Int)==2) true,.p ((0:Int)≤0),.p (0<(A.length:Int)),.e A 0 [I d],.p ((0:Int)≤1),.p (1<(A.length:Int)),.e A 1 [I e],.b (d==e) false,.l [] [93,92,91] [] (qaa Tryz.f197 0) (qar A 0) (.exit 1) qaW]):
 Rt 197 [.agg (nd a b c A)] [cB true]:=
 h.of
theorem qH3(h:Oo [.b (a==2) false,.b (a==3) false,.b (a==4) true,.r 81 [cI b,cI 0,cI 99] [cB q],.n q false,.b (c != 0) false,.b (decide ((A.length:Int)>2)) false,.b (a==8) true,.b (decide ((A.length:Int)>0)) false,.b ((A.length:Int)==2) false,.l [] [93,92,91] [] (qaa Tryz.f197 0) (qar A 0) .ret (qaT r)]):
 Rt 197 [.agg (nd a b c A)] [cB r]:=
 h.of
theorem qH4(h:Oo [.b (a==2) false,.b (a==3) false,.b (a==4) true,.r 81 [cI b,cI 0,cI 99] [cB q],.n q false,.b (c != 0) false,.b (decide ((A.length:Int)>2)) false,.b (a==8) true,.b (decide ((A.length:Int)>0)) false,.b ((A.length:Int)==2) false,.l [] [93,92,91] [] (qaa Tryz.f197 0) (qar A 0) (.exit 1) qaW]):
 Rt 197 [.agg (nd a b c A)] [cB true]:=
 h.of
theorem qH5(h:Oo [.b (a==2) false,.b (a==3) false,.b (a==4) true,.r 81 [cI b,cI 0,cI 99] [cB q],.n q false,.b (c != 0) false,.b (decide ((A.length:Int)>2)) false,.b (a==8) false,.b ((A.length:Int)==2) true,.p ((0:Int)≤0),.p (0<(A.length:Int)),.e A 0 [I d],.p ((0:Int)≤1),.p (1<(A.length:Int)),.e A 1 [I e],.b (d==e) true]):
 Rt 197 [.agg (nd a b c A)] [cB false]:=
 h.of
theorem qH6(h:Oo [.b (a==2) false,.b (a==3) false,.b (a==4) true,.r 81 [cI b,cI 0,cI 99] [cB q],.n q false,.b (c != 0) false,.b (decide ((A.length:Int)>2)) false,.b (a==8) false,.b ((A.length:Int)==2) true,.p ((0:Int)≤0),.p (0<(A.length:Int)),.e A 0 [I d],.p ((0:Int)≤1),.p (1<(A.length:Int)),.e A 1 [I e],.b (d==e) false,.l [] [93,92,91] [] (qaa Tryz.f197 0) (qar A 0) .ret (qaT r)]):
 Rt 197 [.agg (nd a b c A)] [cB r]:=
 h.of
theorem qH7(h:Oo [.b (a==2) false,.b (a==3) false,.b (a==4) true,.r 81 [cI b,cI 0,cI 99] [cB q],.n q false,.b (c != 0) false,.b (decide ((A.length:Int)>2)) false,.b (a==8) false,.b ((A.length:Int)==2) true,.p ((0:Int)≤0),.p (0<(A.length:Int)),.e A 0 [I d],.p ((0:Int)≤1),.p (1<(A.length:Int)),.e A 1 [I e],.b (d==e) false,.l [] [93,92,91] [] (qaa Tryz.f197 0) (qar A 0) (.exit 1) qaW]):
 Rt 197 [.agg (nd a b c A)] [cB true]:=
 h.of
theorem qH8(h:Oo [.b (a==2) false,.b (a==3) false,.b (a==4) true,.r 81 [cI b,cI 0,cI 99] [cB q],.n q false,.b (c != 0) false,.b (decide ((A.length:Int)>2)) false,.b (a==8) false,.b ((A.length:Int)==2) false,.l [] [93,92,91] [] (qaa Tryz.f197 0) (qar A 0) .ret (qaT r)]):
 Rt 197 [.agg (nd a b c A)] [cB r]:=
 h.of
theorem qH9(h:Oo [.b (a==2) false,.b (a==3) false,.b (a==4) true,.r 81 [cI b,cI 0,cI 99] [cB q],.n q false,.b (c != 0) false,.b (decide ((A.length:Int)>2)) false,.b (a==8) false,.b ((A.length:Int)==2) false,.l [] [93,92,91] [] (qaa Tryz.f197 0) (qar A 0) (.exit 1) qaW]):
 Rt 197 [.agg (nd a b c A)] [cB true]:=
 h.of
theorem qIa(h:Oo [.b (a==2) false,.b (a==3) false,.b (a==4) false,.b (a==1) true,.b (a==1) true,.b (b != 0) true]):
 Rt 197 [.agg (nd a b c A)] [cB false]:=
 h.of
theorem qIb(h:Oo [.b (a==2) false,.b (a==3) false,.b (a==4) false,.b (a==1) true,.b (a==1) true,.b (b != 0) false,.b (c != 0) true]):
 Rt 197 [.agg (nd a b c A)] [cB false]:=
 h.of
theorem qIc(h:Oo [.b (a==2) false,.b (a==3) false,.b (a==4) false,.b (a==1) true,.b (a==1) true,.b (b != 0) false,.b (c != 0) false,.b (decide ((A.length:Int)>2)) true]):
 Rt 197 [.agg (nd a b c A)] [cB false]:=
 h.of
theorem qId(h:Oo [.b (a==2) false,.b (a==3) false,.b (a==4) false,.b (a==1) true,.b (a==1) true,.b (b != 0) false,.b (c != 0) false,.b (decide ((A.length:Int)>2)) false,.b (a==8) true,.b (decide ((A.length:Int)>0)) true]):
 Rt 197 [.agg (nd a b c A)] [cB false]:=
 h.of
theorem qIe(h:Oo [.b (a==2) false,.b (a==3) false,.b (a==4) false,.b (a==1) true,.b (a==1) true,.b (b != 0) false,.b (c != 0) false,.b (decide ((A.length:Int)>2)) false,.b (a==8) true,.b (decide ((A.length:Int)>0)) false,.b ((A.length:Int)==2) true,.p ((0:Int)≤0),.p (0<(A.length:Int)),.e A 0 [I d],.p ((0:Int)≤1),.p (1<(A.length:Int)),.e A 1 [I e],.b (d==e) true]):
 Rt 197 [.agg (nd a b c A)] [cB false]:=
 h.of
theorem qIf(h:Oo [.b (a==2) false,.b (a==3) false,.b (a==4) false,.b (a==1) true,.b (a==1) true,.b (b != 0) false,.b (c != 0) false,.b (decide ((A.length:Int)>2)) false,.b (a==8) true,.b (decide ((A.length:Int)>0)) false,.b ((A.length:Int)==2) true,.p ((0:Int)≤0),.p (0<(A.length:Int)),.e A 0 [I d],.p ((0:Int)≤1),.p (1<(A.length:Int)),.e A 1 [I e],.b (d==e) false,.l [] [93,92,91] [] (qaa Tryz.f197 0) (qar A 0) .ret (qaT q)]):
 Rt 197 [.agg (nd a b c A)] [cB q]:=
 h.of
theorem qIg(h:Oo [.b (a==2) false,.b (a==3) false,.b (a==4) false,.b (a==1) true,.b (a==1) true,.b (b != 0) false,.b (c != 0) false,.b (decide ((A.length:Int)>2)) false,.b (a==8) true,.b (decide ((A.length:Int)>0)) false,.b ((A.length:Int)==2) true,.p ((0:Int)≤0),.p (0<(A.length:Int)),.e A 0 [I d],.p ((0:Int)≤1),.p (1<(A.length:Int)),.e A 1 [I e],.b (d==e) false,.l [] [93,92,91] [] (qaa Tryz.f197 0) (qar A 0) (.exit 1) qaW]):
 Rt 197 [.agg (nd a b c A)] [cB true]:=
 h.of
theorem qIh(h:Oo [.b (a==2) false,.b (a==3) false,.b (a==4) false,.b (a==1) true,.b (a==1) true,.b (b != 0) false,.b (c != 0) false,.b (decide ((A.length:Int)>2)) false,.b (a==8) true,.b (decide ((A.length:Int)>0)) false,.b ((A.length:Int)==2) false,.l [] [93,92,91] [] (qaa Tryz.f197 0) (qar A 0) .ret (qaT q)]):
 Rt 197 [.agg (nd a b c A)] [cB q]:=
 h.of
theorem qIi(h:Oo [.b (a==2) false,.b (a==3) false,.b (a==4) false,.b (a==1) true,.b (a==1) true,.b (b != 0) false,.b (c != 0) false,.b (decide ((A.length:Int)>2)) false,.b (a==8) true,.b (decide ((A.length:Int)>0)) false,.b ((A.length:Int)==2) false,.l [] [93,92,91] [] (qaa Tryz.f197 0) (qar A 0) (.exit 1) qaW]):
 Rt 197 [.agg (nd a b c A)] [cB true]:=
 h.of
theorem qIj(h:Oo [.b (a==2) false,.b (a==3) false,.b (a==4) false,.b (a==1) true,.b (a==1) true,.b (b != 0) false,.b (c != 0) false,.b (decide ((A.length:Int)>2)) false,.b (a==8) false,.b ((A.length:Int)==2) true,.p ((0:Int)≤0),.p (0<(A.length:Int)),.e A 0 [I d],.p ((0:Int)≤1),.p (1<(A.length:Int)),.e A 1 [I e],.b (d==e) true]):
 Rt 197 [.agg (nd a b c A)] [cB false]:=
 h.of
theorem qIk(h:Oo [.b (a==2) false,.b (a==3) false,.b (a==4) false,.b (a==1) true,.b (a==1) true,.b (b != 0) false,.b (c != 0) false,.b (decide ((A.length:Int)>2)) false,.b (a==8) false,.b ((A.length:Int)==2) true,.p ((0:Int)≤0),.p (0<(A.length:Int)),.e A 0 [I d],.p ((0:Int)≤1),.p (1<(A.length:Int)),.e A 1 [I e],.b (d==e) false,.l [] [93,92,91] [] (qaa Tryz.f197 0) (qar A 0) .ret (qaT q)]):
 Rt 197 [.agg (nd a b c A)] [cB q]:=
 h.of
theorem qIl(h:Oo [.b (a==2) false,.b (a==3) false,.b (a==4) false,.b (a==1) true,.b (a==1) true,.b (b != 0) false,.b (c != 0) false,.b (decide ((A.length:Int)>2)) false,.b (a==8) false,.b ((A.length:Int)==2) true,.p ((0:Int)≤0),.p (0<(A.length:Int)),.e A 0 [I d],.p ((0:Int)≤1),.p (1<(A.length:Int)),.e A 1 [I e],.b (d==e) false,.l [] [93,92,91] [] (qaa Tryz.f197 0) (qar A 0) (.exit 1) qaW]):
 Rt 197 [.agg (nd a b c A)] [cB true]:=
 h.of
theorem qIm(h:Oo [.b (a==2) false,.b (a==3) false,.b (a==4) false,.b (a==1) true,.b (a==1) true,.b (b != 0) false,.b (c != 0) false,.b (decide ((A.length:Int)>2)) false,.b (a==8) false,.b ((A.length:Int)==2) false,.l [] [93,92,91] [] (qaa Tryz.f197 0) (qar A 0) .ret (qaT q)]):
 Rt 197 [.agg (nd a b c A)] [cB q]:=
 h.of
theorem qIn(h:Oo [.b (a==2) false,.b (a==3) false,.b (a==4) false,.b (a==1) true,.b (a==1) true,.b (b != 0) false,.b (c != 0) false,.b (decide ((A.length:Int)>2)) false,.b (a==8) false,.b ((A.length:Int)==2) false,.l [] [93,92,91] [] (qaa Tryz.f197 0) (qar A 0) (.exit 1) qaW]):
 Rt 197 [.agg (nd a b c A)] [cB true]:=
 h.of
theorem qIo(h:Oo [.b (a==2) false,.b (a==3) false,.b (a==4) false,.b (a==1) false,.b (a==5) true,.b (a==5) true,.b (b != 0) true]):
 Rt 197 [.agg (nd a b c A)] [cB false]:=
 h.of
theorem qIp(h:Oo [.b (a==2) false,.b (a==3) false,.b (a==4) false,.b (a==1) false,.b (a==5) true,.b (a==5) true,.b (b != 0) false,.b (c != 0) true]):
 Rt 197 [.agg (nd a b c A)] [cB false]:=
 h.of
theorem qIq(h:Oo [.b (a==2) false,.b (a==3) false,.b (a==4) false,.b (a==1) false,.b (a==5) true,.b (a==5) true,.b (b != 0) false,.b (c != 0) false,.b (decide ((A.length:Int)>2)) true]):
 Rt 197 [.agg (nd a b c A)] [cB false]:=
 h.of
theorem qIr(h:Oo [.b (a==2) false,.b (a==3) false,.b (a==4) false,.b (a==1) false,.b (a==5) true,.b (a==5) true,.b (b != 0) false,.b (c != 0) false,.b (decide ((A.length:Int)>2)) false,.b (a==8) true,.b (decide ((A.length:Int)>0)) true]):
 Rt 197 [.agg (nd a b c A)] [cB false]:=
 h.of
theorem qIs(h:Oo [.b (a==2) false,.b (a==3) false,.b (a==4) false,.b (a==1) false,.b (a==5) true,.b (a==5) true,.b (b != 0) false,.b (c != 0) false,.b (decide ((A.length:Int)>2)) false,.b (a==8) true,.b (decide ((A.length:Int)>0)) false,.b ((A.length:Int)==2) true,.p ((0:Int)≤0),.p (0<(A.length:Int)),.e A 0 [I d],.p ((0:Int)≤1),.p (1<(A.length:Int)),.e A 1 [I e],.b (d==e) true]):
 Rt 197 [.agg (nd a b c A)] [cB false]:=
 h.of
theorem qIt(h:Oo [.b (a==2) false,.b (a==3) false,.b (a==4) false,.b (a==1) false,.b (a==5) true,.b (a==5) true,.b (b != 0) false,.b (c != 0) false,.b (decide ((A.length:Int)>2)) false,.b (a==8) true,.b (decide ((A.length:Int)>0)) false,.b ((A.length:Int)==2) true,.p ((0:Int)≤0),.p (0<(A.length:Int)),.e A 0 [I d],.p ((0:Int)≤1),.p (1<(A.length:Int)),.e A 1 [I e],.b (d==e) false,.l [] [93,92,91] [] (qaa Tryz.f197 0) (qar A 0) .ret (qaT q)]):
 Rt 197 [.agg (nd a b c A)] [cB q]:=
 h.of
theorem qIu(h:Oo [.b (a==2) false,.b (a==3) false,.b (a==4) false,.b (a==1) false,.b (a==5) true,.b (a==5) true,.b (b != 0) false,.b (c != 0) false,.b (decide ((A.length:Int)>2)) false,.b (a==8) true,.b (decide ((A.length:Int)>0)) false,.b ((A.length:Int)==2) true,.p ((0:Int)≤0),.p (0<(A.length:Int)),.e A 0 [I d],.p ((0:Int)≤1),.p (1<(A.length:Int)),.e A 1 [I e],.b (d==e) false,.l [] [93,92,91] [] (qaa Tryz.f197 0) (qar A 0) (.exit 1) qaW]):
 Rt 197 [.agg (nd a b c A)] [cB true]:=
 h.of
theorem qIv(h:Oo [.b (a==2) false,.b (a==3) false,.b (a==4) false,.b (a==1) false,.b (a==5) true,.b (a==5) true,.b (b != 0) false,.b (c != 0) false,.b (decide ((A.length:Int)>2)) false,.b (a==8) true,.b (decide ((A.length:Int)>0)) false,.b ((A.length:Int)==2) false,.l [] [93,92,91] [] (qaa Tryz.f197 0) (qar A 0) .ret (qaT q)]):
 Rt 197 [.agg (nd a b c A)] [cB q]:=
 h.of
theorem qIw(h:Oo [.b (a==2) false,.b (a==3) false,.b (a==4) false,.b (a==1) false,.b (a==5) true,.b (a==5) true,.b (b != 0) false,.b (c != 0) false,.b (decide ((A.length:Int)>2)) false,.b (a==8) true,.b (decide ((A.length:Int)>0)) false,.b ((A.length:Int)==2) false,.l [] [93,92,91] [] (qaa Tryz.f197 0) (qar A 0) (.exit 1) qaW]):
 Rt 197 [.agg (nd a b c A)] [cB true]:=
 h.of
theorem qIx(h:Oo [.b (a==2) false,.b (a==3) false,.b (a==4) false,.b (a==1) false,.b (a==5) true,.b (a==5) true,.b (b != 0) false,.b (c != 0) false,.b (decide ((A.length:Int)>2)) false,.b (a==8) false,.b ((A.length:Int)==2) true,.p ((0:Int)≤0),.p (0<(A.length:Int)),.e A 0 [I d],.p ((0:Int)≤1),.p (1<(A.length:Int)),.e A 1 [I e],.b (d==e) true]):
 Rt 197 [.agg (nd a b c A)] [cB false]:=
 h.of
theorem qIy(h:Oo [.b (a==2) false,.b (a==3) false,.b (a==4) false,.b (a==1) false,.b (a==5) true,.b (a==5) true,.b (b != 0) false,.b (c != 0) false,.b (decide ((A.length:Int)>2)) false,.b (a==8) false,.b ((A.length:Int)==2) true,.p ((0:Int)≤0),.p (0<(A.length:Int)),.e A 0 [I d],.p ((0:Int)≤1),.p (1<(A.length:Int)),.e A 1 [I e],.b (d==e) false,.l [] [93,92,91] [] (qaa Tryz.f197 0) (qar A 0) .ret (qaT q)]):
 Rt 197 [.agg (nd a b c A)] [cB q]:=
 h.of
theorem qIz(h:Oo [.b (a==2) false,.b (a==3) false,.b (a==4) false,.b (a==1) false,.b (a==5) true,.b (a==5) true,.b (b != 0) false,.b (c != 0) false,.b (decide ((A.length:Int)>2)) false,.b (a==8) false,.b ((A.length:Int)==2) true,.p ((0:Int)≤0),.p (0<(A.length:Int)),.e A 0 [I d],.p ((0:Int)≤1),.p (1<(A.length:Int)),.e A 1 [I e],.b (d==e) false,.l [] [93,92,91] [] (qaa Tryz.f197 0) (qar A 0) (.exit 1) qaW]):
 Rt 197 [.agg (nd a b c A)] [cB true]:=
 h.of
theorem qIA(h:Oo [.b (a==2) false,.b (a==3) false,.b (a==4) false,.b (a==1) false,.b (a==5) true,.b (a==5) true,.b (b != 0) false,.b (c != 0) false,.b (decide ((A.length:Int)>2)) false,.b (a==8) false,.b ((A.length:Int)==2) false,.l [] [93,92,91] [] (qaa Tryz.f197 0) (qar A 0) .ret (qaT q)]):
 Rt 197 [.agg (nd a b c A)] [cB q]:=
 h.of
theorem qIB(h:Oo [.b (a==2) false,.b (a==3) false,.b (a==4) false,.b (a==1) false,.b (a==5) true,.b (a==5) true,.b (b != 0) false,.b (c != 0) false,.b (decide ((A.length:Int)>2)) false,.b (a==8) false,.b ((A.length:Int)==2) false,.l [] [93,92,91] [] (qaa Tryz.f197 0) (qar A 0) (.exit 1) qaW]):
 Rt 197 [.agg (nd a b c A)] [cB true]:=
 h.of
theorem qIC(h:Oo [.b (a==2) false,.b (a==3) false,.b (a==4) false,.b (a==1) false,.b (a==5) false,.b (a==6) true,.b (a==6) true,.b (b != 0) true]):
 Rt 197 [.agg (nd a b c A)] [cB false]:=
 h.of
theorem qID(h:Oo [.b (a==2) false,.b (a==3) false,.b (a==4) false,.b (a==1) false,.b (a==5) false,.b (a==6) true,.b (a==6) true,.b (b != 0) false,.b (c != 0) true]):
 Rt 197 [.agg (nd a b c A)] [cB false]:=
 h.of
theorem qIE(h:Oo [.b (a==2) false,.b (a==3) false,.b (a==4) false,.b (a==1) false,.b (a==5) false,.b (a==6) true,.b (a==6) true,.b (b != 0) false,.b (c != 0) false,.b (decide ((A.length:Int)>2)) true]):
 Rt 197 [.agg (nd a b c A)] [cB false]:=
 h.of
theorem qIF(h:Oo [.b (a==2) false,.b (a==3) false,.b (a==4) false,.b (a==1) false,.b (a==5) false,.b (a==6) true,.b (a==6) true,.b (b != 0) false,.b (c != 0) false,.b (decide ((A.length:Int)>2)) false,.b (a==8) true,.b (decide ((A.length:Int)>0)) true]):
 Rt 197 [.agg (nd a b c A)] [cB false]:=
 h.of
theorem qIG(h:Oo [.b (a==2) false,.b (a==3) false,.b (a==4) false,.b (a==1) false,.b (a==5) false,.b (a==6) true,.b (a==6) true,.b (b != 0) false,.b (c != 0) false,.b (decide ((A.length:Int)>2)) false,.b (a==8) true,.b (decide ((A.length:Int)>0)) false,.b ((A.length:Int)==2) true,.p ((0:Int)≤0),.p (0<(A.length:Int)),.e A 0 [I d],.p ((0:Int)≤1),.p (1<(A.length:Int)),.e A 1 [I e],.b (d==e) true]):
 Rt 197 [.agg (nd a b c A)] [cB false]:=
 h.of
theorem qIH(h:Oo [.b (a==2) false,.b (a==3) false,.b (a==4) false,.b (a==1) false,.b (a==5) false,.b (a==6) true,.b (a==6) true,.b (b != 0) false,.b (c != 0) false,.b (decide ((A.length:Int)>2)) false,.b (a==8) true,.b (decide ((A.length:Int)>0)) false,.b ((A.length:Int)==2) true,.p ((0:Int)≤0),.p (0<(A.length:Int)),.e A 0 [I d],.p ((0:Int)≤1),.p (1<(A.length:Int)),.e A 1 [I e],.b (d==e) false,.l [] [93,92,91] [] (qaa Tryz.f197 0) (qar A 0) .ret (qaT q)]):
 Rt 197 [.agg (nd a b c A)] [cB q]:=
 h.of
theorem qII(h:Oo [.b (a==2) false,.b (a==3) false,.b (a==4) false,.b (a==1) false,.b (a==5) false,.b (a==6) true,.b (a==6) true,.b (b != 0) false,.b (c != 0) false,.b (decide ((A.length:Int)>2)) false,.b (a==8) true,.b (decide ((A.length:Int)>0)) false,.b ((A.length:Int)==2) true,.p ((0:Int)≤0),.p (0<(A.length:Int)),.e A 0 [I d],.p ((0:Int)≤1),.p (1<(A.length:Int)),.e A 1 [I e],.b (d==e) false,.l [] [93,92,91] [] (qaa Tryz.f197 0) (qar A 0) (.exit 1) qaW]):
 Rt 197 [.agg (nd a b c A)] [cB true]:=
 h.of
theorem qIJ(h:Oo [.b (a==2) false,.b (a==3) false,.b (a==4) false,.b (a==1) false,.b (a==5) false,.b (a==6) true,.b (a==6) true,.b (b != 0) false,.b (c != 0) false,.b (decide ((A.length:Int)>2)) false,.b (a==8) true,.b (decide ((A.length:Int)>0)) false,.b ((A.length:Int)==2) false,.l [] [93,92,91] [] (qaa Tryz.f197 0) (qar A 0) .ret (qaT q)]):
 Rt 197 [.agg (nd a b c A)] [cB q]:=
 h.of
theorem qIK(h:Oo [.b (a==2) false,.b (a==3) false,.b (a==4) false,.b (a==1) false,.b (a==5) false,.b (a==6) true,.b (a==6) true,.b (b != 0) false,.b (c != 0) false,.b (decide ((A.length:Int)>2)) false,.b (a==8) true,.b (decide ((A.length:Int)>0)) false,.b ((A.length:Int)==2) false,.l [] [93,92,91] [] (qaa Tryz.f197 0) (qar A 0) (.exit 1) qaW]):
 Rt 197 [.agg (nd a b c A)] [cB true]:=
 h.of
theorem qIL(h:Oo [.b (a==2) false,.b (a==3) false,.b (a==4) false,.b (a==1) false,.b (a==5) false,.b (a==6) true,.b (a==6) true,.b (b != 0) false,.b (c != 0) false,.b (decide ((A.length:Int)>2)) false,.b (a==8) false,.b ((A.length:Int)==2) true,.p ((0:Int)≤0),.p (0<(A.length:Int)),.e A 0 [I d],.p ((0:Int)≤1),.p (1<(A.length:Int)),.e A 1 [I e],.b (d==e) true]):
 Rt 197 [.agg (nd a b c A)] [cB false]:=
 h.of
theorem qIM(h:Oo [.b (a==2) false,.b (a==3) false,.b (a==4) false,.b (a==1) false,.b (a==5) false,.b (a==6) true,.b (a==6) true,.b (b != 0) false,.b (c != 0) false,.b (decide ((A.length:Int)>2)) false,.b (a==8) false,.b ((A.length:Int)==2) true,.p ((0:Int)≤0),.p (0<(A.length:Int)),.e A 0 [I d],.p ((0:Int)≤1),.p (1<(A.length:Int)),.e A 1 [I e],.b (d==e) false,.l [] [93,92,91] [] (qaa Tryz.f197 0) (qar A 0) .ret (qaT q)]):
 Rt 197 [.agg (nd a b c A)] [cB q]:=
 h.of
theorem qIN(h:Oo [.b (a==2) false,.b (a==3) false,.b (a==4) false,.b (a==1) false,.b (a==5) false,.b (a==6) true,.b (a==6) true,.b (b != 0) false,.b (c != 0) false,.b (decide ((A.length:Int)>2)) false,.b (a==8) false,.b ((A.length:Int)==2) true,.p ((0:Int)≤0),.p (0<(A.length:Int)),.e A 0 [I d],.p ((0:Int)≤1),.p (1<(A.length:Int)),.e A 1 [I e],.b (d==e) false,.l [] [93,92,91] [] (qaa Tryz.f197 0) (qar A 0) (.exit 1) qaW]):
 Rt 197 [.agg (nd a b c A)] [cB true]:=
 h.of
theorem qIO(h:Oo [.b (a==2) false,.b (a==3) false,.b (a==4) false,.b (a==1) false,.b (a==5) false,.b (a==6) true,.b (a==6) true,.b (b != 0) false,.b (c != 0) false,.b (decide ((A.length:Int)>2)) false,.b (a==8) false,.b ((A.length:Int)==2) false,.l [] [93,92,91] [] (qaa Tryz.f197 0) (qar A 0) .ret (qaT q)]):
 Rt 197 [.agg (nd a b c A)] [cB q]:=
 h.of
theorem qIP(h:Oo [.b (a==2) false,.b (a==3) false,.b (a==4) false,.b (a==1) false,.b (a==5) false,.b (a==6) true,.b (a==6) true,.b (b != 0) false,.b (c != 0) false,.b (decide ((A.length:Int)>2)) false,.b (a==8) false,.b ((A.length:Int)==2) false,.l [] [93,92,91] [] (qaa Tryz.f197 0) (qar A 0) (.exit 1) qaW]):
 Rt 197 [.agg (nd a b c A)] [cB true]:=
 h.of
theorem qIQ(h:Oo [.b (a==2) false,.b (a==3) false,.b (a==4) false,.b (a==1) false,.b (a==5) false,.b (a==6) false,.b (a==7) true,.b (a==7) true,.b (b != 0) true]):
 Rt 197 [.agg (nd a b c A)] [cB false]:=
 h.of
theorem qIR(h:Oo [.b (a==2) false,.b (a==3) false,.b (a==4) false,.b (a==1) false,.b (a==5) false,.b (a==6) false,.b (a==7) true,.b (a==7) true,.b (b != 0) false,.b (c != 0) true]):
 Rt 197 [.agg (nd a b c A)] [cB false]:=
 h.of
theorem qIS(h:Oo [.b (a==2) false,.b (a==3) false,.b (a==4) false,.b (a==1) false,.b (a==5) false,.b (a==6) false,.b (a==7) true,.b (a==7) true,.b (b != 0) false,.b (c != 0) false,.b (decide ((A.length:Int)>2)) true]):
 Rt 197 [.agg (nd a b c A)] [cB false]:=
 h.of
theorem qIT(h:Oo [.b (a==2) false,.b (a==3) false,.b (a==4) false,.b (a==1) false,.b (a==5) false,.b (a==6) false,.b (a==7) true,.b (a==7) true,.b (b != 0) false,.b (c != 0) false,.b (decide ((A.length:Int)>2)) false,.b (a==8) true,.b (decide ((A.length:Int)>0)) true]):
 Rt 197 [.agg (nd a b c A)] [cB false]:=
 h.of
theorem qIU(h:Oo [.b (a==2) false,.b (a==3) false,.b (a==4) false,.b (a==1) false,.b (a==5) false,.b (a==6) false,.b (a==7) true,.b (a==7) true,.b (b != 0) false,.b (c != 0) false,.b (decide ((A.length:Int)>2)) false,.b (a==8) true,.b (decide ((A.length:Int)>0)) false,.b ((A.length:Int)==2) true,.p ((0:Int)≤0),.p (0<(A.length:Int)),.e A 0 [I d],.p ((0:Int)≤1),.p (1<(A.length:Int)),.e A 1 [I e],.b (d==e) true]):
 Rt 197 [.agg (nd a b c A)] [cB false]:=
 h.of
theorem qIV(h:Oo [.b (a==2) false,.b (a==3) false,.b (a==4) false,.b (a==1) false,.b (a==5) false,.b (a==6) false,.b (a==7) true,.b (a==7) true,.b (b != 0) false,.b (c != 0) false,.b (decide ((A.length:Int)>2)) false,.b (a==8) true,.b (decide ((A.length:Int)>0)) false,.b ((A.length:Int)==2) true,.p ((0:Int)≤0),.p (0<(A.length:Int)),.e A 0 [I d],.p ((0:Int)≤1),.p (1<(A.length:Int)),.e A 1 [I e],.b (d==e) false,.l [] [93,92,91] [] (qaa Tryz.f197 0) (qar A 0) .ret (qaT q)]):
 Rt 197 [.agg (nd a b c A)] [cB q]:=
 h.of
theorem qIW(h:Oo [.b (a==2) false,.b (a==3) false,.b (a==4) false,.b (a==1) false,.b (a==5) false,.b (a==6) false,.b (a==7) true,.b (a==7) true,.b (b != 0) false,.b (c != 0) false,.b (decide ((A.length:Int)>2)) false,.b (a==8) true,.b (decide ((A.length:Int)>0)) false,.b ((A.length:Int)==2) true,.p ((0:Int)≤0),.p (0<(A.length:Int)),.e A 0 [I d],.p ((0:Int)≤1),.p (1<(A.length:Int)),.e A 1 [I e],.b (d==e) false,.l [] [93,92,91] [] (qaa Tryz.f197 0) (qar A 0) (.exit 1) qaW]):
 Rt 197 [.agg (nd a b c A)] [cB true]:=
 h.of
theorem qIX(h:Oo [.b (a==2) false,.b (a==3) false,.b (a==4) false,.b (a==1) false,.b (a==5) false,.b (a==6) false,.b (a==7) true,.b (a==7) true,.b (b != 0) false,.b (c != 0) false,.b (decide ((A.length:Int)>2)) false,.b (a==8) true,.b (decide ((A.length:Int)>0)) false,.b ((A.length:Int)==2) false,.l [] [93,92,91] [] (qaa Tryz.f197 0) (qar A 0) .ret (qaT q)]):
 Rt 197 [.agg (nd a b c A)] [cB q]:=
 h.of
theorem qIY(h:Oo [.b (a==2) false,.b (a==3) false,.b (a==4) false,.b (a==1) false,.b (a==5) false,.b (a==6) false,.b (a==7) true,.b (a==7) true,.b (b != 0) false,.b (c != 0) false,.b (decide ((A.length:Int)>2)) false,.b (a==8) true,.b (decide ((A.length:Int)>0)) false,.b ((A.length:Int)==2) false,.l [] [93,92,91] [] (qaa Tryz.f197 0) (qar A 0) (.exit 1) qaW]):
 Rt 197 [.agg (nd a b c A)] [cB true]:=
 h.of
theorem qIZ(h:Oo [.b (a==2) false,.b (a==3) false,.b (a==4) false,.b (a==1) false,.b (a==5) false,.b (a==6) false,.b (a==7) true,.b (a==7) true,.b (b != 0) false,.b (c != 0) false,.b (decide ((A.length:Int)>2)) false,.b (a==8) false,.b ((A.length:Int)==2) true,.p ((0:Int)≤0),.p (0<(A.length:Int)),.e A 0 [I d],.p ((0:Int)≤1),.p (1<(A.length:Int)),.e A 1 [I e],.b (d==e) true]):
 Rt 197 [.agg (nd a b c A)] [cB false]:=
 h.of
theorem qI0(h:Oo [.b (a==2) false,.b (a==3) false,.b (a==4) false,.b (a==1) false,.b (a==5) false,.b (a==6) false,.b (a==7) true,.b (a==7) true,.b (b != 0) false,.b (c != 0) false,.b (decide ((A.length:Int)>2)) false,.b (a==8) false,.b ((A.length:Int)==2) true,.p ((0:Int)≤0),.p (0<(A.length:Int)),.e A 0 [I d],.p ((0:Int)≤1),.p (1<(A.length:Int)),.e A 1 [I e],.b (d==e) false,.l [] [93,92,91] [] (qaa Tryz.f197 0) (qar A 0) .ret (qaT q)]):
 Rt 197 [.agg (nd a b c A)] [cB q]:=
 h.of
theorem qI1(h:Oo [.b (a==2) false,.b (a==3) false,.b (a==4) false,.b (a==1) false,.b (a==5) false,.b (a==6) false,.b (a==7) true,.b (a==7) true,.b (b != 0) false,.b (c != 0) false,.b (decide ((A.length:Int)>2)) false,.b (a==8) false,.b ((A.length:Int)==2) true,.p ((0:Int)≤0),.p (0<(A.length:Int)),.e A 0 [I d],.p ((0:Int)≤1),.p (1<(A.length:Int)),.e A 1 [I e],.b (d==e) false,.l [] [93,92,91] [] (qaa Tryz.f197 0) (qar A 0) (.exit 1) qaW]):
 Rt 197 [.agg (nd a b c A)] [cB true]:=
 h.of
theorem qI2(h:Oo [.b (a==2) false,.b (a==3) false,.b (a==4) false,.b (a==1) false,.b (a==5) false,.b (a==6) false,.b (a==7) true,.b (a==7) true,.b (b != 0) false,.b (c != 0) false,.b (decide ((A.length:Int)>2)) false,.b (a==8) false,.b ((A.length:Int)==2) false,.l [] [93,92,91] [] (qaa Tryz.f197 0) (qar A 0) .ret (qaT q)]):
 Rt 197 [.agg (nd a b c A)] [cB q]:=
 h.of
theorem qI3(h:Oo [.b (a==2) false,.b (a==3) false,.b (a==4) false,.b (a==1) false,.b (a==5) false,.b (a==6) false,.b (a==7) true,.b (a==7) true,.b (b != 0) false,.b (c != 0) false,.b (decide ((A.length:Int)>2)) false,.b (a==8) false,.b ((A.length:Int)==2) false,.l [] [93,92,91] [] (qaa Tryz.f197 0) (qar A 0) (.exit 1) qaW]):
 Rt 197 [.agg (nd a b c A)] [cB true]:=
 h.of
theorem qI4(h:Oo [.b (a==2) false,.b (a==3) false,.b (a==4) false,.b (a==1) false,.b (a==5) false,.b (a==6) false,.b (a==7) false,.b (a==8) true,.b (b != 0) true]):
 Rt 197 [.agg (nd a b c A)] [cB false]:=
 h.of
theorem qI5(h:Oo [.b (a==2) false,.b (a==3) false,.b (a==4) false,.b (a==1) false,.b (a==5) false,.b (a==6) false,.b (a==7) false,.b (a==8) true,.b (b != 0) false,.b (c != 0) true]):
 Rt 197 [.agg (nd a b c A)] [cB false]:=
 h.of
theorem qI6(h:Oo [.b (a==2) false,.b (a==3) false,.b (a==4) false,.b (a==1) false,.b (a==5) false,.b (a==6) false,.b (a==7) false,.b (a==8) true,.b (b != 0) false,.b (c != 0) false,.b (decide ((A.length:Int)>2)) true]):
 Rt 197 [.agg (nd a b c A)] [cB false]:=
 h.of
theorem qI7(h:Oo [.b (a==2) false,.b (a==3) false,.b (a==4) false,.b (a==1) false,.b (a==5) false,.b (a==6) false,.b (a==7) false,.b (a==8) true,.b (b != 0) false,.b (c != 0) false,.b (decide ((A.length:Int)>2)) false,.b (a==8) true,.b (decide ((A.length:Int)>0)) true]):
 Rt 197 [.agg (nd a b c A)] [cB false]:=
 h.of
theorem qI8(h:Oo [.b (a==2) false,.b (a==3) false,.b (a==4) false,.b (a==1) false,.b (a==5) false,.b (a==6) false,.b (a==7) false,.b (a==8) true,.b (b != 0) false,.b (c != 0) false,.b (decide ((A.length:Int)>2)) false,.b (a==8) true,.b (decide ((A.length:Int)>0)) false,.b ((A.length:Int)==2) true,.p ((0:Int)≤0),.p (0<(A.length:Int)),.e A 0 [I d],.p ((0:Int)≤1),.p (1<(A.length:Int)),.e A 1 [I e],.b (d==e) true]):
 Rt 197 [.agg (nd a b c A)] [cB false]:=
 h.of
theorem qI9(h:Oo [.b (a==2) false,.b (a==3) false,.b (a==4) false,.b (a==1) false,.b (a==5) false,.b (a==6) false,.b (a==7) false,.b (a==8) true,.b (b != 0) false,.b (c != 0) false,.b (decide ((A.length:Int)>2)) false,.b (a==8) true,.b (decide ((A.length:Int)>0)) false,.b ((A.length:Int)==2) true,.p ((0:Int)≤0),.p (0<(A.length:Int)),.e A 0 [I d],.p ((0:Int)≤1),.p (1<(A.length:Int)),.e A 1 [I e],.b (d==e) false,.l [] [93,92,91] [] (qaa Tryz.f197 0) (qar A 0) .ret (qaT q)]):
 Rt 197 [.agg (nd a b c A)] [cB q]:=
 h.of
theorem qJa(h:Oo [.b (a==2) false,.b (a==3) false,.b (a==4) false,.b (a==1) false,.b (a==5) false,.b (a==6) false,.b (a==7) false,.b (a==8) true,.b (b != 0) false,.b (c != 0) false,.b (decide ((A.length:Int)>2)) false,.b (a==8) true,.b (decide ((A.length:Int)>0)) false,.b ((A.length:Int)==2) true,.p ((0:Int)≤0),.p (0<(A.length:Int)),.e A 0 [I d],.p ((0:Int)≤1),.p (1<(A.length:Int)),.e A 1 [I e],.b (d==e) false,.l [] [93,92,91] [] (qaa Tryz.f197 0) (qar A 0) (.exit 1) qaW]):
 Rt 197 [.agg (nd a b c A)] [cB true]:=
 h.of
theorem qJb(h:Oo [.b (a==2) false,.b (a==3) false,.b (a==4) false,.b (a==1) false,.b (a==5) false,.b (a==6) false,.b (a==7) false,.b (a==8) true,.b (b != 0) false,.b (c != 0) false,.b (decide ((A.length:Int)>2)) false,.b (a==8) true,.b (decide ((A.length:Int)>0)) false,.b ((A.length:Int)==2) false,.l [] [93,92,91] [] (qaa Tryz.f197 0) (qar A 0) .ret (qaT q)]):
 Rt 197 [.agg (nd a b c A)] [cB q]:=
 h.of
theorem qJc(h:Oo [.b (a==2) false,.b (a==3) false,.b (a==4) false,.b (a==1) false,.b (a==5) false,.b (a==6) false,.b (a==7) false,.b (a==8) true,.b (b != 0) false,.b (c != 0) false,.b (decide ((A.length:Int)>2)) false,.b (a==8) true,.b (decide ((A.length:Int)>0)) false,.b ((A.length:Int)==2) false,.l [] [93,92,91] [] (qaa Tryz.f197 0) (qar A 0) (.exit 1) qaW]):
 Rt 197 [.agg (nd a b c A)] [cB true]:=
 h.of
theorem qJd(h:Oo [.b (a==2) false,.b (a==3) false,.b (a==4) false,.b (a==1) false,.b (a==5) false,.b (a==6) false,.b (a==7) false,.b (a==8) false]):
 Rt 197 [.agg (nd a b c A)] [cB false]:=
 h.of
end Go.Proofs.YtdanpadojemjeaaGreat
