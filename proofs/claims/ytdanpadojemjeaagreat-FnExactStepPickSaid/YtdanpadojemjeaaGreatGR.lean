import Derived.Test.YtdanpadojemjeaaGreatRows
import Derived.Test.YtdanpadojemjeaaGreatGE
namespace Go.Proofs.YtdanpadojemjeaaGreat
open Go.Sx Go.RowKit
variable {a b c d e f g : Int} {A : LL} {q r s t : Bool}
theorem qEi(h:Oo [.b (a==2) true,.r 137 [cI b,cI 0,cI 999] [cB r],.r 137 [cI a,cI 1,cI 8] [cB q],.n q true]):
 Rt 220 [.agg (nd a b c A)] [cB false]:=
 h.of
theorem qEj(h:Oo [.b (a==2) true,.r 137 [cI b,cI 0,cI 999] [cB q],.r 137 [cI a,cI 1,cI 8] [cB r],.n r false,.n q true]):
 Rt 220 [.agg (nd a b c A)] [cB false]:=
 h.of
theorem qEk(h:Oo [.b (a==2) true,.r 137 [cI b,cI 0,cI 999] [cB q],.r 137 [cI a,cI 1,cI 8] [cB r],.n r false,.n q false,.b (!c==0) true]):
 Rt 220 [.agg (nd a b c A)] [cB false]:=
 h.of
theorem qEl(h:Oo [.b (a==2) true,.r 137 [cI b,cI 0,cI 999] [cB q],.r 137 [cI a,cI 1,cI 8] [cB r],.n r false,.n q false,.b (!c==0) false,.b (decide ((A.length:Int)>2)) true]):
 Rt 220 [.agg (nd a b c A)] [cB false]:=
 h.of
theorem qEm(h:Oo [.b (a==2) true,.r 137 [cI b,cI 0,cI 999] [cB q],.r 137 [cI a,cI 1,cI 8] [cB r],.n r false,.n q false,.b (!c==0) false,.b (decide ((A.length:Int)>2)) false,.b (a==8) true,.b (decide ((A.length:Int)>0)) true]):
 Rt 220 [.agg (nd a b c A)] [cB false]:=
 h.of
def qa7(a b c:Int)(A:LL)(d:Int):St:=
 { env:=envOf 93 [(1,vP 1),(5,vI d)],boxes:=[(1,[lI a,lI b,lI c,.sl .free 1 A])] }
def qcQ(q:Bool):St:=
 { env:=envOf 93 [(2,.al (.one (.sb q)))],boxes:=[] }
theorem qkG(h:Oo [.b (decide (a<(A.length:Int))) true,.p (0≤a),.p (a<(A.length:Int)),.e A a.toNat [I b],.r 137 [cI b,cI 0,cI 7] [cB q],.n q true]):
 Tp (qaa Tryz.f220 0) (qa7 c d e A a) .ret (qcQ false):=
 h.lp [2] []
theorem qEn(h:Oo [.b (decide (a<(A.length:Int))) true,.p (0≤a),.p (a<(A.length:Int)),.e A a.toNat [I c],.r 137 [cI c,cI 0,cI 7] [cB q],.n q false,.b (decide (a>0)) true,.p ((0:Int)≤0),.p (0<(A.length:Int)),.e A 0 [I d],.p ((0:Int)≤1),.p (1<(A.length:Int)),.e A 1 [I b],.b (d==b) true]):
 Tp (qaa Tryz.f220 0) (qa7 e f g A a) .ret (qcQ false):=
 h.lp [2] []
theorem qEo(h:Oo [.b (decide (a<(A.length:Int))) true,.p (0≤a),.p (a<(A.length:Int)),.e A a.toNat [I f],.r 137 [cI f,cI 0,cI 7] [cB q],.n q false,.b (decide (a>0)) true,.p ((0:Int)≤0),.p (0<(A.length:Int)),.e A 0 [I g],.p ((0:Int)≤1),.p (1<(A.length:Int)),.e A 1 [I d],.b (g==d) false,.u a]):
 Tp (qaa Tryz.f220 0) (qa7 b c e A a) .normal (qa7 b c e A (a+1)):=
 h.lp [5,1] [1]
theorem qoJ(h:Oo [.b (decide (a<(A.length:Int))) true,.p (0≤a),.p (a<(A.length:Int)),.e A a.toNat [I e],.r 137 [cI e,cI 0,cI 7] [cB q],.n q false,.b (decide (a>0)) false,.u a]):
 Tp (qaa Tryz.f220 0) (qa7 b c d A a) .normal (qa7 b c d A (a+1)):=
 h.lp [5,1] [1]
def qdc:St:=
 { env:=envOf 93 [],boxes:=[] }
theorem qkH(h:Oo [.b (decide (a<(A.length:Int))) false]):
 Tp (qaa Tryz.f220 0) (qa7 b c d A a) (.exit 1) qdc:=
 h.lp [] []
theorem qEp(h:Oo [.b (a==2) true,.r 137 [cI b,cI 0,cI 999] [cB q],.r 137 [cI a,cI 1,cI 8] [cB r],.n r false,.n q false,.b (!c==0) false,.b (decide ((A.length:Int)>2)) false,.b (a==8) true,.b (decide ((A.length:Int)>0)) false,.l [] [5,1] [1] (qaa Tryz.f220 0) (qa7 a b c A 0) .ret (qcQ s)]):
 Rt 220 [.agg (nd a b c A)] [cB s]:=
 h.of
theorem qEq(h:Oo [.b (a==2) true,.r 137 [cI b,cI 0,cI 999] [cB q],.r 137 [cI a,cI 1,cI 8] [cB r],.n r false,.n q false,.b (!c==0) false,.b (decide ((A.length:Int)>2)) false,.b (a==8) true,.b (decide ((A.length:Int)>0)) false,.l [] [5,1] [1] (qaa Tryz.f220 0) (qa7 a b c A 0) (.exit 1) qdc]):
 Rt 220 [.agg (nd a b c A)] [cB true]:=
 h.of
theorem qEr(h:Oo [.b (a==2) true,.r 137 [cI b,cI 0,cI 999] [cB q],.r 137 [cI a,cI 1,cI 8] [cB r],.n r false,.n q false,.b (!c==0) false,.b (decide ((A.length:Int)>2)) false,.b (a==8) false,.l [] [5,1] [1] (qaa Tryz.f220 0) (qa7 a b c A 0) .ret (qcQ s)]):
 Rt 220 [.agg (nd a b c A)] [cB s]:=
 h.of
theorem qEs(h:Oo [.b (a==2) true,.r 137 [cI b,cI 0,cI 999] [cB q],.r 137 [cI a,cI 1,cI 8] [cB r],.n r false,.n q false,.b (!c==0) false,.b (decide ((A.length:Int)>2)) false,.b (a==8) false,.l [] [5,1] [1] (qaa Tryz.f220 0) (qa7 a b c A 0) (.exit 1) qdc]):
 Rt 220 [.agg (nd a b c A)] [cB true]:=
 h.of
theorem qEt(h:Oo [.b (a==2) false,.b (a==3) true,.r 137 [cI b,cI 1,cI 10] [cB r],.a .wr,.r 137 [cI c,cI 0,cI (IntKind.i64.wrap (b-1))] [cB s],.r 137 [cI a,cI 1,cI 8] [cB q],.n q true]):
 Rt 220 [.agg (nd a b c A)] [cB false]:=
 h.of
theorem qEu(h:Oo [.b (a==2) false,.b (a==3) true,.r 137 [cI b,cI 1,cI 10] [cB q],.a .wr,.r 137 [cI c,cI 0,cI (IntKind.i64.wrap (b-1))] [cB s],.r 137 [cI a,cI 1,cI 8] [cB r],.n r false,.n q true]):
 Rt 220 [.agg (nd a b c A)] [cB false]:=
 h.of
theorem qEv(h:Oo [.b (a==2) false,.b (a==3) true,.r 137 [cI b,cI 1,cI 10] [cB q],.a .wr,.r 137 [cI c,cI 0,cI (IntKind.i64.wrap (b-1))] [cB r],.r 137 [cI a,cI 1,cI 8] [cB s],.n s false,.n q false,.n r true]):
 Rt 220 [.agg (nd a b c A)] [cB false]:=
 h.of
theorem qEw(h:Oo [.b (a==2) false,.b (a==3) true,.r 137 [cI b,cI 1,cI 10] [cB q],.a .wr,.r 137 [cI c,cI 0,cI (IntKind.i64.wrap (b-1))] [cB r],.r 137 [cI a,cI 1,cI 8] [cB s],.n s false,.n q false,.n r false,.b (decide ((A.length:Int)>2)) true]):
 Rt 220 [.agg (nd a b c A)] [cB false]:=
 h.of
theorem qEx(h:Oo [.b (a==2) false,.b (a==3) true,.r 137 [cI b,cI 1,cI 10] [cB q],.a .wr,.r 137 [cI c,cI 0,cI (IntKind.i64.wrap (b-1))] [cB r],.r 137 [cI a,cI 1,cI 8] [cB s],.n s false,.n q false,.n r false,.b (decide ((A.length:Int)>2)) false,.b (a==8) true,.b (decide ((A.length:Int)>0)) true]):
 Rt 220 [.agg (nd a b c A)] [cB false]:=
 h.of
theorem qEy(h:Oo [.b (a==2) false,.b (a==3) true,.r 137 [cI b,cI 1,cI 10] [cB q],.a .wr,.r 137 [cI c,cI 0,cI (IntKind.i64.wrap (b-1))] [cB r],.r 137 [cI a,cI 1,cI 8] [cB s],.n s false,.n q false,.n r false,.b (decide ((A.length:Int)>2)) false,.b (a==8) true,.b (decide ((A.length:Int)>0)) false,.l [] [5,1] [1] (qaa Tryz.f220 0) (qa7 a b c A 0) .ret (qcQ t)]):
 Rt 220 [.agg (nd a b c A)] [cB t]:=
 h.of
theorem qEz(h:Oo [.b (a==2) false,.b (a==3) true,.r 137 [cI b,cI 1,cI 10] [cB q],.a .wr,.r 137 [cI c,cI 0,cI (IntKind.i64.wrap (b-1))] [cB r],.r 137 [cI a,cI 1,cI 8] [cB s],.n s false,.n q false,.n r false,.b (decide ((A.length:Int)>2)) false,.b (a==8) true,.b (decide ((A.length:Int)>0)) false,.l [] [5,1] [1] (qaa Tryz.f220 0) (qa7 a b c A 0) (.exit 1) qdc]):
 Rt 220 [.agg (nd a b c A)] [cB true]:=
 h.of
theorem qEA(h:Oo [.b (a==2) false,.b (a==3) true,.r 137 [cI b,cI 1,cI 10] [cB q],.a .wr,.r 137 [cI c,cI 0,cI (IntKind.i64.wrap (b-1))] [cB r],.r 137 [cI a,cI 1,cI 8] [cB s],.n s false,.n q false,.n r false,.b (decide ((A.length:Int)>2)) false,.b (a==8) false,.l [] [5,1] [1] (qaa Tryz.f220 0) (qa7 a b c A 0) .ret (qcQ t)]):
 Rt 220 [.agg (nd a b c A)] [cB t]:=
 h.of
theorem qEB(h:Oo [.b (a==2) false,.b (a==3) true,.r 137 [cI b,cI 1,cI 10] [cB q],.a .wr,.r 137 [cI c,cI 0,cI (IntKind.i64.wrap (b-1))] [cB r],.r 137 [cI a,cI 1,cI 8] [cB s],.n s false,.n q false,.n r false,.b (decide ((A.length:Int)>2)) false,.b (a==8) false,.l [] [5,1] [1] (qaa Tryz.f220 0) (qa7 a b c A 0) (.exit 1) qdc]):
 Rt 220 [.agg (nd a b c A)] [cB true]:=
 h.of
theorem qEC(h:Oo [.b (a==2) false,.b (a==3) false,.b (a==4) true,.r 137 [cI b,cI 0,cI 99] [cB r],.r 137 [cI a,cI 1,cI 8] [cB q],.n q true]):
 Rt 220 [.agg (nd a b c A)] [cB false]:=
 h.of
theorem qED(h:Oo [.b (a==2) false,.b (a==3) false,.b (a==4) true,.r 137 [cI b,cI 0,cI 99] [cB q],.r 137 [cI a,cI 1,cI 8] [cB r],.n r false,.n q true]):
 Rt 220 [.agg (nd a b c A)] [cB false]:=
 h.of
theorem qEE(h:Oo [.b (a==2) false,.b (a==3) false,.b (a==4) true,.r 137 [cI b,cI 0,cI 99] [cB q],.r 137 [cI a,cI 1,cI 8] [cB r],.n r false,.n q false,.b (!c==0) true]):
 Rt 220 [.agg (nd a b c A)] [cB false]:=
 h.of
theorem qEF(h:Oo [.b (a==2) false,.b (a==3) false,.b (a==4) true,.r 137 [cI b,cI 0,cI 99] [cB q],.r 137 [cI a,cI 1,cI 8] [cB r],.n r false,.n q false,.b (!c==0) false,.b (decide ((A.length:Int)>2)) true]):
 Rt 220 [.agg (nd a b c A)] [cB false]:=
 h.of
theorem qEG(h:Oo [.b (a==2) false,.b (a==3) false,.b (a==4) true,.r 137 [cI b,cI 0,cI 99] [cB q],.r 137 [cI a,cI 1,cI 8] [cB r],.n r false,.n q false,.b (!c==0) false,.b (decide ((A.length:Int)>2)) false,.b (a==8) true,.b (decide ((A.length:Int)>0)) true]):
 Rt 220 [.agg (nd a b c A)] [cB false]:=
 h.of
theorem qEH(h:Oo [.b (a==2) false,.b (a==3) false,.b (a==4) true,.r 137 [cI b,cI 0,cI 99] [cB q],.r 137 [cI a,cI 1,cI 8] [cB r],.n r false,.n q false,.b (!c==0) false,.b (decide ((A.length:Int)>2)) false,.b (a==8) true,.b (decide ((A.length:Int)>0)) false,.l [] [5,1] [1] (qaa Tryz.f220 0) (qa7 a b c A 0) .ret (qcQ s)]):
 Rt 220 [.agg (nd a b c A)] [cB s]:=
 h.of
theorem qEI(h:Oo [.b (a==2) false,.b (a==3) false,.b (a==4) true,.r 137 [cI b,cI 0,cI 99] [cB q],.r 137 [cI a,cI 1,cI 8] [cB r],.n r false,.n q false,.b (!c==0) false,.b (decide ((A.length:Int)>2)) false,.b (a==8) true,.b (decide ((A.length:Int)>0)) false,.l [] [5,1] [1] (qaa Tryz.f220 0) (qa7 a b c A 0) (.exit 1) qdc]):
 Rt 220 [.agg (nd a b c A)] [cB true]:=
 h.of
theorem qEJ(h:Oo [.b (a==2) false,.b (a==3) false,.b (a==4) true,.r 137 [cI b,cI 0,cI 99] [cB q],.r 137 [cI a,cI 1,cI 8] [cB r],.n r false,.n q false,.b (!c==0) false,.b (decide ((A.length:Int)>2)) false,.b (a==8) false,.l [] [5,1] [1] (qaa Tryz.f220 0) (qa7 a b c A 0) .ret (qcQ s)]):
 Rt 220 [.agg (nd a b c A)] [cB s]:=
 h.of
theorem qEK(h:Oo [.b (a==2) false,.b (a==3) false,.b (a==4) true,.r 137 [cI b,cI 0,cI 99] [cB q],.r 137 [cI a,cI 1,cI 8] [cB r],.n r false,.n q false,.b (!c==0) false,.b (decide ((A.length:Int)>2)) false,.b (a==8) false,.l [] [5,1] [1] (qaa Tryz.f220 0) (qa7 a b c A 0) (.exit 1) qdc]):
 Rt 220 [.agg (nd a b c A)] [cB true]:=
 h.of
theorem qEL(h:Oo [.b (a==2) false,.b (a==3) false,.b (a==4) false,.r 137 [cI a,cI 1,cI 8] [cB q],.n q true]):
 Rt 220 [.agg (nd a b c A)] [cB false]:=
 h.of
theorem qEM(h:Oo [.b (a==2) false,.b (a==3) false,.b (a==4) false,.r 137 [cI a,cI 1,cI 8] [cB q],.n q false,.b (!b==0) true]):
 Rt 220 [.agg (nd a b c A)] [cB false]:=
 h.of
theorem qEN(h:Oo [.b (a==2) false,.b (a==3) false,.b (a==4) false,.r 137 [cI a,cI 1,cI 8] [cB q],.n q false,.b (!b==0) false,.b (!c==0) true]):
 Rt 220 [.agg (nd a b c A)] [cB false]:=
 h.of
theorem qEO(h:Oo [.b (a==2) false,.b (a==3) false,.b (a==4) false,.r 137 [cI a,cI 1,cI 8] [cB q],.n q false,.b (!b==0) false,.b (!c==0) false,.b (decide ((A.length:Int)>2)) true]):
 Rt 220 [.agg (nd a b c A)] [cB false]:=
 h.of
theorem qEP(h:Oo [.b (a==2) false,.b (a==3) false,.b (a==4) false,.r 137 [cI a,cI 1,cI 8] [cB q],.n q false,.b (!b==0) false,.b (!c==0) false,.b (decide ((A.length:Int)>2)) false,.b (a==8) true,.b (decide ((A.length:Int)>0)) true]):
 Rt 220 [.agg (nd a b c A)] [cB false]:=
 h.of
theorem qEQ(h:Oo [.b (a==2) false,.b (a==3) false,.b (a==4) false,.r 137 [cI a,cI 1,cI 8] [cB q],.n q false,.b (!b==0) false,.b (!c==0) false,.b (decide ((A.length:Int)>2)) false,.b (a==8) true,.b (decide ((A.length:Int)>0)) false,.l [] [5,1] [1] (qaa Tryz.f220 0) (qa7 a b c A 0) .ret (qcQ r)]):
 Rt 220 [.agg (nd a b c A)] [cB r]:=
 h.of
theorem qER(h:Oo [.b (a==2) false,.b (a==3) false,.b (a==4) false,.r 137 [cI a,cI 1,cI 8] [cB q],.n q false,.b (!b==0) false,.b (!c==0) false,.b (decide ((A.length:Int)>2)) false,.b (a==8) true,.b (decide ((A.length:Int)>0)) false,.l [] [5,1] [1] (qaa Tryz.f220 0) (qa7 a b c A 0) (.exit 1) qdc]):
 Rt 220 [.agg (nd a b c A)] [cB true]:=
 h.of
theorem qES(h:Oo [.b (a==2) false,.b (a==3) false,.b (a==4) false,.r 137 [cI a,cI 1,cI 8] [cB q],.n q false,.b (!b==0) false,.b (!c==0) false,.b (decide ((A.length:Int)>2)) false,.b (a==8) false,.l [] [5,1] [1] (qaa Tryz.f220 0) (qa7 a b c A 0) .ret (qcQ r)]):
 Rt 220 [.agg (nd a b c A)] [cB r]:=
 h.of
theorem qET(h:Oo [.b (a==2) false,.b (a==3) false,.b (a==4) false,.r 137 [cI a,cI 1,cI 8] [cB q],.n q false,.b (!b==0) false,.b (!c==0) false,.b (decide ((A.length:Int)>2)) false,.b (a==8) false,.l [] [5,1] [1] (qaa Tryz.f220 0) (qa7 a b c A 0) (.exit 1) qdc]):
 Rt 220 [.agg (nd a b c A)] [cB true]:=
 h.of
theorem qEU(h:Oo [.b (a==2) true,.r 81 [cI b,cI 0,cI 999] [cB q],.n q true]):
 Rt 197 [.agg (nd a b c A)] [cB false]:=
 h.of
theorem qEV(h:Oo [.b (a==2) true,.r 81 [cI b,cI 0,cI 999] [cB q],.n q false,.b (c != 0) true]):
 Rt 197 [.agg (nd a b c A)] [cB false]:=
 h.of
theorem qEW(h:Oo [.b (a==2) true,.r 81 [cI b,cI 0,cI 999] [cB q],.n q false,.b (c != 0) false,.b (decide ((A.length:Int)>2)) true]):
 Rt 197 [.agg (nd a b c A)] [cB false]:=
 h.of
theorem qEX(h:Oo [.b (a==2) true,.r 81 [cI b,cI 0,cI 999] [cB q],.n q false,.b (c != 0) false,.b (decide ((A.length:Int)>2)) false,.b (a==8) true,.b (decide ((A.length:Int)>0)) true]):
 Rt 197 [.agg (nd a b c A)] [cB false]:=
 h.of
theorem qEY(h:Oo [.b (a==2) true,.r 81 [cI b,cI 0,cI 999] [cB q],.n q false,.b (c != 0) false,.b (decide ((A.length:Int)>2)) false,.b (a==8) true,.b (decide ((A.length:Int)>0)) false,.b ((A.length:Int)==2) true,.p ((0:Int)≤0),.p (0<(A.length:Int)),.e A 0 [I d],.p ((0:Int)≤1),.p (1<(A.length:Int)),.e A 1 [I e],.b (d==e) true]):
 Rt 197 [.agg (nd a b c A)] [cB false]:=
 h.of
def qap(A:LL)(a:Int):St:=
 { env:=envOf 101 [(91,vF 1 A),(92,vI (A.length:Int)),(93,vI a)],boxes:=[] }
def qaO(q:Bool):St:=
 { env:=envOf 101 [(2,.al (.one (.sb q)))],boxes:=[] }
theorem qEZ(h:Oo [.b (decide (a<(A.length:Int))) true,.p (0≤a),.p (a<(A.length:Int)),.e A a.toNat [I b],.r 81 [cI b,cI 0,cI 7] [cB q],.n q true]):
 Tp (qaa Tryz.f197 0) (qap A a) .ret (qaO false):=
 h.lp [2] []
theorem qE0(h:Oo [.b (decide (a<(A.length:Int))) true,.p (0≤a),.p (a<(A.length:Int)),.e A a.toNat [I b],.r 81 [cI b,cI 0,cI 7] [cB q],.n q false,.u a]):
 Tp (qaa Tryz.f197 0) (qap A a) .normal (qap A (a+1)):=
 h.lp [93,92,91] []
def qaS:St:=
 { env:=envOf 101 [],boxes:=[] }
theorem qE1(h:Oo [.b (decide (a<(A.length:Int))) false]):
 Tp (qaa Tryz.f197 0) (qap A a) (.exit 1) qaS:=
 h.lp [] []
theorem qE2(h:Oo [.b (a==2) true,.r 81 [cI b,cI 0,cI 999] [cB q],.n q false,.b (c != 0) false,.b (decide ((A.length:Int)>2)) false,.b (a==8) true,.b (decide ((A.length:Int)>0)) false,.b ((A.length:Int)==2) true,.p ((0:Int)≤0),.p (0<(A.length:Int)),.e A 0 [I d],.p ((0:Int)≤1),.p (1<(A.length:Int)),.e A 1 [I e],.b (d==e) false,.l [] [93,92,91] [] (qaa Tryz.f197 0) (qap A 0) .ret (qaO r)]):
 Rt 197 [.agg (nd a b c A)] [cB r]:=
 h.of
theorem qE3(h:Oo [.b (a==2) true,.r 81 [cI b,cI 0,cI 999] [cB q],.n q false,.b (c != 0) false,.b (decide ((A.length:Int)>2)) false,.b (a==8) true,.b (decide ((A.length:Int)>0)) false,.b ((A.length:Int)==2) true,.p ((0:Int)≤0),.p (0<(A.length:Int)),.e A 0 [I d],.p ((0:Int)≤1),.p (1<(A.length:Int)),.e A 1 [I e],.b (d==e) false,.l [] [93,92,91] [] (qaa Tryz.f197 0) (qap A 0) (.exit 1) qaS]):
 Rt 197 [.agg (nd a b c A)] [cB true]:=
 h.of
theorem qE4(h:Oo [.b (a==2) true,.r 81 [cI b,cI 0,cI 999] [cB q],.n q false,.b (c != 0) false,.b (decide ((A.length:Int)>2)) false,.b (a==8) true,.b (decide ((A.length:Int)>0)) false,.b ((A.length:Int)==2) false,.l [] [93,92,91] [] (qaa Tryz.f197 0) (qap A 0) .ret (qaO r)]):
 Rt 197 [.agg (nd a b c A)] [cB r]:=
 h.of
theorem qE5(h:Oo [.b (a==2) true,.r 81 [cI b,cI 0,cI 999] [cB q],.n q false,.b (c != 0) false,.b (decide ((A.length:Int)>2)) false,.b (a==8) true,.b (decide ((A.length:Int)>0)) false,.b ((A.length:Int)==2) false,.l [] [93,92,91] [] (qaa Tryz.f197 0) (qap A 0) (.exit 1) qaS]):
 Rt 197 [.agg (nd a b c A)] [cB true]:=
 h.of
theorem qE6(h:Oo [.b (a==2) true,.r 81 [cI b,cI 0,cI 999] [cB q],.n q false,.b (c != 0) false,.b (decide ((A.length:Int)>2)) false,.b (a==8) false,.b ((A.length:Int)==2) true,.p ((0:Int)≤0),.p (0<(A.length:Int)),.e A 0 [I d],.p ((0:Int)≤1),.p (1<(A.length:Int)),.e A 1 [I e],.b (d==e) true]):
 Rt 197 [.agg (nd a b c A)] [cB false]:=
 h.of
theorem qE7(h:Oo [.b (a==2) true,.r 81 [cI b,cI 0,cI 999] [cB q],.n q false,.b (c != 0) false,.b (decide ((A.length:Int)>2)) false,.b (a==8) false,.b ((A.length:Int)==2) true,.p ((0:Int)≤0),.p (0<(A.length:Int)),.e A 0 [I d],.p ((0:Int)≤1),.p (1<(A.length:Int)),.e A 1 [I e],.b (d==e) false,.l [] [93,92,91] [] (qaa Tryz.f197 0) (qap A 0) .ret (qaO r)]):
 Rt 197 [.agg (nd a b c A)] [cB r]:=
 h.of
theorem qE8(h:Oo [.b (a==2) true,.r 81 [cI b,cI 0,cI 999] [cB q],.n q false,.b (c != 0) false,.b (decide ((A.length:Int)>2)) false,.b (a==8) false,.b ((A.length:Int)==2) true,.p ((0:Int)≤0),.p (0<(A.length:Int)),.e A 0 [I d],.p ((0:Int)≤1),.p (1<(A.length:Int)),.e A 1 [I e],.b (d==e) false,.l [] [93,92,91] [] (qaa Tryz.f197 0) (qap A 0) (.exit 1) qaS]):
 Rt 197 [.agg (nd a b c A)] [cB true]:=
 h.of
theorem qE9(h:Oo [.b (a==2) true,.r 81 [cI b,cI 0,cI 999] [cB q],.n q false,.b (c != 0) false,.b (decide ((A.length:Int)>2)) false,.b (a==8) false,.b ((A.length:Int)==2) false,.l [] [93,92,91] [] (qaa Tryz.f197 0) (qap A 0) .ret (qaO r)]):
 Rt 197 [.agg (nd a b c A)] [cB r]:=
 h.of
theorem qFa(h:Oo [.b (a==2) true,.r 81 [cI b,cI 0,cI 999] [cB q],.n q false,.b (c != 0) false,.b (decide ((A.length:Int)>2)) false,.b (a==8) false,.b ((A.length:Int)==2) false,.l [] [93,92,91] [] (qaa Tryz.f197 0) (qap A 0) (.exit 1) qaS]):
 Rt 197 [.agg (nd a b c A)] [cB true]:=
 h.of
theorem qFb(h:Oo [.b (a==2) false,.b (a==3) true,.r 81 [cI b,cI 1,cI 10] [cB q],.n q true]):
 Rt 197 [.agg (nd a b c A)] [cB false]:=
 h.of
theorem qFc(h:Oo [.b (a==2) false,.b (a==3) true,.r 81 [cI b,cI 1,cI 10] [cB q],.n q false,.a .wr,.r 81 [cI c,cI 0,cI (IntKind.i64.wrap (b-1))] [cB r],.n r true]):
 Rt 197 [.agg (nd a b c A)] [cB false]:=
 h.of
theorem qFd(h:Oo [.b (a==2) false,.b (a==3) true,.r 81 [cI b,cI 1,cI 10] [cB q],.n q false,.a .wr,.r 81 [cI c,cI 0,cI (IntKind.i64.wrap (b-1))] [cB r],.n r false,.b (decide ((A.length:Int)>2)) true]):
 Rt 197 [.agg (nd a b c A)] [cB false]:=
 h.of
theorem qFe(h:Oo [.b (a==2) false,.b (a==3) true,.r 81 [cI b,cI 1,cI 10] [cB q],.n q false,.a .wr,.r 81 [cI c,cI 0,cI (IntKind.i64.wrap (b-1))] [cB r],.n r false,.b (decide ((A.length:Int)>2)) false,.b (a==8) true,.b (decide ((A.length:Int)>0)) true]):
 Rt 197 [.agg (nd a b c A)] [cB false]:=
 h.of
theorem qFf(h:Oo [.b (a==2) false,.b (a==3) true,.r 81 [cI b,cI 1,cI 10] [cB q],.n q false,.a .wr,.r 81 [cI c,cI 0,cI (IntKind.i64.wrap (b-1))] [cB r],.n r false,.b (decide ((A.length:Int)>2)) false,.b (a==8) true,.b (decide ((A.length:Int)>0)) false,.b ((A.length:Int)==2) true,.p ((0:Int)≤0),.p (0<(A.length:Int)),.e A 0 [I d],.p ((0:Int)≤1),.p (1<(A.length:Int)),.e A 1 [I e],.b (d==e) true]):
 Rt 197 [.agg (nd a b c A)] [cB false]:=
 h.of
theorem qFg(h:Oo [.b (a==2) false,.b (a==3) true,.r 81 [cI b,cI 1,cI 10] [cB q],.n q false,.a .wr,.r 81 [cI c,cI 0,cI (IntKind.i64.wrap (b-1))] [cB r],.n r false,.b (decide ((A.length:Int)>2)) false,.b (a==8) true,.b (decide ((A.length:Int)>0)) false,.b ((A.length:Int)==2) true,.p ((0:Int)≤0),.p (0<(A.length:Int)),.e A 0 [I d],.p ((0:Int)≤1),.p (1<(A.length:Int)),.e A 1 [I e],.b (d==e) false,.l [] [93,92,91] [] (qaa Tryz.f197 0) (qap A 0) .ret (qaO s)]):
 Rt 197 [.agg (nd a b c A)] [cB s]:=
 h.of
theorem qFh(h:Oo [.b (a==2) false,.b (a==3) true,.r 81 [cI b,cI 1,cI 10] [cB q],.n q false,.a .wr,.r 81 [cI c,cI 0,cI (IntKind.i64.wrap (b-1))] [cB r],.n r false,.b (decide ((A.length:Int)>2)) false,.b (a==8) true,.b (decide ((A.length:Int)>0)) false,.b ((A.length:Int)==2) true,.p ((0:Int)≤0),.p (0<(A.length:Int)),.e A 0 [I d],.p ((0:Int)≤1),.p (1<(A.length:Int)),.e A 1 [I e],.b (d==e) false,.l [] [93,92,91] [] (qaa Tryz.f197 0) (qap A 0) (.exit 1) qaS]):
 Rt 197 [.agg (nd a b c A)] [cB true]:=
 h.of
theorem qFi(h:Oo [.b (a==2) false,.b (a==3) true,.r 81 [cI b,cI 1,cI 10] [cB q],.n q false,.a .wr,.r 81 [cI c,cI 0,cI (IntKind.i64.wrap (b-1))] [cB r],.n r false,.b (decide ((A.length:Int)>2)) false,.b (a==8) true,.b (decide ((A.length:Int)>0)) false,.b ((A.length:Int)==2) false,.l [] [93,92,91] [] (qaa Tryz.f197 0) (qap A 0) .ret (qaO s)]):
 Rt 197 [.agg (nd a b c A)] [cB s]:=
 h.of
theorem qFj(h:Oo [.b (a==2) false,.b (a==3) true,.r 81 [cI b,cI 1,cI 10] [cB q],.n q false,.a .wr,.r 81 [cI c,cI 0,cI (IntKind.i64.wrap (b-1))] [cB r],.n r false,.b (decide ((A.length:Int)>2)) false,.b (a==8) true,.b (decide ((A.length:Int)>0)) false,.b ((A.length:Int)==2) false,.l [] [93,92,91] [] (qaa Tryz.f197 0) (qap A 0) (.exit 1) qaS]):
 Rt 197 [.agg (nd a b c A)] [cB true]:=
 h.of
theorem qFk(h:Oo [.b (a==2) false,.b (a==3) true,.r 81 [cI b,cI 1,cI 10] [cB q],.n q false,.a .wr,.r 81 [cI c,cI 0,cI (IntKind.i64.wrap (b-1))] [cB r],.n r false,.b (decide ((A.length:Int)>2)) false,.b (a==8) false,.b ((A.length:Int)==2) true,.p ((0:Int)≤0),.p (0<(A.length:Int)),.e A 0 [I d],.p ((0:Int)≤1),.p (1<(A.length:Int)),.e A 1 [I e],.b (d==e) true]):
 Rt 197 [.agg (nd a b c A)] [cB false]:=
 h.of
theorem qFl(h:Oo [.b (a==2) false,.b (a==3) true,.r 81 [cI b,cI 1,cI 10] [cB q],.n q false,.a .wr,.r 81 [cI c,cI 0,cI (IntKind.i64.wrap (b-1))] [cB r],.n r false,.b (decide ((A.length:Int)>2)) false,.b (a==8) false,.b ((A.length:Int)==2) true,.p ((0:Int)≤0),.p (0<(A.length:Int)),.e A 0 [I d],.p ((0:Int)≤1),.p (1<(A.length:Int)),.e A 1 [I e],.b (d==e) false,.l [] [93,92,91] [] (qaa Tryz.f197 0) (qap A 0) .ret (qaO s)]):
 Rt 197 [.agg (nd a b c A)] [cB s]:=
 h.of
theorem qFm(h:Oo [.b (a==2) false,.b (a==3) true,.r 81 [cI b,cI 1,cI 10] [cB q],.n q false,.a .wr,.r 81 [cI c,cI 0,cI (IntKind.i64.wrap (b-1))] [cB r],.n r false,.b (decide ((A.length:Int)>2)) false,.b (a==8) false,.b ((A.length:Int)==2) true,.p ((0:Int)≤0),.p (0<(A.length:Int)),.e A 0 [I d],.p ((0:Int)≤1),.p (1<(A.length:Int)),.e A 1 [I e],.b (d==e) false,.l [] [93,92,91] [] (qaa Tryz.f197 0) (qap A 0) (.exit 1) qaS]):
 Rt 197 [.agg (nd a b c A)] [cB true]:=
 h.of
theorem qFn(h:Oo [.b (a==2) false,.b (a==3) true,.r 81 [cI b,cI 1,cI 10] [cB q],.n q false,.a .wr,.r 81 [cI c,cI 0,cI (IntKind.i64.wrap (b-1))] [cB r],.n r false,.b (decide ((A.length:Int)>2)) false,.b (a==8) false,.b ((A.length:Int)==2) false,.l [] [93,92,91] [] (qaa Tryz.f197 0) (qap A 0) .ret (qaO s)]):
 Rt 197 [.agg (nd a b c A)] [cB s]:=
 h.of
theorem qFo(h:Oo [.b (a==2) false,.b (a==3) true,.r 81 [cI b,cI 1,cI 10] [cB q],.n q false,.a .wr,.r 81 [cI c,cI 0,cI (IntKind.i64.wrap (b-1))] [cB r],.n r false,.b (decide ((A.length:Int)>2)) false,.b (a==8) false,.b ((A.length:Int)==2) false,.l [] [93,92,91] [] (qaa Tryz.f197 0) (qap A 0) (.exit 1) qaS]):
 Rt 197 [.agg (nd a b c A)] [cB true]:=
 h.of
theorem qFp(h:Oo [.b (a==2) false,.b (a==3) false,.b (a==4) true,.r 81 [cI b,cI 0,cI 99] [cB q],.n q true]):
 Rt 197 [.agg (nd a b c A)] [cB false]:=
 h.of
theorem qFq(h:Oo [.b (a==2) false,.b (a==3) false,.b (a==4) true,.r 81 [cI b,cI 0,cI 99] [cB q],.n q false,.b (c != 0) true]):
 Rt 197 [.agg (nd a b c A)] [cB false]:=
 h.of
theorem qFr(h:Oo [.b (a==2) false,.b (a==3) false,.b (a==4) true,.r 81 [cI b,cI 0,cI 99] [cB q],.n q false,.b (c != 0) false,.b (decide ((A.length:Int)>2)) true]):
 Rt 197 [.agg (nd a b c A)] [cB false]:=
 h.of
theorem qFs(h:Oo [.b (a==2) false,.b (a==3) false,.b (a==4) true,.r 81 [cI b,cI 0,cI 99] [cB q],.n q false,.b (c != 0) false,.b (decide ((A.length:Int)>2)) false,.b (a==8) true,.b (decide ((A.length:Int)>0)) true]):
 Rt 197 [.agg (nd a b c A)] [cB false]:=
 h.of
theorem qFt(h:Oo [.b (a==2) false,.b (a==3) false,.b (a==4) true,.r 81 [cI b,cI 0,cI 99] [cB q],.n q false,.b (c != 0) false,.b (decide ((A.length:Int)>2)) false,.b (a==8) true,.b (decide ((A.length:Int)>0)) false,.b ((A.length:Int)==2) true,.p ((0:Int)≤0),.p (0<(A.length:Int)),.e A 0 [I d],.p ((0:Int)≤1),.p (1<(A.length:Int)),.e A 1 [I e],.b (d==e) true]):
 Rt 197 [.agg (nd a b c A)] [cB false]:=
 h.of
theorem qFu(h:Oo [.b (a==2) false,.b (a==3) false,.b (a==4) true,.r 81 [cI b,cI 0,cI 99] [cB q],.n q false,.b (c != 0) false,.b (decide ((A.length:Int)>2)) false,.b (a==8) true,.b (decide ((A.length:Int)>0)) false,.b ((A.length:Int)==2) true,.p ((0:Int)≤0),.p (0<(A.length:Int)),.e A 0 [I d],.p ((0:Int)≤1),.p (1<(A.length:Int)),.e A 1 [I e],.b (d==e) false,.l [] [93,92,91] [] (qaa Tryz.f197 0) (qap A 0) .ret (qaO r)]):
 Rt 197 [.agg (nd a b c A)] [cB r]:=
 h.of
theorem qFv(h:Oo [.b (a==2) false,.b (a==3) false,.b (a==4) true,.r 81 [cI b,cI 0,cI 99] [cB q],.n q false,.b (c != 0) false,.b (decide ((A.length:Int)>2)) false,.b (a==8) true,.b (decide ((A.length:Int)>0)) false,.b ((A.length:Int)==2) true,.p ((0:Int)≤0),.p (0<(A.length:Int)),.e A 0 [I d],.p ((0:Int)≤1),.p (1<(A.length:Int)),.e A 1 [I e],.b (d==e) false,.l [] [93,92,91] [] (qaa Tryz.f197 0) (qap A 0) (.exit 1) qaS]):
 Rt 197 [.agg (nd a b c A)] [cB true]:=
 h.of
theorem qFw(h:Oo [.b (a==2) false,.b (a==3) false,.b (a==4) true,.r 81 [cI b,cI 0,cI 99] [cB q],.n q false,.b (c != 0) false,.b (decide ((A.length:Int)>2)) false,.b (a==8) true,.b (decide ((A.length:Int)>0)) false,.b ((A.length:Int)==2) false,.l [] [93,92,91] [] (qaa Tryz.f197 0) (qap A 0) .ret (qaO r)]):
 Rt 197 [.agg (nd a b c A)] [cB r]:=
 h.of
theorem qFx(h:Oo [.b (a==2) false,.b (a==3) false,.b (a==4) true,.r 81 [cI b,cI 0,cI 99] [cB q],.n q false,.b (c != 0) false,.b (decide ((A.length:Int)>2)) false,.b (a==8) true,.b (decide ((A.length:Int)>0)) false,.b ((A.length:Int)==2) false,.l [] [93,92,91] [] (qaa Tryz.f197 0) (qap A 0) (.exit 1) qaS]):
 Rt 197 [.agg (nd a b c A)] [cB true]:=
 h.of
theorem qFy(h:Oo [.b (a==2) false,.b (a==3) false,.b (a==4) true,.r 81 [cI b,cI 0,cI 99] [cB q],.n q false,.b (c != 0) false,.b (decide ((A.length:Int)>2)) false,.b (a==8) false,.b ((A.length:Int)==2) true,.p ((0:Int)≤0),.p (0<(A.length:Int)),.e A 0 [I d],.p ((0:Int)≤1),.p (1<(A.length:Int)),.e A 1 [I e],.b (d==e) true]):
 Rt 197 [.agg (nd a b c A)] [cB false]:=
 h.of
theorem qFz(h:Oo [.b (a==2) false,.b (a==3) false,.b (a==4) true,.r 81 [cI b,cI 0,cI 99] [cB q],.n q false,.b (c != 0) false,.b (decide ((A.length:Int)>2)) false,.b (a==8) false,.b ((A.length:Int)==2) true,.p ((0:Int)≤0),.p (0<(A.length:Int)),.e A 0 [I d],.p ((0:Int)≤1),.p (1<(A.length:Int)),.e A 1 [I e],.b (d==e) false,.l [] [93,92,91] [] (qaa Tryz.f197 0) (qap A 0) .ret (qaO r)]):
 Rt 197 [.agg (nd a b c A)] [cB r]:=
 h.of
theorem qFA(h:Oo [.b (a==2) false,.b (a==3) false,.b (a==4) true,.r 81 [cI b,cI 0,cI 99] [cB q],.n q false,.b (c != 0) false,.b (decide ((A.length:Int)>2)) false,.b (a==8) false,.b ((A.length:Int)==2) true,.p ((0:Int)≤0),.p (0<(A.length:Int)),.e A 0 [I d],.p ((0:Int)≤1),.p (1<(A.length:Int)),.e A 1 [I e],.b (d==e) false,.l [] [93,92,91] [] (qaa Tryz.f197 0) (qap A 0) (.exit 1) qaS]):
 Rt 197 [.agg (nd a b c A)] [cB true]:=
 h.of
theorem qFB(h:Oo [.b (a==2) false,.b (a==3) false,.b (a==4) true,.r 81 [cI b,cI 0,cI 99] [cB q],.n q false,.b (c != 0) false,.b (decide ((A.length:Int)>2)) false,.b (a==8) false,.b ((A.length:Int)==2) false,.l [] [93,92,91] [] (qaa Tryz.f197 0) (qap A 0) .ret (qaO r)]):
 Rt 197 [.agg (nd a b c A)] [cB r]:=
 h.of
theorem qFC(h:Oo [.b (a==2) false,.b (a==3) false,.b (a==4) true,.r 81 [cI b,cI 0,cI 99] [cB q],.n q false,.b (c != 0) false,.b (decide ((A.length:Int)>2)) false,.b (a==8) false,.b ((A.length:Int)==2) false,.l [] [93,92,91] [] (qaa Tryz.f197 0) (qap A 0) (.exit 1) qaS]):
 Rt 197 [.agg (nd a b c A)] [cB true]:=
 h.of
theorem qFD(h:Oo [.b (a==2) false,.b (a==3) false,.b (a==4) false,.b (a==1) true,.b (a==1) true,.b (b != 0) true]):
 Rt 197 [.agg (nd a b c A)] [cB false]:=
 h.of
theorem qFE(h:Oo [.b (a==2) false,.b (a==3) false,.b (a==4) false,.b (a==1) true,.b (a==1) true,.b (b != 0) false,.b (c != 0) true]):
 Rt 197 [.agg (nd a b c A)] [cB false]:=
 h.of
theorem qFF(h:Oo [.b (a==2) false,.b (a==3) false,.b (a==4) false,.b (a==1) true,.b (a==1) true,.b (b != 0) false,.b (c != 0) false,.b (decide ((A.length:Int)>2)) true]):
 Rt 197 [.agg (nd a b c A)] [cB false]:=
 h.of
theorem qFG(h:Oo [.b (a==2) false,.b (a==3) false,.b (a==4) false,.b (a==1) true,.b (a==1) true,.b (b != 0) false,.b (c != 0) false,.b (decide ((A.length:Int)>2)) false,.b (a==8) true,.b (decide ((A.length:Int)>0)) true]):
 Rt 197 [.agg (nd a b c A)] [cB false]:=
 h.of
theorem qFH(h:Oo [.b (a==2) false,.b (a==3) false,.b (a==4) false,.b (a==1) true,.b (a==1) true,.b (b != 0) false,.b (c != 0) false,.b (decide ((A.length:Int)>2)) false,.b (a==8) true,.b (decide ((A.length:Int)>0)) false,.b ((A.length:Int)==2) true,.p ((0:Int)≤0),.p (0<(A.length:Int)),.e A 0 [I d],.p ((0:Int)≤1),.p (1<(A.length:Int)),.e A 1 [I e],.b (d==e) true]):
 Rt 197 [.agg (nd a b c A)] [cB false]:=
 h.of
theorem qFI(h:Oo [.b (a==2) false,.b (a==3) false,.b (a==4) false,.b (a==1) true,.b (a==1) true,.b (b != 0) false,.b (c != 0) false,.b (decide ((A.length:Int)>2)) false,.b (a==8) true,.b (decide ((A.length:Int)>0)) false,.b ((A.length:Int)==2) true,.p ((0:Int)≤0),.p (0<(A.length:Int)),.e A 0 [I d],.p ((0:Int)≤1),.p (1<(A.length:Int)),.e A 1 [I e],.b (d==e) false,.l [] [93,92,91] [] (qaa Tryz.f197 0) (qap A 0) .ret (qaO q)]):
 Rt 197 [.agg (nd a b c A)] [cB q]:=
 h.of
theorem qFJ(h:Oo [.b (a==2) false,.b (a==3) false,.b (a==4) false,.b (a==1) true,.b (a==1) true,.b (b != 0) false,.b (c != 0) false,.b (decide ((A.length:Int)>2)) false,.b (a==8) true,.b (decide ((A.length:Int)>0)) false,.b ((A.length:Int)==2) true,.p ((0:Int)≤0),.p (0<(A.length:Int)),.e A 0 [I d],.p ((0:Int)≤1),.p (1<(A.length:Int)),.e A 1 [I e],.b (d==e) false,.l [] [93,92,91] [] (qaa Tryz.f197 0) (qap A 0) (.exit 1) qaS]):
 Rt 197 [.agg (nd a b c A)] [cB true]:=
 h.of
theorem qFK(h:Oo [.b (a==2) false,.b (a==3) false,.b (a==4) false,.b (a==1) true,.b (a==1) true,.b (b != 0) false,.b (c != 0) false,.b (decide ((A.length:Int)>2)) false,.b (a==8) true,.b (decide ((A.length:Int)>0)) false,.b ((A.length:Int)==2) false,.l [] [93,92,91] [] (qaa Tryz.f197 0) (qap A 0) .ret (qaO q)]):
 Rt 197 [.agg (nd a b c A)] [cB q]:=
 h.of
theorem qFL(h:Oo [.b (a==2) false,.b (a==3) false,.b (a==4) false,.b (a==1) true,.b (a==1) true,.b (b != 0) false,.b (c != 0) false,.b (decide ((A.length:Int)>2)) false,.b (a==8) true,.b (decide ((A.length:Int)>0)) false,.b ((A.length:Int)==2) false,.l [] [93,92,91] [] (qaa Tryz.f197 0) (qap A 0) (.exit 1) qaS]):
 Rt 197 [.agg (nd a b c A)] [cB true]:=
 h.of
theorem qFM(h:Oo [.b (a==2) false,.b (a==3) false,.b (a==4) false,.b (a==1) true,.b (a==1) true,.b (b != 0) false,.b (c != 0) false,.b (decide ((A.length:Int)>2)) false,.b (a==8) false,.b ((A.length:Int)==2) true,.p ((0:Int)≤0),.p (0<(A.length:Int)),.e A 0 [I d],.p ((0:Int)≤1),.p (1<(A.length:Int)),.e A 1 [I e],.b (d==e) true]):
 Rt 197 [.agg (nd a b c A)] [cB false]:=
 h.of
theorem qFN(h:Oo [.b (a==2) false,.b (a==3) false,.b (a==4) false,.b (a==1) true,.b (a==1) true,.b (b != 0) false,.b (c != 0) false,.b (decide ((A.length:Int)>2)) false,.b (a==8) false,.b ((A.length:Int)==2) true,.p ((0:Int)≤0),.p (0<(A.length:Int)),.e A 0 [I d],.p ((0:Int)≤1),.p (1<(A.length:Int)),.e A 1 [I e],.b (d==e) false,.l [] [93,92,91] [] (qaa Tryz.f197 0) (qap A 0) .ret (qaO q)]):
 Rt 197 [.agg (nd a b c A)] [cB q]:=
 h.of
theorem qFO(h:Oo [.b (a==2) false,.b (a==3) false,.b (a==4) false,.b (a==1) true,.b (a==1) true,.b (b != 0) false,.b (c != 0) false,.b (decide ((A.length:Int)>2)) false,.b (a==8) false,.b ((A.length:Int)==2) true,.p ((0:Int)≤0),.p (0<(A.length:Int)),.e A 0 [I d],.p ((0:Int)≤1),.p (1<(A.length:Int)),.e A 1 [I e],.b (d==e) false,.l [] [93,92,91] [] (qaa Tryz.f197 0) (qap A 0) (.exit 1) qaS]):
 Rt 197 [.agg (nd a b c A)] [cB true]:=
 h.of
theorem qFP(h:Oo [.b (a==2) false,.b (a==3) false,.b (a==4) false,.b (a==1) true,.b (a==1) true,.b (b != 0) false,.b (c != 0) false,.b (decide ((A.length:Int)>2)) false,.b (a==8) false,.b ((A.length:Int)==2) false,.l [] [93,92,91] [] (qaa Tryz.f197 0) (qap A 0) .ret (qaO q)]):
 Rt 197 [.agg (nd a b c A)] [cB q]:=
 h.of
theorem qFQ(h:Oo [.b (a==2) false,.b (a==3) false,.b (a==4) false,.b (a==1) true,.b (a==1) true,.b (b != 0) false,.b (c != 0) false,.b (decide ((A.length:Int)>2)) false,.b (a==8) false,.b ((A.length:Int)==2) false,.l [] [93,92,91] [] (qaa Tryz.f197 0) (qap A 0) (.exit 1) qaS]):
 Rt 197 [.agg (nd a b c A)] [cB true]:=
 h.of
theorem qFR(h:Oo [.b (a==2) false,.b (a==3) false,.b (a==4) false,.b (a==1) false,.b (a==5) true,.b (a==5) true,.b (b != 0) true]):
 Rt 197 [.agg (nd a b c A)] [cB false]:=
 h.of
theorem qFS(h:Oo [.b (a==2) false,.b (a==3) false,.b (a==4) false,.b (a==1) false,.b (a==5) true,.b (a==5) true,.b (b != 0) false,.b (c != 0) true]):
 Rt 197 [.agg (nd a b c A)] [cB false]:=
 h.of
theorem qFT(h:Oo [.b (a==2) false,.b (a==3) false,.b (a==4) false,.b (a==1) false,.b (a==5) true,.b (a==5) true,.b (b != 0) false,.b (c != 0) false,.b (decide ((A.length:Int)>2)) true]):
 Rt 197 [.agg (nd a b c A)] [cB false]:=
 h.of
theorem qFU(h:Oo [.b (a==2) false,.b (a==3) false,.b (a==4) false,.b (a==1) false,.b (a==5) true,.b (a==5) true,.b (b != 0) false,.b (c != 0) false,.b (decide ((A.length:Int)>2)) false,.b (a==8) true,.b (decide ((A.length:Int)>0)) true]):
 Rt 197 [.agg (nd a b c A)] [cB false]:=
 h.of
theorem qFV(h:Oo [.b (a==2) false,.b (a==3) false,.b (a==4) false,.b (a==1) false,.b (a==5) true,.b (a==5) true,.b (b != 0) false,.b (c != 0) false,.b (decide ((A.length:Int)>2)) false,.b (a==8) true,.b (decide ((A.length:Int)>0)) false,.b ((A.length:Int)==2) true,.p ((0:Int)≤0),.p (0<(A.length:Int)),.e A 0 [I d],.p ((0:Int)≤1),.p (1<(A.length:Int)),.e A 1 [I e],.b (d==e) true]):
 Rt 197 [.agg (nd a b c A)] [cB false]:=
 h.of
theorem qFW(h:Oo [.b (a==2) false,.b (a==3) false,.b (a==4) false,.b (a==1) false,.b (a==5) true,.b (a==5) true,.b (b != 0) false,.b (c != 0) false,.b (decide ((A.length:Int)>2)) false,.b (a==8) true,.b (decide ((A.length:Int)>0)) false,.b ((A.length:Int)==2) true,.p ((0:Int)≤0),.p (0<(A.length:Int)),.e A 0 [I d],.p ((0:Int)≤1),.p (1<(A.length:Int)),.e A 1 [I e],.b (d==e) false,.l [] [93,92,91] [] (qaa Tryz.f197 0) (qap A 0) .ret (qaO q)]):
 Rt 197 [.agg (nd a b c A)] [cB q]:=
 h.of
theorem qFX(h:Oo [.b (a==2) false,.b (a==3) false,.b (a==4) false,.b (a==1) false,.b (a==5) true,.b (a==5) true,.b (b != 0) false,.b (c != 0) false,.b (decide ((A.length:Int)>2)) false,.b (a==8) true,.b (decide ((A.length:Int)>0)) false,.b ((A.length:Int)==2) true,.p ((0:Int)≤0),.p (0<(A.length:Int)),.e A 0 [I d],.p ((0:Int)≤1),.p (1<(A.length:Int)),.e A 1 [I e],.b (d==e) false,.l [] [93,92,91] [] (qaa Tryz.f197 0) (qap A 0) (.exit 1) qaS]):
 Rt 197 [.agg (nd a b c A)] [cB true]:=
 h.of
theorem qFY(h:Oo [.b (a==2) false,.b (a==3) false,.b (a==4) false,.b (a==1) false,.b (a==5) true,.b (a==5) true,.b (b != 0) false,.b (c != 0) false,.b (decide ((A.length:Int)>2)) false,.b (a==8) true,.b (decide ((A.length:Int)>0)) false,.b ((A.length:Int)==2) false,.l [] [93,92,91] [] (qaa Tryz.f197 0) (qap A 0) .ret (qaO q)]):
 Rt 197 [.agg (nd a b c A)] [cB q]:=
 h.of
theorem qFZ(h:Oo [.b (a==2) false,.b (a==3) false,.b (a==4) false,.b (a==1) false,.b (a==5) true,.b (a==5) true,.b (b != 0) false,.b (c != 0) false,.b (decide ((A.length:Int)>2)) false,.b (a==8) true,.b (decide ((A.length:Int)>0)) false,.b ((A.length:Int)==2) false,.l [] [93,92,91] [] (qaa Tryz.f197 0) (qap A 0) (.exit 1) qaS]):
 Rt 197 [.agg (nd a b c A)] [cB true]:=
 h.of
theorem qF0(h:Oo [.b (a==2) false,.b (a==3) false,.b (a==4) false,.b (a==1) false,.b (a==5) true,.b (a==5) true,.b (b != 0) false,.b (c != 0) false,.b (decide ((A.length:Int)>2)) false,.b (a==8) false,.b ((A.length:Int)==2) true,.p ((0:Int)≤0),.p (0<(A.length:Int)),.e A 0 [I d],.p ((0:Int)≤1),.p (1<(A.length:Int)),.e A 1 [I e],.b (d==e) true]):
 Rt 197 [.agg (nd a b c A)] [cB false]:=
 h.of
theorem qF1(h:Oo [.b (a==2) false,.b (a==3) false,.b (a==4) false,.b (a==1) false,.b (a==5) true,.b (a==5) true,.b (b != 0) false,.b (c != 0) false,.b (decide ((A.length:Int)>2)) false,.b (a==8) false,.b ((A.length:Int)==2) true,.p ((0:Int)≤0),.p (0<(A.length:Int)),.e A 0 [I d],.p ((0:Int)≤1),.p (1<(A.length:Int)),.e A 1 [I e],.b (d==e) false,.l [] [93,92,91] [] (qaa Tryz.f197 0) (qap A 0) .ret (qaO q)]):
 Rt 197 [.agg (nd a b c A)] [cB q]:=
 h.of
theorem qF2(h:Oo [.b (a==2) false,.b (a==3) false,.b (a==4) false,.b (a==1) false,.b (a==5) true,.b (a==5) true,.b (b != 0) false,.b (c != 0) false,.b (decide ((A.length:Int)>2)) false,.b (a==8) false,.b ((A.length:Int)==2) true,.p ((0:Int)≤0),.p (0<(A.length:Int)),.e A 0 [I d],.p ((0:Int)≤1),.p (1<(A.length:Int)),.e A 1 [I e],.b (d==e) false,.l [] [93,92,91] [] (qaa Tryz.f197 0) (qap A 0) (.exit 1) qaS]):
 Rt 197 [.agg (nd a b c A)] [cB true]:=
 h.of
theorem qF3(h:Oo [.b (a==2) false,.b (a==3) false,.b (a==4) false,.b (a==1) false,.b (a==5) true,.b (a==5) true,.b (b != 0) false,.b (c != 0) false,.b (decide ((A.length:Int)>2)) false,.b (a==8) false,.b ((A.length:Int)==2) false,.l [] [93,92,91] [] (qaa Tryz.f197 0) (qap A 0) .ret (qaO q)]):
 Rt 197 [.agg (nd a b c A)] [cB q]:=
 h.of
theorem qF4(h:Oo [.b (a==2) false,.b (a==3) false,.b (a==4) false,.b (a==1) false,.b (a==5) true,.b (a==5) true,.b (b != 0) false,.b (c != 0) false,.b (decide ((A.length:Int)>2)) false,.b (a==8) false,.b ((A.length:Int)==2) false,.l [] [93,92,91] [] (qaa Tryz.f197 0) (qap A 0) (.exit 1) qaS]):
 Rt 197 [.agg (nd a b c A)] [cB true]:=
 h.of
theorem qF5(h:Oo [.b (a==2) false,.b (a==3) false,.b (a==4) false,.b (a==1) false,.b (a==5) false,.b (a==6) true,.b (a==6) true,.b (b != 0) true]):
 Rt 197 [.agg (nd a b c A)] [cB false]:=
 h.of
theorem qF6(h:Oo [.b (a==2) false,.b (a==3) false,.b (a==4) false,.b (a==1) false,.b (a==5) false,.b (a==6) true,.b (a==6) true,.b (b != 0) false,.b (c != 0) true]):
 Rt 197 [.agg (nd a b c A)] [cB false]:=
 h.of
theorem qF7(h:Oo [.b (a==2) false,.b (a==3) false,.b (a==4) false,.b (a==1) false,.b (a==5) false,.b (a==6) true,.b (a==6) true,.b (b != 0) false,.b (c != 0) false,.b (decide ((A.length:Int)>2)) true]):
 Rt 197 [.agg (nd a b c A)] [cB false]:=
 h.of
theorem qF8(h:Oo [.b (a==2) false,.b (a==3) false,.b (a==4) false,.b (a==1) false,.b (a==5) false,.b (a==6) true,.b (a==6) true,.b (b != 0) false,.b (c != 0) false,.b (decide ((A.length:Int)>2)) false,.b (a==8) true,.b (decide ((A.length:Int)>0)) true]):
 Rt 197 [.agg (nd a b c A)] [cB false]:=
 h.of
theorem qF9(h:Oo [.b (a==2) false,.b (a==3) false,.b (a==4) false,.b (a==1) false,.b (a==5) false,.b (a==6) true,.b (a==6) true,.b (b != 0) false,.b (c != 0) false,.b (decide ((A.length:Int)>2)) false,.b (a==8) true,.b (decide ((A.length:Int)>0)) false,.b ((A.length:Int)==2) true,.p ((0:Int)≤0),.p (0<(A.length:Int)),.e A 0 [I d],.p ((0:Int)≤1),.p (1<(A.length:Int)),.e A 1 [I e],.b (d==e) true]):
 Rt 197 [.agg (nd a b c A)] [cB false]:=
 h.of
theorem qGa(h:Oo [.b (a==2) false,.b (a==3) false,.b (a==4) false,.b (a==1) false,.b (a==5) false,.b (a==6) true,.b (a==6) true,.b (b != 0) false,.b (c != 0) false,.b (decide ((A.length:Int)>2)) false,.b (a==8) true,.b (decide ((A.length:Int)>0)) false,.b ((A.length:Int)==2) true,.p ((0:Int)≤0),.p (0<(A.length:Int)),.e A 0 [I d],.p ((0:Int)≤1),.p (1<(A.length:Int)),.e A 1 [I e],.b (d==e) false,.l [] [93,92,91] [] (qaa Tryz.f197 0) (qap A 0) .ret (qaO q)]):
 Rt 197 [.agg (nd a b c A)] [cB q]:=
 h.of
theorem qGb(h:Oo [.b (a==2) false,.b (a==3) false,.b (a==4) false,.b (a==1) false,.b (a==5) false,.b (a==6) true,.b (a==6) true,.b (b != 0) false,.b (c != 0) false,.b (decide ((A.length:Int)>2)) false,.b (a==8) true,.b (decide ((A.length:Int)>0)) false,.b ((A.length:Int)==2) true,.p ((0:Int)≤0),.p (0<(A.length:Int)),.e A 0 [I d],.p ((0:Int)≤1),.p (1<(A.length:Int)),.e A 1 [I e],.b (d==e) false,.l [] [93,92,91] [] (qaa Tryz.f197 0) (qap A 0) (.exit 1) qaS]):
 Rt 197 [.agg (nd a b c A)] [cB true]:=
 h.of
theorem qGc(h:Oo [.b (a==2) false,.b (a==3) false,.b (a==4) false,.b (a==1) false,.b (a==5) false,.b (a==6) true,.b (a==6) true,.b (b != 0) false,.b (c != 0) false,.b (decide ((A.length:Int)>2)) false,.b (a==8) true,.b (decide ((A.length:Int)>0)) false,.b ((A.length:Int)==2) false,.l [] [93,92,91] [] (qaa Tryz.f197 0) (qap A 0) .ret (qaO q)]):
 Rt 197 [.agg (nd a b c A)] [cB q]:=
 h.of
theorem qGd(h:Oo [.b (a==2) false,.b (a==3) false,.b (a==4) false,.b (a==1) false,.b (a==5) false,.b (a==6) true,.b (a==6) true,.b (b != 0) false,.b (c != 0) false,.b (decide ((A.length:Int)>2)) false,.b (a==8) true,.b (decide ((A.length:Int)>0)) false,.b ((A.length:Int)==2) false,.l [] [93,92,91] [] (qaa Tryz.f197 0) (qap A 0) (.exit 1) qaS]):
 Rt 197 [.agg (nd a b c A)] [cB true]:=
 h.of
theorem qGe(h:Oo [.b (a==2) false,.b (a==3) false,.b (a==4) false,.b (a==1) false,.b (a==5) false,.b (a==6) true,.b (a==6) true,.b (b != 0) false,.b (c != 0) false,.b (decide ((A.length:Int)>2)) false,.b (a==8) false,.b ((A.length:Int)==2) true,.p ((0:Int)≤0),.p (0<(A.length:Int)),.e A 0 [I d],.p ((0:Int)≤1),.p (1<(A.length:Int)),.e A 1 [I e],.b (d==e) true]):
 Rt 197 [.agg (nd a b c A)] [cB false]:=
 h.of
theorem qGf(h:Oo [.b (a==2) false,.b (a==3) false,.b (a==4) false,.b (a==1) false,.b (a==5) false,.b (a==6) true,.b (a==6) true,.b (b != 0) false,.b (c != 0) false,.b (decide ((A.length:Int)>2)) false,.b (a==8) false,.b ((A.length:Int)==2) true,.p ((0:Int)≤0),.p (0<(A.length:Int)),.e A 0 [I d],.p ((0:Int)≤1),.p (1<(A.length:Int)),.e A 1 [I e],.b (d==e) false,.l [] [93,92,91] [] (qaa Tryz.f197 0) (qap A 0) .ret (qaO q)]):
 Rt 197 [.agg (nd a b c A)] [cB q]:=
 h.of
theorem qGg(h:Oo [.b (a==2) false,.b (a==3) false,.b (a==4) false,.b (a==1) false,.b (a==5) false,.b (a==6) true,.b (a==6) true,.b (b != 0) false,.b (c != 0) false,.b (decide ((A.length:Int)>2)) false,.b (a==8) false,.b ((A.length:Int)==2) true,.p ((0:Int)≤0),.p (0<(A.length:Int)),.e A 0 [I d],.p ((0:Int)≤1),.p (1<(A.length:Int)),.e A 1 [I e],.b (d==e) false,.l [] [93,92,91] [] (qaa Tryz.f197 0) (qap A 0) (.exit 1) qaS]):
 Rt 197 [.agg (nd a b c A)] [cB true]:=
 h.of
theorem qGh(h:Oo [.b (a==2) false,.b (a==3) false,.b (a==4) false,.b (a==1) false,.b (a==5) false,.b (a==6) true,.b (a==6) true,.b (b != 0) false,.b (c != 0) false,.b (decide ((A.length:Int)>2)) false,.b (a==8) false,.b ((A.length:Int)==2) false,.l [] [93,92,91] [] (qaa Tryz.f197 0) (qap A 0) .ret (qaO q)]):
 Rt 197 [.agg (nd a b c A)] [cB q]:=
 h.of
theorem qGi(h:Oo [.b (a==2) false,.b (a==3) false,.b (a==4) false,.b (a==1) false,.b (a==5) false,.b (a==6) true,.b (a==6) true,.b (b != 0) false,.b (c != 0) false,.b (decide ((A.length:Int)>2)) false,.b (a==8) false,.b ((A.length:Int)==2) false,.l [] [93,92,91] [] (qaa Tryz.f197 0) (qap A 0) (.exit 1) qaS]):
 Rt 197 [.agg (nd a b c A)] [cB true]:=
 h.of
theorem qGj(h:Oo [.b (a==2) false,.b (a==3) false,.b (a==4) false,.b (a==1) false,.b (a==5) false,.b (a==6) false,.b (a==7) true,.b (a==7) true,.b (b != 0) true]):
 Rt 197 [.agg (nd a b c A)] [cB false]:=
 h.of
theorem qGk(h:Oo [.b (a==2) false,.b (a==3) false,.b (a==4) false,.b (a==1) false,.b (a==5) false,.b (a==6) false,.b (a==7) true,.b (a==7) true,.b (b != 0) false,.b (c != 0) true]):
 Rt 197 [.agg (nd a b c A)] [cB false]:=
 h.of
theorem qGl(h:Oo [.b (a==2) false,.b (a==3) false,.b (a==4) false,.b (a==1) false,.b (a==5) false,.b (a==6) false,.b (a==7) true,.b (a==7) true,.b (b != 0) false,.b (c != 0) false,.b (decide ((A.length:Int)>2)) true]):
 Rt 197 [.agg (nd a b c A)] [cB false]:=
 h.of
theorem qGm(h:Oo [.b (a==2) false,.b (a==3) false,.b (a==4) false,.b (a==1) false,.b (a==5) false,.b (a==6) false,.b (a==7) true,.b (a==7) true,.b (b != 0) false,.b (c != 0) false,.b (decide ((A.length:Int)>2)) false,.b (a==8) true,.b (decide ((A.length:Int)>0)) true]):
 Rt 197 [.agg (nd a b c A)] [cB false]:=
 h.of
theorem qGn(h:Oo [.b (a==2) false,.b (a==3) false,.b (a==4) false,.b (a==1) false,.b (a==5) false,.b (a==6) false,.b (a==7) true,.b (a==7) true,.b (b != 0) false,.b (c != 0) false,.b (decide ((A.length:Int)>2)) false,.b (a==8) true,.b (decide ((A.length:Int)>0)) false,.b ((A.length:Int)==2) true,.p ((0:Int)≤0),.p (0<(A.length:Int)),.e A 0 [I d],.p ((0:Int)≤1),.p (1<(A.length:Int)),.e A 1 [I e],.b (d==e) true]):
 Rt 197 [.agg (nd a b c A)] [cB false]:=
 h.of
theorem qGo(h:Oo [.b (a==2) false,.b (a==3) false,.b (a==4) false,.b (a==1) false,.b (a==5) false,.b (a==6) false,.b (a==7) true,.b (a==7) true,.b (b != 0) false,.b (c != 0) false,.b (decide ((A.length:Int)>2)) false,.b (a==8) true,.b (decide ((A.length:Int)>0)) false,.b ((A.length:Int)==2) true,.p ((0:Int)≤0),.p (0<(A.length:Int)),.e A 0 [I d],.p ((0:Int)≤1),.p (1<(A.length:Int)),.e A 1 [I e],.b (d==e) false,.l [] [93,92,91] [] (qaa Tryz.f197 0) (qap A 0) .ret (qaO q)]):
 Rt 197 [.agg (nd a b c A)] [cB q]:=
 h.of
theorem qGp(h:Oo [.b (a==2) false,.b (a==3) false,.b (a==4) false,.b (a==1) false,.b (a==5) false,.b (a==6) false,.b (a==7) true,.b (a==7) true,.b (b != 0) false,.b (c != 0) false,.b (decide ((A.length:Int)>2)) false,.b (a==8) true,.b (decide ((A.length:Int)>0)) false,.b ((A.length:Int)==2) true,.p ((0:Int)≤0),.p (0<(A.length:Int)),.e A 0 [I d],.p ((0:Int)≤1),.p (1<(A.length:Int)),.e A 1 [I e],.b (d==e) false,.l [] [93,92,91] [] (qaa Tryz.f197 0) (qap A 0) (.exit 1) qaS]):
 Rt 197 [.agg (nd a b c A)] [cB true]:=
 h.of
theorem qGq(h:Oo [.b (a==2) false,.b (a==3) false,.b (a==4) false,.b (a==1) false,.b (a==5) false,.b (a==6) false,.b (a==7) true,.b (a==7) true,.b (b != 0) false,.b (c != 0) false,.b (decide ((A.length:Int)>2)) false,.b (a==8) true,.b (decide ((A.length:Int)>0)) false,.b ((A.length:Int)==2) false,.l [] [93,92,91] [] (qaa Tryz.f197 0) (qap A 0) .ret (qaO q)]):
 Rt 197 [.agg (nd a b c A)] [cB q]:=
 h.of
theorem qGr(h:Oo [.b (a==2) false,.b (a==3) false,.b (a==4) false,.b (a==1) false,.b (a==5) false,.b (a==6) false,.b (a==7) true,.b (a==7) true,.b (b != 0) false,.b (c != 0) false,.b (decide ((A.length:Int)>2)) false,.b (a==8) true,.b (decide ((A.length:Int)>0)) false,.b ((A.length:Int)==2) false,.l [] [93,92,91] [] (qaa Tryz.f197 0) (qap A 0) (.exit 1) qaS]):
 Rt 197 [.agg (nd a b c A)] [cB true]:=
 h.of
theorem qGs(h:Oo [.b (a==2) false,.b (a==3) false,.b (a==4) false,.b (a==1) false,.b (a==5) false,.b (a==6) false,.b (a==7) true,.b (a==7) true,.b (b != 0) false,.b (c != 0) false,.b (decide ((A.length:Int)>2)) false,.b (a==8) false,.b ((A.length:Int)==2) true,.p ((0:Int)≤0),.p (0<(A.length:Int)),.e A 0 [I d],.p ((0:Int)≤1),.p (1<(A.length:Int)),.e A 1 [I e],.b (d==e) true]):
 Rt 197 [.agg (nd a b c A)] [cB false]:=
 h.of
theorem qGt(h:Oo [.b (a==2) false,.b (a==3) false,.b (a==4) false,.b (a==1) false,.b (a==5) false,.b (a==6) false,.b (a==7) true,.b (a==7) true,.b (b != 0) false,.b (c != 0) false,.b (decide ((A.length:Int)>2)) false,.b (a==8) false,.b ((A.length:Int)==2) true,.p ((0:Int)≤0),.p (0<(A.length:Int)),.e A 0 [I d],.p ((0:Int)≤1),.p (1<(A.length:Int)),.e A 1 [I e],.b (d==e) false,.l [] [93,92,91] [] (qaa Tryz.f197 0) (qap A 0) .ret (qaO q)]):
 Rt 197 [.agg (nd a b c A)] [cB q]:=
 h.of
theorem qGu(h:Oo [.b (a==2) false,.b (a==3) false,.b (a==4) false,.b (a==1) false,.b (a==5) false,.b (a==6) false,.b (a==7) true,.b (a==7) true,.b (b != 0) false,.b (c != 0) false,.b (decide ((A.length:Int)>2)) false,.b (a==8) false,.b ((A.length:Int)==2) true,.p ((0:Int)≤0),.p (0<(A.length:Int)),.e A 0 [I d],.p ((0:Int)≤1),.p (1<(A.length:Int)),.e A 1 [I e],.b (d==e) false,.l [] [93,92,91] [] (qaa Tryz.f197 0) (qap A 0) (.exit 1) qaS]):
 Rt 197 [.agg (nd a b c A)] [cB true]:=
 h.of
theorem qGv(h:Oo [.b (a==2) false,.b (a==3) false,.b (a==4) false,.b (a==1) false,.b (a==5) false,.b (a==6) false,.b (a==7) true,.b (a==7) true,.b (b != 0) false,.b (c != 0) false,.b (decide ((A.length:Int)>2)) false,.b (a==8) false,.b ((A.length:Int)==2) false,.l [] [93,92,91] [] (qaa Tryz.f197 0) (qap A 0) .ret (qaO q)]):
 Rt 197 [.agg (nd a b c A)] [cB q]:=
 h.of
theorem qGw(h:Oo [.b (a==2) false,.b (a==3) false,.b (a==4) false,.b (a==1) false,.b (a==5) false,.b (a==6) false,.b (a==7) true,.b (a==7) true,.b (b != 0) false,.b (c != 0) false,.b (decide ((A.length:Int)>2)) false,.b (a==8) false,.b ((A.length:Int)==2) false,.l [] [93,92,91] [] (qaa Tryz.f197 0) (qap A 0) (.exit 1) qaS]):
 Rt 197 [.agg (nd a b c A)] [cB true]:=
 h.of
theorem qGx(h:Oo [.b (a==2) false,.b (a==3) false,.b (a==4) false,.b (a==1) false,.b (a==5) false,.b (a==6) false,.b (a==7) false,.b (a==8) true,.b (b != 0) true]):
 Rt 197 [.agg (nd a b c A)] [cB false]:=
 h.of
theorem qGy(h:Oo [.b (a==2) false,.b (a==3) false,.b (a==4) false,.b (a==1) false,.b (a==5) false,.b (a==6) false,.b (a==7) false,.b (a==8) true,.b (b != 0) false,.b (c != 0) true]):
 Rt 197 [.agg (nd a b c A)] [cB false]:=
 h.of
theorem qGz(h:Oo [.b (a==2) false,.b (a==3) false,.b (a==4) false,.b (a==1) false,.b (a==5) false,.b (a==6) false,.b (a==7) false,.b (a==8) true,.b (b != 0) false,.b (c != 0) false,.b (decide ((A.length:Int)>2)) true]):
 Rt 197 [.agg (nd a b c A)] [cB false]:=
 h.of
theorem qGA(h:Oo [.b (a==2) false,.b (a==3) false,.b (a==4) false,.b (a==1) false,.b (a==5) false,.b (a==6) false,.b (a==7) false,.b (a==8) true,.b (b != 0) false,.b (c != 0) false,.b (decide ((A.length:Int)>2)) false,.b (a==8) true,.b (decide ((A.length:Int)>0)) true]):
 Rt 197 [.agg (nd a b c A)] [cB false]:=
 h.of
theorem qGB(h:Oo [.b (a==2) false,.b (a==3) false,.b (a==4) false,.b (a==1) false,.b (a==5) false,.b (a==6) false,.b (a==7) false,.b (a==8) true,.b (b != 0) false,.b (c != 0) false,.b (decide ((A.length:Int)>2)) false,.b (a==8) true,.b (decide ((A.length:Int)>0)) false,.b ((A.length:Int)==2) true,.p ((0:Int)≤0),.p (0<(A.length:Int)),.e A 0 [I d],.p ((0:Int)≤1),.p (1<(A.length:Int)),.e A 1 [I e],.b (d==e) true]):
 Rt 197 [.agg (nd a b c A)] [cB false]:=
 h.of
theorem qGC(h:Oo [.b (a==2) false,.b (a==3) false,.b (a==4) false,.b (a==1) false,.b (a==5) false,.b (a==6) false,.b (a==7) false,.b (a==8) true,.b (b != 0) false,.b (c != 0) false,.b (decide ((A.length:Int)>2)) false,.b (a==8) true,.b (decide ((A.length:Int)>0)) false,.b ((A.length:Int)==2) true,.p ((0:Int)≤0),.p (0<(A.length:Int)),.e A 0 [I d],.p ((0:Int)≤1),.p (1<(A.length:Int)),.e A 1 [I e],.b (d==e) false,.l [] [93,92,91] [] (qaa Tryz.f197 0) (qap A 0) .ret (qaO q)]):
 Rt 197 [.agg (nd a b c A)] [cB q]:=
 h.of
theorem qGD(h:Oo [.b (a==2) false,.b (a==3) false,.b (a==4) false,.b (a==1) false,.b (a==5) false,.b (a==6) false,.b (a==7) false,.b (a==8) true,.b (b != 0) false,.b (c != 0) false,.b (decide ((A.length:Int)>2)) false,.b (a==8) true,.b (decide ((A.length:Int)>0)) false,.b ((A.length:Int)==2) true,.p ((0:Int)≤0),.p (0<(A.length:Int)),.e A 0 [I d],.p ((0:Int)≤1),.p (1<(A.length:Int)),.e A 1 [I e],.b (d==e) false,.l [] [93,92,91] [] (qaa Tryz.f197 0) (qap A 0) (.exit 1) qaS]):
 Rt 197 [.agg (nd a b c A)] [cB true]:=
 h.of
theorem qGE(h:Oo [.b (a==2) false,.b (a==3) false,.b (a==4) false,.b (a==1) false,.b (a==5) false,.b (a==6) false,.b (a==7) false,.b (a==8) true,.b (b != 0) false,.b (c != 0) false,.b (decide ((A.length:Int)>2)) false,.b (a==8) true,.b (decide ((A.length:Int)>0)) false,.b ((A.length:Int)==2) false,.l [] [93,92,91] [] (qaa Tryz.f197 0) (qap A 0) .ret (qaO q)]):
 Rt 197 [.agg (nd a b c A)] [cB q]:=
 h.of
theorem qGF(h:Oo [.b (a==2) false,.b (a==3) false,.b (a==4) false,.b (a==1) false,.b (a==5) false,.b (a==6) false,.b (a==7) false,.b (a==8) true,.b (b != 0) false,.b (c != 0) false,.b (decide ((A.length:Int)>2)) false,.b (a==8) true,.b (decide ((A.length:Int)>0)) false,.b ((A.length:Int)==2) false,.l [] [93,92,91] [] (qaa Tryz.f197 0) (qap A 0) (.exit 1) qaS]):
 Rt 197 [.agg (nd a b c A)] [cB true]:=
 h.of
theorem qGG(h:Oo [.b (a==2) false,.b (a==3) false,.b (a==4) false,.b (a==1) false,.b (a==5) false,.b (a==6) false,.b (a==7) false,.b (a==8) false]):
 Rt 197 [.agg (nd a b c A)] [cB false]:=
 h.of
end Go.Proofs.YtdanpadojemjeaaGreat
