import Derived.Test.YtenekpkjlgddnaaGreatRows
import Derived.Test.YtenekpkjlgddnaaGreatGE
set_option linter.unusedVariables false
set_option linter.unusedSimpArgs false
namespace Go.Proofs.YtenekpkjlgddnaaGreat
open Go.Sx Go.RowKit
variable {a b c d e f g : Int} {A : LL} {q r s t : Bool}
theorem qqX(h:Oo [.b (a==2) true,.r 30 [cI b,cI 0,cI 999] [cB r],.r 30 [cI a,cI 1,cI 8] [cB q],.n q true]):
 Rt 31 [.agg (nd a b c A)] [cB false]:=
 h.of
theorem qqY(h:Oo [.b (a==2) true,.r 30 [cI b,cI 0,cI 999] [cB q],.r 30 [cI a,cI 1,cI 8] [cB r],.n r false,.n q true]):
 Rt 31 [.agg (nd a b c A)] [cB false]:=
 h.of
theorem qqZ(h:Oo [.b (a==2) true,.r 30 [cI b,cI 0,cI 999] [cB q],.r 30 [cI a,cI 1,cI 8] [cB r],.n r false,.n q false,.b (!c==0) true]):
 Rt 31 [.agg (nd a b c A)] [cB false]:=
 h.of
theorem qq0(h:Oo [.b (a==2) true,.r 30 [cI b,cI 0,cI 999] [cB q],.r 30 [cI a,cI 1,cI 8] [cB r],.n r false,.n q false,.b (!c==0) false,.b (decide ((A.length:Int)>2)) true]):
 Rt 31 [.agg (nd a b c A)] [cB false]:=
 h.of
theorem qq1(h:Oo [.b (a==2) true,.r 30 [cI b,cI 0,cI 999] [cB q],.r 30 [cI a,cI 1,cI 8] [cB r],.n r false,.n q false,.b (!c==0) false,.b (decide ((A.length:Int)>2)) false,.b (a==8) true,.b (decide ((A.length:Int)>0)) true]):
 Rt 31 [.agg (nd a b c A)] [cB false]:=
 h.of
def qaB(a b c:Int)(A:LL)(d:Int):St:=
 { env:=envOf 93 [(1,vP 1),(5,vI d)],boxes:=[(1,[lI a,lI b,lI c,.sl .free 1 A])] }
def qcb(q:Bool):St:=
 { env:=envOf 93 [(2,.al (.one (.sb q)))],boxes:=[] }
theorem qh0(h:Oo [.b (decide (a<(A.length:Int))) true,.p (0≤a),.p (a<(A.length:Int)),.e A a.toNat [I b],.r 30 [cI b,cI 0,cI 7] [cB q],.n q true]):
 Tp (qab Tryz.f31 0) (qaB c d e A a) .ret (qcb false):=
 h.lp [2] []
theorem qq2(h:Oo [.b (decide (a<(A.length:Int))) true,.p (0≤a),.p (a<(A.length:Int)),.e A a.toNat [I c],.r 30 [cI c,cI 0,cI 7] [cB q],.n q false,.b (decide (a>0)) true,.p ((0:Int)≤0),.p (0<(A.length:Int)),.e A 0 [I d],.p ((0:Int)≤1),.p (1<(A.length:Int)),.e A 1 [I b],.b (d==b) true]):
 Tp (qab Tryz.f31 0) (qaB e f g A a) .ret (qcb false):=
 h.lp [2] []
theorem qq3(h:Oo [.b (decide (a<(A.length:Int))) true,.p (0≤a),.p (a<(A.length:Int)),.e A a.toNat [I f],.r 30 [cI f,cI 0,cI 7] [cB q],.n q false,.b (decide (a>0)) true,.p ((0:Int)≤0),.p (0<(A.length:Int)),.e A 0 [I g],.p ((0:Int)≤1),.p (1<(A.length:Int)),.e A 1 [I d],.b (g==d) false,.u a]):
 Tp (qab Tryz.f31 0) (qaB b c e A a) .normal (qaB b c e A (a+1)):=
 h.lp [5,1] [1]
theorem qkV(h:Oo [.b (decide (a<(A.length:Int))) true,.p (0≤a),.p (a<(A.length:Int)),.e A a.toNat [I e],.r 30 [cI e,cI 0,cI 7] [cB q],.n q false,.b (decide (a>0)) false,.u a]):
 Tp (qab Tryz.f31 0) (qaB b c d A a) .normal (qaB b c d A (a+1)):=
 h.lp [5,1] [1]
def qco:St:=
 { env:=envOf 93 [],boxes:=[] }
theorem qh1(h:Oo [.b (decide (a<(A.length:Int))) false]):
 Tp (qab Tryz.f31 0) (qaB b c d A a) (.exit 1) qco:=
 h.lp [] []
theorem qq4(h:Oo [.b (a==2) true,.r 30 [cI b,cI 0,cI 999] [cB q],.r 30 [cI a,cI 1,cI 8] [cB r],.n r false,.n q false,.b (!c==0) false,.b (decide ((A.length:Int)>2)) false,.b (a==8) true,.b (decide ((A.length:Int)>0)) false,.l [] [5,1] [1] (qab Tryz.f31 0) (qaB a b c A 0) .ret (qcb s)]):
 Rt 31 [.agg (nd a b c A)] [cB s]:=
 h.of
theorem qq5(h:Oo [.b (a==2) true,.r 30 [cI b,cI 0,cI 999] [cB q],.r 30 [cI a,cI 1,cI 8] [cB r],.n r false,.n q false,.b (!c==0) false,.b (decide ((A.length:Int)>2)) false,.b (a==8) true,.b (decide ((A.length:Int)>0)) false,.l [] [5,1] [1] (qab Tryz.f31 0) (qaB a b c A 0) (.exit 1) qco]):
 Rt 31 [.agg (nd a b c A)] [cB true]:=
 h.of
theorem qq6(h:Oo [.b (a==2) true,.r 30 [cI b,cI 0,cI 999] [cB q],.r 30 [cI a,cI 1,cI 8] [cB r],.n r false,.n q false,.b (!c==0) false,.b (decide ((A.length:Int)>2)) false,.b (a==8) false,.l [] [5,1] [1] (qab Tryz.f31 0) (qaB a b c A 0) .ret (qcb s)]):
 Rt 31 [.agg (nd a b c A)] [cB s]:=
 h.of
theorem qq7(h:Oo [.b (a==2) true,.r 30 [cI b,cI 0,cI 999] [cB q],.r 30 [cI a,cI 1,cI 8] [cB r],.n r false,.n q false,.b (!c==0) false,.b (decide ((A.length:Int)>2)) false,.b (a==8) false,.l [] [5,1] [1] (qab Tryz.f31 0) (qaB a b c A 0) (.exit 1) qco]):
 Rt 31 [.agg (nd a b c A)] [cB true]:=
 h.of
theorem qq8(h:Oo [.b (a==2) false,.b (a==3) true,.r 30 [cI b,cI 1,cI 10] [cB r],.a .wr,.r 30 [cI c,cI 0,cI (IntKind.i64.wrap (b-1))] [cB s],.r 30 [cI a,cI 1,cI 8] [cB q],.n q true]):
 Rt 31 [.agg (nd a b c A)] [cB false]:=
 h.of
theorem qq9(h:Oo [.b (a==2) false,.b (a==3) true,.r 30 [cI b,cI 1,cI 10] [cB q],.a .wr,.r 30 [cI c,cI 0,cI (IntKind.i64.wrap (b-1))] [cB s],.r 30 [cI a,cI 1,cI 8] [cB r],.n r false,.n q true]):
 Rt 31 [.agg (nd a b c A)] [cB false]:=
 h.of
theorem qra(h:Oo [.b (a==2) false,.b (a==3) true,.r 30 [cI b,cI 1,cI 10] [cB q],.a .wr,.r 30 [cI c,cI 0,cI (IntKind.i64.wrap (b-1))] [cB r],.r 30 [cI a,cI 1,cI 8] [cB s],.n s false,.n q false,.n r true]):
 Rt 31 [.agg (nd a b c A)] [cB false]:=
 h.of
theorem qrb(h:Oo [.b (a==2) false,.b (a==3) true,.r 30 [cI b,cI 1,cI 10] [cB q],.a .wr,.r 30 [cI c,cI 0,cI (IntKind.i64.wrap (b-1))] [cB r],.r 30 [cI a,cI 1,cI 8] [cB s],.n s false,.n q false,.n r false,.b (decide ((A.length:Int)>2)) true]):
 Rt 31 [.agg (nd a b c A)] [cB false]:=
 h.of
theorem qrc(h:Oo [.b (a==2) false,.b (a==3) true,.r 30 [cI b,cI 1,cI 10] [cB q],.a .wr,.r 30 [cI c,cI 0,cI (IntKind.i64.wrap (b-1))] [cB r],.r 30 [cI a,cI 1,cI 8] [cB s],.n s false,.n q false,.n r false,.b (decide ((A.length:Int)>2)) false,.b (a==8) true,.b (decide ((A.length:Int)>0)) true]):
 Rt 31 [.agg (nd a b c A)] [cB false]:=
 h.of
theorem qrd(h:Oo [.b (a==2) false,.b (a==3) true,.r 30 [cI b,cI 1,cI 10] [cB q],.a .wr,.r 30 [cI c,cI 0,cI (IntKind.i64.wrap (b-1))] [cB r],.r 30 [cI a,cI 1,cI 8] [cB s],.n s false,.n q false,.n r false,.b (decide ((A.length:Int)>2)) false,.b (a==8) true,.b (decide ((A.length:Int)>0)) false,.l [] [5,1] [1] (qab Tryz.f31 0) (qaB a b c A 0) .ret (qcb t)]):
 Rt 31 [.agg (nd a b c A)] [cB t]:=
 h.of
theorem qre(h:Oo [.b (a==2) false,.b (a==3) true,.r 30 [cI b,cI 1,cI 10] [cB q],.a .wr,.r 30 [cI c,cI 0,cI (IntKind.i64.wrap (b-1))] [cB r],.r 30 [cI a,cI 1,cI 8] [cB s],.n s false,.n q false,.n r false,.b (decide ((A.length:Int)>2)) false,.b (a==8) true,.b (decide ((A.length:Int)>0)) false,.l [] [5,1] [1] (qab Tryz.f31 0) (qaB a b c A 0) (.exit 1) qco]):
 Rt 31 [.agg (nd a b c A)] [cB true]:=
 h.of
theorem qrf(h:Oo [.b (a==2) false,.b (a==3) true,.r 30 [cI b,cI 1,cI 10] [cB q],.a .wr,.r 30 [cI c,cI 0,cI (IntKind.i64.wrap (b-1))] [cB r],.r 30 [cI a,cI 1,cI 8] [cB s],.n s false,.n q false,.n r false,.b (decide ((A.length:Int)>2)) false,.b (a==8) false,.l [] [5,1] [1] (qab Tryz.f31 0) (qaB a b c A 0) .ret (qcb t)]):
 Rt 31 [.agg (nd a b c A)] [cB t]:=
 h.of
theorem qrg(h:Oo [.b (a==2) false,.b (a==3) true,.r 30 [cI b,cI 1,cI 10] [cB q],.a .wr,.r 30 [cI c,cI 0,cI (IntKind.i64.wrap (b-1))] [cB r],.r 30 [cI a,cI 1,cI 8] [cB s],.n s false,.n q false,.n r false,.b (decide ((A.length:Int)>2)) false,.b (a==8) false,.l [] [5,1] [1] (qab Tryz.f31 0) (qaB a b c A 0) (.exit 1) qco]):
 Rt 31 [.agg (nd a b c A)] [cB true]:=
 h.of
theorem qrh(h:Oo [.b (a==2) false,.b (a==3) false,.b (a==4) true,.r 30 [cI b,cI 0,cI 99] [cB r],.r 30 [cI a,cI 1,cI 8] [cB q],.n q true]):
 Rt 31 [.agg (nd a b c A)] [cB false]:=
 h.of
theorem qri(h:Oo [.b (a==2) false,.b (a==3) false,.b (a==4) true,.r 30 [cI b,cI 0,cI 99] [cB q],.r 30 [cI a,cI 1,cI 8] [cB r],.n r false,.n q true]):
 Rt 31 [.agg (nd a b c A)] [cB false]:=
 h.of
theorem qrj(h:Oo [.b (a==2) false,.b (a==3) false,.b (a==4) true,.r 30 [cI b,cI 0,cI 99] [cB q],.r 30 [cI a,cI 1,cI 8] [cB r],.n r false,.n q false,.b (!c==0) true]):
 Rt 31 [.agg (nd a b c A)] [cB false]:=
 h.of
theorem qrk(h:Oo [.b (a==2) false,.b (a==3) false,.b (a==4) true,.r 30 [cI b,cI 0,cI 99] [cB q],.r 30 [cI a,cI 1,cI 8] [cB r],.n r false,.n q false,.b (!c==0) false,.b (decide ((A.length:Int)>2)) true]):
 Rt 31 [.agg (nd a b c A)] [cB false]:=
 h.of
theorem qrl(h:Oo [.b (a==2) false,.b (a==3) false,.b (a==4) true,.r 30 [cI b,cI 0,cI 99] [cB q],.r 30 [cI a,cI 1,cI 8] [cB r],.n r false,.n q false,.b (!c==0) false,.b (decide ((A.length:Int)>2)) false,.b (a==8) true,.b (decide ((A.length:Int)>0)) true]):
 Rt 31 [.agg (nd a b c A)] [cB false]:=
 h.of
theorem qrm(h:Oo [.b (a==2) false,.b (a==3) false,.b (a==4) true,.r 30 [cI b,cI 0,cI 99] [cB q],.r 30 [cI a,cI 1,cI 8] [cB r],.n r false,.n q false,.b (!c==0) false,.b (decide ((A.length:Int)>2)) false,.b (a==8) true,.b (decide ((A.length:Int)>0)) false,.l [] [5,1] [1] (qab Tryz.f31 0) (qaB a b c A 0) .ret (qcb s)]):
 Rt 31 [.agg (nd a b c A)] [cB s]:=
 h.of
theorem qrn(h:Oo [.b (a==2) false,.b (a==3) false,.b (a==4) true,.r 30 [cI b,cI 0,cI 99] [cB q],.r 30 [cI a,cI 1,cI 8] [cB r],.n r false,.n q false,.b (!c==0) false,.b (decide ((A.length:Int)>2)) false,.b (a==8) true,.b (decide ((A.length:Int)>0)) false,.l [] [5,1] [1] (qab Tryz.f31 0) (qaB a b c A 0) (.exit 1) qco]):
 Rt 31 [.agg (nd a b c A)] [cB true]:=
 h.of
theorem qro(h:Oo [.b (a==2) false,.b (a==3) false,.b (a==4) true,.r 30 [cI b,cI 0,cI 99] [cB q],.r 30 [cI a,cI 1,cI 8] [cB r],.n r false,.n q false,.b (!c==0) false,.b (decide ((A.length:Int)>2)) false,.b (a==8) false,.l [] [5,1] [1] (qab Tryz.f31 0) (qaB a b c A 0) .ret (qcb s)]):
 Rt 31 [.agg (nd a b c A)] [cB s]:=
 h.of
theorem qrp(h:Oo [.b (a==2) false,.b (a==3) false,.b (a==4) true,.r 30 [cI b,cI 0,cI 99] [cB q],.r 30 [cI a,cI 1,cI 8] [cB r],.n r false,.n q false,.b (!c==0) false,.b (decide ((A.length:Int)>2)) false,.b (a==8) false,.l [] [5,1] [1] (qab Tryz.f31 0) (qaB a b c A 0) (.exit 1) qco]):
 Rt 31 [.agg (nd a b c A)] [cB true]:=
 h.of
theorem qrq(h:Oo [.b (a==2) false,.b (a==3) false,.b (a==4) false,.r 30 [cI a,cI 1,cI 8] [cB q],.n q true]):
 Rt 31 [.agg (nd a b c A)] [cB false]:=
 h.of
theorem qrr(h:Oo [.b (a==2) false,.b (a==3) false,.b (a==4) false,.r 30 [cI a,cI 1,cI 8] [cB q],.n q false,.b (!b==0) true]):
 Rt 31 [.agg (nd a b c A)] [cB false]:=
 h.of
theorem qrs(h:Oo [.b (a==2) false,.b (a==3) false,.b (a==4) false,.r 30 [cI a,cI 1,cI 8] [cB q],.n q false,.b (!b==0) false,.b (!c==0) true]):
 Rt 31 [.agg (nd a b c A)] [cB false]:=
 h.of
theorem qrt(h:Oo [.b (a==2) false,.b (a==3) false,.b (a==4) false,.r 30 [cI a,cI 1,cI 8] [cB q],.n q false,.b (!b==0) false,.b (!c==0) false,.b (decide ((A.length:Int)>2)) true]):
 Rt 31 [.agg (nd a b c A)] [cB false]:=
 h.of
theorem qru(h:Oo [.b (a==2) false,.b (a==3) false,.b (a==4) false,.r 30 [cI a,cI 1,cI 8] [cB q],.n q false,.b (!b==0) false,.b (!c==0) false,.b (decide ((A.length:Int)>2)) false,.b (a==8) true,.b (decide ((A.length:Int)>0)) true]):
 Rt 31 [.agg (nd a b c A)] [cB false]:=
 h.of
theorem qrv(h:Oo [.b (a==2) false,.b (a==3) false,.b (a==4) false,.r 30 [cI a,cI 1,cI 8] [cB q],.n q false,.b (!b==0) false,.b (!c==0) false,.b (decide ((A.length:Int)>2)) false,.b (a==8) true,.b (decide ((A.length:Int)>0)) false,.l [] [5,1] [1] (qab Tryz.f31 0) (qaB a b c A 0) .ret (qcb r)]):
 Rt 31 [.agg (nd a b c A)] [cB r]:=
 h.of
theorem qrw(h:Oo [.b (a==2) false,.b (a==3) false,.b (a==4) false,.r 30 [cI a,cI 1,cI 8] [cB q],.n q false,.b (!b==0) false,.b (!c==0) false,.b (decide ((A.length:Int)>2)) false,.b (a==8) true,.b (decide ((A.length:Int)>0)) false,.l [] [5,1] [1] (qab Tryz.f31 0) (qaB a b c A 0) (.exit 1) qco]):
 Rt 31 [.agg (nd a b c A)] [cB true]:=
 h.of
theorem qrx(h:Oo [.b (a==2) false,.b (a==3) false,.b (a==4) false,.r 30 [cI a,cI 1,cI 8] [cB q],.n q false,.b (!b==0) false,.b (!c==0) false,.b (decide ((A.length:Int)>2)) false,.b (a==8) false,.l [] [5,1] [1] (qab Tryz.f31 0) (qaB a b c A 0) .ret (qcb r)]):
 Rt 31 [.agg (nd a b c A)] [cB r]:=
 h.of
theorem qry(h:Oo [.b (a==2) false,.b (a==3) false,.b (a==4) false,.r 30 [cI a,cI 1,cI 8] [cB q],.n q false,.b (!b==0) false,.b (!c==0) false,.b (decide ((A.length:Int)>2)) false,.b (a==8) false,.l [] [5,1] [1] (qab Tryz.f31 0) (qaB a b c A 0) (.exit 1) qco]):
 Rt 31 [.agg (nd a b c A)] [cB true]:=
 h.of
theorem qrz(h:Oo [.b (a==2) true,.r 48 [cI b,cI 0,cI 999] [cB q],.n q true]):
 Rt 72 [.agg (nd a b c A)] [cB false]:=
 h.of
theorem qrA(h:Oo [.b (a==2) true,.r 48 [cI b,cI 0,cI 999] [cB q],.n q false,.b (c != 0) true]):
 Rt 72 [.agg (nd a b c A)] [cB false]:=
 h.of
theorem qrB(h:Oo [.b (a==2) true,.r 48 [cI b,cI 0,cI 999] [cB q],.n q false,.b (c != 0) false,.b (decide ((A.length:Int)>2)) true]):
 Rt 72 [.agg (nd a b c A)] [cB false]:=
 h.of
theorem qrC(h:Oo [.b (a==2) true,.r 48 [cI b,cI 0,cI 999] [cB q],.n q false,.b (c != 0) false,.b (decide ((A.length:Int)>2)) false,.b (a==8) true,.b (decide ((A.length:Int)>0)) true]):
 Rt 72 [.agg (nd a b c A)] [cB false]:=
 h.of
theorem qrD(h:Oo [.b (a==2) true,.r 48 [cI b,cI 0,cI 999] [cB q],.n q false,.b (c != 0) false,.b (decide ((A.length:Int)>2)) false,.b (a==8) true,.b (decide ((A.length:Int)>0)) false,.b ((A.length:Int)==2) true,.p ((0:Int)≤0),.p (0<(A.length:Int)),.e A 0 [I d],.p ((0:Int)≤1),.p (1<(A.length:Int)),.e A 1 [I e],.b (d==e) true]):
 Rt 72 [.agg (nd a b c A)] [cB false]:=
 h.of
def qag(A:LL)(a:Int):St:=
 { env:=envOf 101 [(91,vF 1 A),(92,vI (A.length:Int)),(93,vI a)],boxes:=[] }
def qat(q:Bool):St:=
 { env:=envOf 101 [(2,.al (.one (.sb q)))],boxes:=[] }
theorem qrE(h:Oo [.b (decide (a<(A.length:Int))) true,.p (0≤a),.p (a<(A.length:Int)),.e A a.toNat [I b],.r 48 [cI b,cI 0,cI 7] [cB q],.n q true]):
 Tp (qab Tryz.f72 0) (qag A a) .ret (qat false):=
 h.lp [2] []
theorem qrF(h:Oo [.b (decide (a<(A.length:Int))) true,.p (0≤a),.p (a<(A.length:Int)),.e A a.toNat [I b],.r 48 [cI b,cI 0,cI 7] [cB q],.n q false,.u a]):
 Tp (qab Tryz.f72 0) (qag A a) .normal (qag A (a+1)):=
 h.lp [93,92,91] []
def qaw:St:=
 { env:=envOf 101 [],boxes:=[] }
theorem qrG(h:Oo [.b (decide (a<(A.length:Int))) false]):
 Tp (qab Tryz.f72 0) (qag A a) (.exit 1) qaw:=
 h.lp [] []
theorem qrH(h:Oo [.b (a==2) true,.r 48 [cI b,cI 0,cI 999] [cB q],.n q false,.b (c != 0) false,.b (decide ((A.length:Int)>2)) false,.b (a==8) true,.b (decide ((A.length:Int)>0)) false,.b ((A.length:Int)==2) true,.p ((0:Int)≤0),.p (0<(A.length:Int)),.e A 0 [I d],.p ((0:Int)≤1),.p (1<(A.length:Int)),.e A 1 [I e],.b (d==e) false,.l [] [93,92,91] [] (qab Tryz.f72 0) (qag A 0) .ret (qat r)]):
 Rt 72 [.agg (nd a b c A)] [cB r]:=
 h.of
theorem qrI(h:Oo [.b (a==2) true,.r 48 [cI b,cI 0,cI 999] [cB q],.n q false,.b (c != 0) false,.b (decide ((A.length:Int)>2)) false,.b (a==8) true,.b (decide ((A.length:Int)>0)) false,.b ((A.length:Int)==2) true,.p ((0:Int)≤0),.p (0<(A.length:Int)),.e A 0 [I d],.p ((0:Int)≤1),.p (1<(A.length:Int)),.e A 1 [I e],.b (d==e) false,.l [] [93,92,91] [] (qab Tryz.f72 0) (qag A 0) (.exit 1) qaw]):
 Rt 72 [.agg (nd a b c A)] [cB true]:=
 h.of
theorem qrJ(h:Oo [.b (a==2) true,.r 48 [cI b,cI 0,cI 999] [cB q],.n q false,.b (c != 0) false,.b (decide ((A.length:Int)>2)) false,.b (a==8) true,.b (decide ((A.length:Int)>0)) false,.b ((A.length:Int)==2) false,.l [] [93,92,91] [] (qab Tryz.f72 0) (qag A 0) .ret (qat r)]):
 Rt 72 [.agg (nd a b c A)] [cB r]:=
 h.of
theorem qrK(h:Oo [.b (a==2) true,.r 48 [cI b,cI 0,cI 999] [cB q],.n q false,.b (c != 0) false,.b (decide ((A.length:Int)>2)) false,.b (a==8) true,.b (decide ((A.length:Int)>0)) false,.b ((A.length:Int)==2) false,.l [] [93,92,91] [] (qab Tryz.f72 0) (qag A 0) (.exit 1) qaw]):
 Rt 72 [.agg (nd a b c A)] [cB true]:=
 h.of
theorem qrL(h:Oo [.b (a==2) true,.r 48 [cI b,cI 0,cI 999] [cB q],.n q false,.b (c != 0) false,.b (decide ((A.length:Int)>2)) false,.b (a==8) false,.b ((A.length:Int)==2) true,.p ((0:Int)≤0),.p (0<(A.length:Int)),.e A 0 [I d],.p ((0:Int)≤1),.p (1<(A.length:Int)),.e A 1 [I e],.b (d==e) true]):
 Rt 72 [.agg (nd a b c A)] [cB false]:=
 h.of
theorem qrM(h:Oo [.b (a==2) true,.r 48 [cI b,cI 0,cI 999] [cB q],.n q false,.b (c != 0) false,.b (decide ((A.length:Int)>2)) false,.b (a==8) false,.b ((A.length:Int)==2) true,.p ((0:Int)≤0),.p (0<(A.length:Int)),.e A 0 [I d],.p ((0:Int)≤1),.p (1<(A.length:Int)),.e A 1 [I e],.b (d==e) false,.l [] [93,92,91] [] (qab Tryz.f72 0) (qag A 0) .ret (qat r)]):
 Rt 72 [.agg (nd a b c A)] [cB r]:=
 h.of
theorem qrN(h:Oo [.b (a==2) true,.r 48 [cI b,cI 0,cI 999] [cB q],.n q false,.b (c != 0) false,.b (decide ((A.length:Int)>2)) false,.b (a==8) false,.b ((A.length:Int)==2) true,.p ((0:Int)≤0),.p (0<(A.length:Int)),.e A 0 [I d],.p ((0:Int)≤1),.p (1<(A.length:Int)),.e A 1 [I e],.b (d==e) false,.l [] [93,92,91] [] (qab Tryz.f72 0) (qag A 0) (.exit 1) qaw]):
 Rt 72 [.agg (nd a b c A)] [cB true]:=
 h.of
theorem qrO(h:Oo [.b (a==2) true,.r 48 [cI b,cI 0,cI 999] [cB q],.n q false,.b (c != 0) false,.b (decide ((A.length:Int)>2)) false,.b (a==8) false,.b ((A.length:Int)==2) false,.l [] [93,92,91] [] (qab Tryz.f72 0) (qag A 0) .ret (qat r)]):
 Rt 72 [.agg (nd a b c A)] [cB r]:=
 h.of
theorem qrP(h:Oo [.b (a==2) true,.r 48 [cI b,cI 0,cI 999] [cB q],.n q false,.b (c != 0) false,.b (decide ((A.length:Int)>2)) false,.b (a==8) false,.b ((A.length:Int)==2) false,.l [] [93,92,91] [] (qab Tryz.f72 0) (qag A 0) (.exit 1) qaw]):
 Rt 72 [.agg (nd a b c A)] [cB true]:=
 h.of
theorem qrQ(h:Oo [.b (a==2) false,.b (a==3) true,.r 48 [cI b,cI 1,cI 10] [cB q],.n q true]):
 Rt 72 [.agg (nd a b c A)] [cB false]:=
 h.of
theorem qrR(h:Oo [.b (a==2) false,.b (a==3) true,.r 48 [cI b,cI 1,cI 10] [cB q],.n q false,.a .wr,.r 48 [cI c,cI 0,cI (IntKind.i64.wrap (b-1))] [cB r],.n r true]):
 Rt 72 [.agg (nd a b c A)] [cB false]:=
 h.of
theorem qrS(h:Oo [.b (a==2) false,.b (a==3) true,.r 48 [cI b,cI 1,cI 10] [cB q],.n q false,.a .wr,.r 48 [cI c,cI 0,cI (IntKind.i64.wrap (b-1))] [cB r],.n r false,.b (decide ((A.length:Int)>2)) true]):
 Rt 72 [.agg (nd a b c A)] [cB false]:=
 h.of
theorem qrT(h:Oo [.b (a==2) false,.b (a==3) true,.r 48 [cI b,cI 1,cI 10] [cB q],.n q false,.a .wr,.r 48 [cI c,cI 0,cI (IntKind.i64.wrap (b-1))] [cB r],.n r false,.b (decide ((A.length:Int)>2)) false,.b (a==8) true,.b (decide ((A.length:Int)>0)) true]):
 Rt 72 [.agg (nd a b c A)] [cB false]:=
 h.of
theorem qrU(h:Oo [.b (a==2) false,.b (a==3) true,.r 48 [cI b,cI 1,cI 10] [cB q],.n q false,.a .wr,.r 48 [cI c,cI 0,cI (IntKind.i64.wrap (b-1))] [cB r],.n r false,.b (decide ((A.length:Int)>2)) false,.b (a==8) true,.b (decide ((A.length:Int)>0)) false,.b ((A.length:Int)==2) true,.p ((0:Int)≤0),.p (0<(A.length:Int)),.e A 0 [I d],.p ((0:Int)≤1),.p (1<(A.length:Int)),.e A 1 [I e],.b (d==e) true]):
 Rt 72 [.agg (nd a b c A)] [cB false]:=
 h.of
theorem qrV(h:Oo [.b (a==2) false,.b (a==3) true,.r 48 [cI b,cI 1,cI 10] [cB q],.n q false,.a .wr,.r 48 [cI c,cI 0,cI (IntKind.i64.wrap (b-1))] [cB r],.n r false,.b (decide ((A.length:Int)>2)) false,.b (a==8) true,.b (decide ((A.length:Int)>0)) false,.b ((A.length:Int)==2) true,.p ((0:Int)≤0),.p (0<(A.length:Int)),.e A 0 [I d],.p ((0:Int)≤1),.p (1<(A.length:Int)),.e A 1 [I e],.b (d==e) false,.l [] [93,92,91] [] (qab Tryz.f72 0) (qag A 0) .ret (qat s)]):
 Rt 72 [.agg (nd a b c A)] [cB s]:=
 h.of
theorem qrW(h:Oo [.b (a==2) false,.b (a==3) true,.r 48 [cI b,cI 1,cI 10] [cB q],.n q false,.a .wr,.r 48 [cI c,cI 0,cI (IntKind.i64.wrap (b-1))] [cB r],.n r false,.b (decide ((A.length:Int)>2)) false,.b (a==8) true,.b (decide ((A.length:Int)>0)) false,.b ((A.length:Int)==2) true,.p ((0:Int)≤0),.p (0<(A.length:Int)),.e A 0 [I d],.p ((0:Int)≤1),.p (1<(A.length:Int)),.e A 1 [I e],.b (d==e) false,.l [] [93,92,91] [] (qab Tryz.f72 0) (qag A 0) (.exit 1) qaw]):
 Rt 72 [.agg (nd a b c A)] [cB true]:=
 h.of
theorem qrX(h:Oo [.b (a==2) false,.b (a==3) true,.r 48 [cI b,cI 1,cI 10] [cB q],.n q false,.a .wr,.r 48 [cI c,cI 0,cI (IntKind.i64.wrap (b-1))] [cB r],.n r false,.b (decide ((A.length:Int)>2)) false,.b (a==8) true,.b (decide ((A.length:Int)>0)) false,.b ((A.length:Int)==2) false,.l [] [93,92,91] [] (qab Tryz.f72 0) (qag A 0) .ret (qat s)]):
 Rt 72 [.agg (nd a b c A)] [cB s]:=
 h.of
theorem qrY(h:Oo [.b (a==2) false,.b (a==3) true,.r 48 [cI b,cI 1,cI 10] [cB q],.n q false,.a .wr,.r 48 [cI c,cI 0,cI (IntKind.i64.wrap (b-1))] [cB r],.n r false,.b (decide ((A.length:Int)>2)) false,.b (a==8) true,.b (decide ((A.length:Int)>0)) false,.b ((A.length:Int)==2) false,.l [] [93,92,91] [] (qab Tryz.f72 0) (qag A 0) (.exit 1) qaw]):
 Rt 72 [.agg (nd a b c A)] [cB true]:=
 h.of
theorem qrZ(h:Oo [.b (a==2) false,.b (a==3) true,.r 48 [cI b,cI 1,cI 10] [cB q],.n q false,.a .wr,.r 48 [cI c,cI 0,cI (IntKind.i64.wrap (b-1))] [cB r],.n r false,.b (decide ((A.length:Int)>2)) false,.b (a==8) false,.b ((A.length:Int)==2) true,.p ((0:Int)≤0),.p (0<(A.length:Int)),.e A 0 [I d],.p ((0:Int)≤1),.p (1<(A.length:Int)),.e A 1 [I e],.b (d==e) true]):
 Rt 72 [.agg (nd a b c A)] [cB false]:=
 h.of
theorem qr0(h:Oo [.b (a==2) false,.b (a==3) true,.r 48 [cI b,cI 1,cI 10] [cB q],.n q false,.a .wr,.r 48 [cI c,cI 0,cI (IntKind.i64.wrap (b-1))] [cB r],.n r false,.b (decide ((A.length:Int)>2)) false,.b (a==8) false,.b ((A.length:Int)==2) true,.p ((0:Int)≤0),.p (0<(A.length:Int)),.e A 0 [I d],.p ((0:Int)≤1),.p (1<(A.length:Int)),.e A 1 [I e],.b (d==e) false,.l [] [93,92,91] [] (qab Tryz.f72 0) (qag A 0) .ret (qat s)]):
 Rt 72 [.agg (nd a b c A)] [cB s]:=
 h.of
theorem qr1(h:Oo [.b (a==2) false,.b (a==3) true,.r 48 [cI b,cI 1,cI 10] [cB q],.n q false,.a .wr,.r 48 [cI c,cI 0,cI (IntKind.i64.wrap (b-1))] [cB r],.n r false,.b (decide ((A.length:Int)>2)) false,.b (a==8) false,.b ((A.length:Int)==2) true,.p ((0:Int)≤0),.p (0<(A.length:Int)),.e A 0 [I d],.p ((0:Int)≤1),.p (1<(A.length:Int)),.e A 1 [I e],.b (d==e) false,.l [] [93,92,91] [] (qab Tryz.f72 0) (qag A 0) (.exit 1) qaw]):
 Rt 72 [.agg (nd a b c A)] [cB true]:=
 h.of
theorem qr2(h:Oo [.b (a==2) false,.b (a==3) true,.r 48 [cI b,cI 1,cI 10] [cB q],.n q false,.a .wr,.r 48 [cI c,cI 0,cI (IntKind.i64.wrap (b-1))] [cB r],.n r false,.b (decide ((A.length:Int)>2)) false,.b (a==8) false,.b ((A.length:Int)==2) false,.l [] [93,92,91] [] (qab Tryz.f72 0) (qag A 0) .ret (qat s)]):
 Rt 72 [.agg (nd a b c A)] [cB s]:=
 h.of
theorem qr3(h:Oo [.b (a==2) false,.b (a==3) true,.r 48 [cI b,cI 1,cI 10] [cB q],.n q false,.a .wr,.r 48 [cI c,cI 0,cI (IntKind.i64.wrap (b-1))] [cB r],.n r false,.b (decide ((A.length:Int)>2)) false,.b (a==8) false,.b ((A.length:Int)==2) false,.l [] [93,92,91] [] (qab Tryz.f72 0) (qag A 0) (.exit 1) qaw]):
 Rt 72 [.agg (nd a b c A)] [cB true]:=
 h.of
theorem qr4(h:Oo [.b (a==2) false,.b (a==3) false,.b (a==4) true,.r 48 [cI b,cI 0,cI 99] [cB q],.n q true]):
 Rt 72 [.agg (nd a b c A)] [cB false]:=
 h.of
theorem qr5(h:Oo [.b (a==2) false,.b (a==3) false,.b (a==4) true,.r 48 [cI b,cI 0,cI 99] [cB q],.n q false,.b (c != 0) true]):
 Rt 72 [.agg (nd a b c A)] [cB false]:=
 h.of
theorem qr6(h:Oo [.b (a==2) false,.b (a==3) false,.b (a==4) true,.r 48 [cI b,cI 0,cI 99] [cB q],.n q false,.b (c != 0) false,.b (decide ((A.length:Int)>2)) true]):
 Rt 72 [.agg (nd a b c A)] [cB false]:=
 h.of
theorem qr7(h:Oo [.b (a==2) false,.b (a==3) false,.b (a==4) true,.r 48 [cI b,cI 0,cI 99] [cB q],.n q false,.b (c != 0) false,.b (decide ((A.length:Int)>2)) false,.b (a==8) true,.b (decide ((A.length:Int)>0)) true]):
 Rt 72 [.agg (nd a b c A)] [cB false]:=
 h.of
theorem qr8(h:Oo [.b (a==2) false,.b (a==3) false,.b (a==4) true,.r 48 [cI b,cI 0,cI 99] [cB q],.n q false,.b (c != 0) false,.b (decide ((A.length:Int)>2)) false,.b (a==8) true,.b (decide ((A.length:Int)>0)) false,.b ((A.length:Int)==2) true,.p ((0:Int)≤0),.p (0<(A.length:Int)),.e A 0 [I d],.p ((0:Int)≤1),.p (1<(A.length:Int)),.e A 1 [I e],.b (d==e) true]):
 Rt 72 [.agg (nd a b c A)] [cB false]:=
 h.of
theorem qr9(h:Oo [.b (a==2) false,.b (a==3) false,.b (a==4) true,.r 48 [cI b,cI 0,cI 99] [cB q],.n q false,.b (c != 0) false,.b (decide ((A.length:Int)>2)) false,.b (a==8) true,.b (decide ((A.length:Int)>0)) false,.b ((A.length:Int)==2) true,.p ((0:Int)≤0),.p (0<(A.length:Int)),.e A 0 [I d],.p ((0:Int)≤1),.p (1<(A.length:Int)),.e A 1 [I e],.b (d==e) false,.l [] [93,92,91] [] (qab Tryz.f72 0) (qag A 0) .ret (qat r)]):
 Rt 72 [.agg (nd a b c A)] [cB r]:=
 h.of
theorem qsa(h:Oo [.b (a==2) false,.b (a==3) false,.b (a==4) true,.r 48 [cI b,cI 0,cI 99] [cB q],.n q false,.b (c != 0) false,.b (decide ((A.length:Int)>2)) false,.b (a==8) true,.b (decide ((A.length:Int)>0)) false,.b ((A.length:Int)==2) true,.p ((0:Int)≤0),.p (0<(A.length:Int)),.e A 0 [I d],.p ((0:Int)≤1),.p (1<(A.length:Int)),.e A 1 [I e],.b (d==e) false,.l [] [93,92,91] [] (qab Tryz.f72 0) (qag A 0) (.exit 1) qaw]):
 Rt 72 [.agg (nd a b c A)] [cB true]:=
 h.of
theorem qsb(h:Oo [.b (a==2) false,.b (a==3) false,.b (a==4) true,.r 48 [cI b,cI 0,cI 99] [cB q],.n q false,.b (c != 0) false,.b (decide ((A.length:Int)>2)) false,.b (a==8) true,.b (decide ((A.length:Int)>0)) false,.b ((A.length:Int)==2) false,.l [] [93,92,91] [] (qab Tryz.f72 0) (qag A 0) .ret (qat r)]):
 Rt 72 [.agg (nd a b c A)] [cB r]:=
 h.of
theorem qsc(h:Oo [.b (a==2) false,.b (a==3) false,.b (a==4) true,.r 48 [cI b,cI 0,cI 99] [cB q],.n q false,.b (c != 0) false,.b (decide ((A.length:Int)>2)) false,.b (a==8) true,.b (decide ((A.length:Int)>0)) false,.b ((A.length:Int)==2) false,.l [] [93,92,91] [] (qab Tryz.f72 0) (qag A 0) (.exit 1) qaw]):
 Rt 72 [.agg (nd a b c A)] [cB true]:=
 h.of
theorem qsd(h:Oo [.b (a==2) false,.b (a==3) false,.b (a==4) true,.r 48 [cI b,cI 0,cI 99] [cB q],.n q false,.b (c != 0) false,.b (decide ((A.length:Int)>2)) false,.b (a==8) false,.b ((A.length:Int)==2) true,.p ((0:Int)≤0),.p (0<(A.length:Int)),.e A 0 [I d],.p ((0:Int)≤1),.p (1<(A.length:Int)),.e A 1 [I e],.b (d==e) true]):
 Rt 72 [.agg (nd a b c A)] [cB false]:=
 h.of
theorem qse(h:Oo [.b (a==2) false,.b (a==3) false,.b (a==4) true,.r 48 [cI b,cI 0,cI 99] [cB q],.n q false,.b (c != 0) false,.b (decide ((A.length:Int)>2)) false,.b (a==8) false,.b ((A.length:Int)==2) true,.p ((0:Int)≤0),.p (0<(A.length:Int)),.e A 0 [I d],.p ((0:Int)≤1),.p (1<(A.length:Int)),.e A 1 [I e],.b (d==e) false,.l [] [93,92,91] [] (qab Tryz.f72 0) (qag A 0) .ret (qat r)]):
 Rt 72 [.agg (nd a b c A)] [cB r]:=
 h.of
theorem qsf(h:Oo [.b (a==2) false,.b (a==3) false,.b (a==4) true,.r 48 [cI b,cI 0,cI 99] [cB q],.n q false,.b (c != 0) false,.b (decide ((A.length:Int)>2)) false,.b (a==8) false,.b ((A.length:Int)==2) true,.p ((0:Int)≤0),.p (0<(A.length:Int)),.e A 0 [I d],.p ((0:Int)≤1),.p (1<(A.length:Int)),.e A 1 [I e],.b (d==e) false,.l [] [93,92,91] [] (qab Tryz.f72 0) (qag A 0) (.exit 1) qaw]):
 Rt 72 [.agg (nd a b c A)] [cB true]:=
 h.of
theorem qsg(h:Oo [.b (a==2) false,.b (a==3) false,.b (a==4) true,.r 48 [cI b,cI 0,cI 99] [cB q],.n q false,.b (c != 0) false,.b (decide ((A.length:Int)>2)) false,.b (a==8) false,.b ((A.length:Int)==2) false,.l [] [93,92,91] [] (qab Tryz.f72 0) (qag A 0) .ret (qat r)]):
 Rt 72 [.agg (nd a b c A)] [cB r]:=
 h.of
theorem qsh(h:Oo [.b (a==2) false,.b (a==3) false,.b (a==4) true,.r 48 [cI b,cI 0,cI 99] [cB q],.n q false,.b (c != 0) false,.b (decide ((A.length:Int)>2)) false,.b (a==8) false,.b ((A.length:Int)==2) false,.l [] [93,92,91] [] (qab Tryz.f72 0) (qag A 0) (.exit 1) qaw]):
 Rt 72 [.agg (nd a b c A)] [cB true]:=
 h.of
theorem qsi(h:Oo [.b (a==2) false,.b (a==3) false,.b (a==4) false,.b (a==1) true,.b (a==1) true,.b (b != 0) true]):
 Rt 72 [.agg (nd a b c A)] [cB false]:=
 h.of
theorem qsj(h:Oo [.b (a==2) false,.b (a==3) false,.b (a==4) false,.b (a==1) true,.b (a==1) true,.b (b != 0) false,.b (c != 0) true]):
 Rt 72 [.agg (nd a b c A)] [cB false]:=
 h.of
theorem qsk(h:Oo [.b (a==2) false,.b (a==3) false,.b (a==4) false,.b (a==1) true,.b (a==1) true,.b (b != 0) false,.b (c != 0) false,.b (decide ((A.length:Int)>2)) true]):
 Rt 72 [.agg (nd a b c A)] [cB false]:=
 h.of
theorem qsl(h:Oo [.b (a==2) false,.b (a==3) false,.b (a==4) false,.b (a==1) true,.b (a==1) true,.b (b != 0) false,.b (c != 0) false,.b (decide ((A.length:Int)>2)) false,.b (a==8) true,.b (decide ((A.length:Int)>0)) true]):
 Rt 72 [.agg (nd a b c A)] [cB false]:=
 h.of
theorem qsm(h:Oo [.b (a==2) false,.b (a==3) false,.b (a==4) false,.b (a==1) true,.b (a==1) true,.b (b != 0) false,.b (c != 0) false,.b (decide ((A.length:Int)>2)) false,.b (a==8) true,.b (decide ((A.length:Int)>0)) false,.b ((A.length:Int)==2) true,.p ((0:Int)≤0),.p (0<(A.length:Int)),.e A 0 [I d],.p ((0:Int)≤1),.p (1<(A.length:Int)),.e A 1 [I e],.b (d==e) true]):
 Rt 72 [.agg (nd a b c A)] [cB false]:=
 h.of
theorem qsn(h:Oo [.b (a==2) false,.b (a==3) false,.b (a==4) false,.b (a==1) true,.b (a==1) true,.b (b != 0) false,.b (c != 0) false,.b (decide ((A.length:Int)>2)) false,.b (a==8) true,.b (decide ((A.length:Int)>0)) false,.b ((A.length:Int)==2) true,.p ((0:Int)≤0),.p (0<(A.length:Int)),.e A 0 [I d],.p ((0:Int)≤1),.p (1<(A.length:Int)),.e A 1 [I e],.b (d==e) false,.l [] [93,92,91] [] (qab Tryz.f72 0) (qag A 0) .ret (qat q)]):
 Rt 72 [.agg (nd a b c A)] [cB q]:=
 h.of
theorem qso(h:Oo [.b (a==2) false,.b (a==3) false,.b (a==4) false,.b (a==1) true,.b (a==1) true,.b (b != 0) false,.b (c != 0) false,.b (decide ((A.length:Int)>2)) false,.b (a==8) true,.b (decide ((A.length:Int)>0)) false,.b ((A.length:Int)==2) true,.p ((0:Int)≤0),.p (0<(A.length:Int)),.e A 0 [I d],.p ((0:Int)≤1),.p (1<(A.length:Int)),.e A 1 [I e],.b (d==e) false,.l [] [93,92,91] [] (qab Tryz.f72 0) (qag A 0) (.exit 1) qaw]):
 Rt 72 [.agg (nd a b c A)] [cB true]:=
 h.of
theorem qsp(h:Oo [.b (a==2) false,.b (a==3) false,.b (a==4) false,.b (a==1) true,.b (a==1) true,.b (b != 0) false,.b (c != 0) false,.b (decide ((A.length:Int)>2)) false,.b (a==8) true,.b (decide ((A.length:Int)>0)) false,.b ((A.length:Int)==2) false,.l [] [93,92,91] [] (qab Tryz.f72 0) (qag A 0) .ret (qat q)]):
 Rt 72 [.agg (nd a b c A)] [cB q]:=
 h.of
theorem qsq(h:Oo [.b (a==2) false,.b (a==3) false,.b (a==4) false,.b (a==1) true,.b (a==1) true,.b (b != 0) false,.b (c != 0) false,.b (decide ((A.length:Int)>2)) false,.b (a==8) true,.b (decide ((A.length:Int)>0)) false,.b ((A.length:Int)==2) false,.l [] [93,92,91] [] (qab Tryz.f72 0) (qag A 0) (.exit 1) qaw]):
 Rt 72 [.agg (nd a b c A)] [cB true]:=
 h.of
theorem qsr(h:Oo [.b (a==2) false,.b (a==3) false,.b (a==4) false,.b (a==1) true,.b (a==1) true,.b (b != 0) false,.b (c != 0) false,.b (decide ((A.length:Int)>2)) false,.b (a==8) false,.b ((A.length:Int)==2) true,.p ((0:Int)≤0),.p (0<(A.length:Int)),.e A 0 [I d],.p ((0:Int)≤1),.p (1<(A.length:Int)),.e A 1 [I e],.b (d==e) true]):
 Rt 72 [.agg (nd a b c A)] [cB false]:=
 h.of
theorem qss(h:Oo [.b (a==2) false,.b (a==3) false,.b (a==4) false,.b (a==1) true,.b (a==1) true,.b (b != 0) false,.b (c != 0) false,.b (decide ((A.length:Int)>2)) false,.b (a==8) false,.b ((A.length:Int)==2) true,.p ((0:Int)≤0),.p (0<(A.length:Int)),.e A 0 [I d],.p ((0:Int)≤1),.p (1<(A.length:Int)),.e A 1 [I e],.b (d==e) false,.l [] [93,92,91] [] (qab Tryz.f72 0) (qag A 0) .ret (qat q)]):
 Rt 72 [.agg (nd a b c A)] [cB q]:=
 h.of
theorem qst(h:Oo [.b (a==2) false,.b (a==3) false,.b (a==4) false,.b (a==1) true,.b (a==1) true,.b (b != 0) false,.b (c != 0) false,.b (decide ((A.length:Int)>2)) false,.b (a==8) false,.b ((A.length:Int)==2) true,.p ((0:Int)≤0),.p (0<(A.length:Int)),.e A 0 [I d],.p ((0:Int)≤1),.p (1<(A.length:Int)),.e A 1 [I e],.b (d==e) false,.l [] [93,92,91] [] (qab Tryz.f72 0) (qag A 0) (.exit 1) qaw]):
 Rt 72 [.agg (nd a b c A)] [cB true]:=
 h.of
theorem qsu(h:Oo [.b (a==2) false,.b (a==3) false,.b (a==4) false,.b (a==1) true,.b (a==1) true,.b (b != 0) false,.b (c != 0) false,.b (decide ((A.length:Int)>2)) false,.b (a==8) false,.b ((A.length:Int)==2) false,.l [] [93,92,91] [] (qab Tryz.f72 0) (qag A 0) .ret (qat q)]):
 Rt 72 [.agg (nd a b c A)] [cB q]:=
 h.of
theorem qsv(h:Oo [.b (a==2) false,.b (a==3) false,.b (a==4) false,.b (a==1) true,.b (a==1) true,.b (b != 0) false,.b (c != 0) false,.b (decide ((A.length:Int)>2)) false,.b (a==8) false,.b ((A.length:Int)==2) false,.l [] [93,92,91] [] (qab Tryz.f72 0) (qag A 0) (.exit 1) qaw]):
 Rt 72 [.agg (nd a b c A)] [cB true]:=
 h.of
theorem qsw(h:Oo [.b (a==2) false,.b (a==3) false,.b (a==4) false,.b (a==1) false,.b (a==5) true,.b (a==5) true,.b (b != 0) true]):
 Rt 72 [.agg (nd a b c A)] [cB false]:=
 h.of
theorem qsx(h:Oo [.b (a==2) false,.b (a==3) false,.b (a==4) false,.b (a==1) false,.b (a==5) true,.b (a==5) true,.b (b != 0) false,.b (c != 0) true]):
 Rt 72 [.agg (nd a b c A)] [cB false]:=
 h.of
theorem qsy(h:Oo [.b (a==2) false,.b (a==3) false,.b (a==4) false,.b (a==1) false,.b (a==5) true,.b (a==5) true,.b (b != 0) false,.b (c != 0) false,.b (decide ((A.length:Int)>2)) true]):
 Rt 72 [.agg (nd a b c A)] [cB false]:=
 h.of
theorem qsz(h:Oo [.b (a==2) false,.b (a==3) false,.b (a==4) false,.b (a==1) false,.b (a==5) true,.b (a==5) true,.b (b != 0) false,.b (c != 0) false,.b (decide ((A.length:Int)>2)) false,.b (a==8) true,.b (decide ((A.length:Int)>0)) true]):
 Rt 72 [.agg (nd a b c A)] [cB false]:=
 h.of
theorem qsA(h:Oo [.b (a==2) false,.b (a==3) false,.b (a==4) false,.b (a==1) false,.b (a==5) true,.b (a==5) true,.b (b != 0) false,.b (c != 0) false,.b (decide ((A.length:Int)>2)) false,.b (a==8) true,.b (decide ((A.length:Int)>0)) false,.b ((A.length:Int)==2) true,.p ((0:Int)≤0),.p (0<(A.length:Int)),.e A 0 [I d],.p ((0:Int)≤1),.p (1<(A.length:Int)),.e A 1 [I e],.b (d==e) true]):
 Rt 72 [.agg (nd a b c A)] [cB false]:=
 h.of
theorem qsB(h:Oo [.b (a==2) false,.b (a==3) false,.b (a==4) false,.b (a==1) false,.b (a==5) true,.b (a==5) true,.b (b != 0) false,.b (c != 0) false,.b (decide ((A.length:Int)>2)) false,.b (a==8) true,.b (decide ((A.length:Int)>0)) false,.b ((A.length:Int)==2) true,.p ((0:Int)≤0),.p (0<(A.length:Int)),.e A 0 [I d],.p ((0:Int)≤1),.p (1<(A.length:Int)),.e A 1 [I e],.b (d==e) false,.l [] [93,92,91] [] (qab Tryz.f72 0) (qag A 0) .ret (qat q)]):
 Rt 72 [.agg (nd a b c A)] [cB q]:=
 h.of
theorem qsC(h:Oo [.b (a==2) false,.b (a==3) false,.b (a==4) false,.b (a==1) false,.b (a==5) true,.b (a==5) true,.b (b != 0) false,.b (c != 0) false,.b (decide ((A.length:Int)>2)) false,.b (a==8) true,.b (decide ((A.length:Int)>0)) false,.b ((A.length:Int)==2) true,.p ((0:Int)≤0),.p (0<(A.length:Int)),.e A 0 [I d],.p ((0:Int)≤1),.p (1<(A.length:Int)),.e A 1 [I e],.b (d==e) false,.l [] [93,92,91] [] (qab Tryz.f72 0) (qag A 0) (.exit 1) qaw]):
 Rt 72 [.agg (nd a b c A)] [cB true]:=
 h.of
theorem qsD(h:Oo [.b (a==2) false,.b (a==3) false,.b (a==4) false,.b (a==1) false,.b (a==5) true,.b (a==5) true,.b (b != 0) false,.b (c != 0) false,.b (decide ((A.length:Int)>2)) false,.b (a==8) true,.b (decide ((A.length:Int)>0)) false,.b ((A.length:Int)==2) false,.l [] [93,92,91] [] (qab Tryz.f72 0) (qag A 0) .ret (qat q)]):
 Rt 72 [.agg (nd a b c A)] [cB q]:=
 h.of
theorem qsE(h:Oo [.b (a==2) false,.b (a==3) false,.b (a==4) false,.b (a==1) false,.b (a==5) true,.b (a==5) true,.b (b != 0) false,.b (c != 0) false,.b (decide ((A.length:Int)>2)) false,.b (a==8) true,.b (decide ((A.length:Int)>0)) false,.b ((A.length:Int)==2) false,.l [] [93,92,91] [] (qab Tryz.f72 0) (qag A 0) (.exit 1) qaw]):
 Rt 72 [.agg (nd a b c A)] [cB true]:=
 h.of
theorem qsF(h:Oo [.b (a==2) false,.b (a==3) false,.b (a==4) false,.b (a==1) false,.b (a==5) true,.b (a==5) true,.b (b != 0) false,.b (c != 0) false,.b (decide ((A.length:Int)>2)) false,.b (a==8) false,.b ((A.length:Int)==2) true,.p ((0:Int)≤0),.p (0<(A.length:Int)),.e A 0 [I d],.p ((0:Int)≤1),.p (1<(A.length:Int)),.e A 1 [I e],.b (d==e) true]):
 Rt 72 [.agg (nd a b c A)] [cB false]:=
 h.of
theorem qsG(h:Oo [.b (a==2) false,.b (a==3) false,.b (a==4) false,.b (a==1) false,.b (a==5) true,.b (a==5) true,.b (b != 0) false,.b (c != 0) false,.b (decide ((A.length:Int)>2)) false,.b (a==8) false,.b ((A.length:Int)==2) true,.p ((0:Int)≤0),.p (0<(A.length:Int)),.e A 0 [I d],.p ((0:Int)≤1),.p (1<(A.length:Int)),.e A 1 [I e],.b (d==e) false,.l [] [93,92,91] [] (qab Tryz.f72 0) (qag A 0) .ret (qat q)]):
 Rt 72 [.agg (nd a b c A)] [cB q]:=
 h.of
theorem qsH(h:Oo [.b (a==2) false,.b (a==3) false,.b (a==4) false,.b (a==1) false,.b (a==5) true,.b (a==5) true,.b (b != 0) false,.b (c != 0) false,.b (decide ((A.length:Int)>2)) false,.b (a==8) false,.b ((A.length:Int)==2) true,.p ((0:Int)≤0),.p (0<(A.length:Int)),.e A 0 [I d],.p ((0:Int)≤1),.p (1<(A.length:Int)),.e A 1 [I e],.b (d==e) false,.l [] [93,92,91] [] (qab Tryz.f72 0) (qag A 0) (.exit 1) qaw]):
 Rt 72 [.agg (nd a b c A)] [cB true]:=
 h.of
theorem qsI(h:Oo [.b (a==2) false,.b (a==3) false,.b (a==4) false,.b (a==1) false,.b (a==5) true,.b (a==5) true,.b (b != 0) false,.b (c != 0) false,.b (decide ((A.length:Int)>2)) false,.b (a==8) false,.b ((A.length:Int)==2) false,.l [] [93,92,91] [] (qab Tryz.f72 0) (qag A 0) .ret (qat q)]):
 Rt 72 [.agg (nd a b c A)] [cB q]:=
 h.of
theorem qsJ(h:Oo [.b (a==2) false,.b (a==3) false,.b (a==4) false,.b (a==1) false,.b (a==5) true,.b (a==5) true,.b (b != 0) false,.b (c != 0) false,.b (decide ((A.length:Int)>2)) false,.b (a==8) false,.b ((A.length:Int)==2) false,.l [] [93,92,91] [] (qab Tryz.f72 0) (qag A 0) (.exit 1) qaw]):
 Rt 72 [.agg (nd a b c A)] [cB true]:=
 h.of
theorem qsK(h:Oo [.b (a==2) false,.b (a==3) false,.b (a==4) false,.b (a==1) false,.b (a==5) false,.b (a==6) true,.b (a==6) true,.b (b != 0) true]):
 Rt 72 [.agg (nd a b c A)] [cB false]:=
 h.of
theorem qsL(h:Oo [.b (a==2) false,.b (a==3) false,.b (a==4) false,.b (a==1) false,.b (a==5) false,.b (a==6) true,.b (a==6) true,.b (b != 0) false,.b (c != 0) true]):
 Rt 72 [.agg (nd a b c A)] [cB false]:=
 h.of
theorem qsM(h:Oo [.b (a==2) false,.b (a==3) false,.b (a==4) false,.b (a==1) false,.b (a==5) false,.b (a==6) true,.b (a==6) true,.b (b != 0) false,.b (c != 0) false,.b (decide ((A.length:Int)>2)) true]):
 Rt 72 [.agg (nd a b c A)] [cB false]:=
 h.of
theorem qsN(h:Oo [.b (a==2) false,.b (a==3) false,.b (a==4) false,.b (a==1) false,.b (a==5) false,.b (a==6) true,.b (a==6) true,.b (b != 0) false,.b (c != 0) false,.b (decide ((A.length:Int)>2)) false,.b (a==8) true,.b (decide ((A.length:Int)>0)) true]):
 Rt 72 [.agg (nd a b c A)] [cB false]:=
 h.of
theorem qsO(h:Oo [.b (a==2) false,.b (a==3) false,.b (a==4) false,.b (a==1) false,.b (a==5) false,.b (a==6) true,.b (a==6) true,.b (b != 0) false,.b (c != 0) false,.b (decide ((A.length:Int)>2)) false,.b (a==8) true,.b (decide ((A.length:Int)>0)) false,.b ((A.length:Int)==2) true,.p ((0:Int)≤0),.p (0<(A.length:Int)),.e A 0 [I d],.p ((0:Int)≤1),.p (1<(A.length:Int)),.e A 1 [I e],.b (d==e) true]):
 Rt 72 [.agg (nd a b c A)] [cB false]:=
 h.of
theorem qsP(h:Oo [.b (a==2) false,.b (a==3) false,.b (a==4) false,.b (a==1) false,.b (a==5) false,.b (a==6) true,.b (a==6) true,.b (b != 0) false,.b (c != 0) false,.b (decide ((A.length:Int)>2)) false,.b (a==8) true,.b (decide ((A.length:Int)>0)) false,.b ((A.length:Int)==2) true,.p ((0:Int)≤0),.p (0<(A.length:Int)),.e A 0 [I d],.p ((0:Int)≤1),.p (1<(A.length:Int)),.e A 1 [I e],.b (d==e) false,.l [] [93,92,91] [] (qab Tryz.f72 0) (qag A 0) .ret (qat q)]):
 Rt 72 [.agg (nd a b c A)] [cB q]:=
 h.of
theorem qsQ(h:Oo [.b (a==2) false,.b (a==3) false,.b (a==4) false,.b (a==1) false,.b (a==5) false,.b (a==6) true,.b (a==6) true,.b (b != 0) false,.b (c != 0) false,.b (decide ((A.length:Int)>2)) false,.b (a==8) true,.b (decide ((A.length:Int)>0)) false,.b ((A.length:Int)==2) true,.p ((0:Int)≤0),.p (0<(A.length:Int)),.e A 0 [I d],.p ((0:Int)≤1),.p (1<(A.length:Int)),.e A 1 [I e],.b (d==e) false,.l [] [93,92,91] [] (qab Tryz.f72 0) (qag A 0) (.exit 1) qaw]):
 Rt 72 [.agg (nd a b c A)] [cB true]:=
 h.of
theorem qsR(h:Oo [.b (a==2) false,.b (a==3) false,.b (a==4) false,.b (a==1) false,.b (a==5) false,.b (a==6) true,.b (a==6) true,.b (b != 0) false,.b (c != 0) false,.b (decide ((A.length:Int)>2)) false,.b (a==8) true,.b (decide ((A.length:Int)>0)) false,.b ((A.length:Int)==2) false,.l [] [93,92,91] [] (qab Tryz.f72 0) (qag A 0) .ret (qat q)]):
 Rt 72 [.agg (nd a b c A)] [cB q]:=
 h.of
theorem qsS(h:Oo [.b (a==2) false,.b (a==3) false,.b (a==4) false,.b (a==1) false,.b (a==5) false,.b (a==6) true,.b (a==6) true,.b (b != 0) false,.b (c != 0) false,.b (decide ((A.length:Int)>2)) false,.b (a==8) true,.b (decide ((A.length:Int)>0)) false,.b ((A.length:Int)==2) false,.l [] [93,92,91] [] (qab Tryz.f72 0) (qag A 0) (.exit 1) qaw]):
 Rt 72 [.agg (nd a b c A)] [cB true]:=
 h.of
theorem qsT(h:Oo [.b (a==2) false,.b (a==3) false,.b (a==4) false,.b (a==1) false,.b (a==5) false,.b (a==6) true,.b (a==6) true,.b (b != 0) false,.b (c != 0) false,.b (decide ((A.length:Int)>2)) false,.b (a==8) false,.b ((A.length:Int)==2) true,.p ((0:Int)≤0),.p (0<(A.length:Int)),.e A 0 [I d],.p ((0:Int)≤1),.p (1<(A.length:Int)),.e A 1 [I e],.b (d==e) true]):
 Rt 72 [.agg (nd a b c A)] [cB false]:=
 h.of
theorem qsU(h:Oo [.b (a==2) false,.b (a==3) false,.b (a==4) false,.b (a==1) false,.b (a==5) false,.b (a==6) true,.b (a==6) true,.b (b != 0) false,.b (c != 0) false,.b (decide ((A.length:Int)>2)) false,.b (a==8) false,.b ((A.length:Int)==2) true,.p ((0:Int)≤0),.p (0<(A.length:Int)),.e A 0 [I d],.p ((0:Int)≤1),.p (1<(A.length:Int)),.e A 1 [I e],.b (d==e) false,.l [] [93,92,91] [] (qab Tryz.f72 0) (qag A 0) .ret (qat q)]):
 Rt 72 [.agg (nd a b c A)] [cB q]:=
 h.of
theorem qsV(h:Oo [.b (a==2) false,.b (a==3) false,.b (a==4) false,.b (a==1) false,.b (a==5) false,.b (a==6) true,.b (a==6) true,.b (b != 0) false,.b (c != 0) false,.b (decide ((A.length:Int)>2)) false,.b (a==8) false,.b ((A.length:Int)==2) true,.p ((0:Int)≤0),.p (0<(A.length:Int)),.e A 0 [I d],.p ((0:Int)≤1),.p (1<(A.length:Int)),.e A 1 [I e],.b (d==e) false,.l [] [93,92,91] [] (qab Tryz.f72 0) (qag A 0) (.exit 1) qaw]):
 Rt 72 [.agg (nd a b c A)] [cB true]:=
 h.of
theorem qsW(h:Oo [.b (a==2) false,.b (a==3) false,.b (a==4) false,.b (a==1) false,.b (a==5) false,.b (a==6) true,.b (a==6) true,.b (b != 0) false,.b (c != 0) false,.b (decide ((A.length:Int)>2)) false,.b (a==8) false,.b ((A.length:Int)==2) false,.l [] [93,92,91] [] (qab Tryz.f72 0) (qag A 0) .ret (qat q)]):
 Rt 72 [.agg (nd a b c A)] [cB q]:=
 h.of
theorem qsX(h:Oo [.b (a==2) false,.b (a==3) false,.b (a==4) false,.b (a==1) false,.b (a==5) false,.b (a==6) true,.b (a==6) true,.b (b != 0) false,.b (c != 0) false,.b (decide ((A.length:Int)>2)) false,.b (a==8) false,.b ((A.length:Int)==2) false,.l [] [93,92,91] [] (qab Tryz.f72 0) (qag A 0) (.exit 1) qaw]):
 Rt 72 [.agg (nd a b c A)] [cB true]:=
 h.of
theorem qsY(h:Oo [.b (a==2) false,.b (a==3) false,.b (a==4) false,.b (a==1) false,.b (a==5) false,.b (a==6) false,.b (a==7) true,.b (a==7) true,.b (b != 0) true]):
 Rt 72 [.agg (nd a b c A)] [cB false]:=
 h.of
theorem qsZ(h:Oo [.b (a==2) false,.b (a==3) false,.b (a==4) false,.b (a==1) false,.b (a==5) false,.b (a==6) false,.b (a==7) true,.b (a==7) true,.b (b != 0) false,.b (c != 0) true]):
 Rt 72 [.agg (nd a b c A)] [cB false]:=
 h.of
theorem qs0(h:Oo [.b (a==2) false,.b (a==3) false,.b (a==4) false,.b (a==1) false,.b (a==5) false,.b (a==6) false,.b (a==7) true,.b (a==7) true,.b (b != 0) false,.b (c != 0) false,.b (decide ((A.length:Int)>2)) true]):
 Rt 72 [.agg (nd a b c A)] [cB false]:=
 h.of
theorem qs1(h:Oo [.b (a==2) false,.b (a==3) false,.b (a==4) false,.b (a==1) false,.b (a==5) false,.b (a==6) false,.b (a==7) true,.b (a==7) true,.b (b != 0) false,.b (c != 0) false,.b (decide ((A.length:Int)>2)) false,.b (a==8) true,.b (decide ((A.length:Int)>0)) true]):
 Rt 72 [.agg (nd a b c A)] [cB false]:=
 h.of
theorem qs2(h:Oo [.b (a==2) false,.b (a==3) false,.b (a==4) false,.b (a==1) false,.b (a==5) false,.b (a==6) false,.b (a==7) true,.b (a==7) true,.b (b != 0) false,.b (c != 0) false,.b (decide ((A.length:Int)>2)) false,.b (a==8) true,.b (decide ((A.length:Int)>0)) false,.b ((A.length:Int)==2) true,.p ((0:Int)≤0),.p (0<(A.length:Int)),.e A 0 [I d],.p ((0:Int)≤1),.p (1<(A.length:Int)),.e A 1 [I e],.b (d==e) true]):
 Rt 72 [.agg (nd a b c A)] [cB false]:=
 h.of
theorem qs3(h:Oo [.b (a==2) false,.b (a==3) false,.b (a==4) false,.b (a==1) false,.b (a==5) false,.b (a==6) false,.b (a==7) true,.b (a==7) true,.b (b != 0) false,.b (c != 0) false,.b (decide ((A.length:Int)>2)) false,.b (a==8) true,.b (decide ((A.length:Int)>0)) false,.b ((A.length:Int)==2) true,.p ((0:Int)≤0),.p (0<(A.length:Int)),.e A 0 [I d],.p ((0:Int)≤1),.p (1<(A.length:Int)),.e A 1 [I e],.b (d==e) false,.l [] [93,92,91] [] (qab Tryz.f72 0) (qag A 0) .ret (qat q)]):
 Rt 72 [.agg (nd a b c A)] [cB q]:=
 h.of
theorem qs4(h:Oo [.b (a==2) false,.b (a==3) false,.b (a==4) false,.b (a==1) false,.b (a==5) false,.b (a==6) false,.b (a==7) true,.b (a==7) true,.b (b != 0) false,.b (c != 0) false,.b (decide ((A.length:Int)>2)) false,.b (a==8) true,.b (decide ((A.length:Int)>0)) false,.b ((A.length:Int)==2) true,.p ((0:Int)≤0),.p (0<(A.length:Int)),.e A 0 [I d],.p ((0:Int)≤1),.p (1<(A.length:Int)),.e A 1 [I e],.b (d==e) false,.l [] [93,92,91] [] (qab Tryz.f72 0) (qag A 0) (.exit 1) qaw]):
 Rt 72 [.agg (nd a b c A)] [cB true]:=
 h.of
theorem qs5(h:Oo [.b (a==2) false,.b (a==3) false,.b (a==4) false,.b (a==1) false,.b (a==5) false,.b (a==6) false,.b (a==7) true,.b (a==7) true,.b (b != 0) false,.b (c != 0) false,.b (decide ((A.length:Int)>2)) false,.b (a==8) true,.b (decide ((A.length:Int)>0)) false,.b ((A.length:Int)==2) false,.l [] [93,92,91] [] (qab Tryz.f72 0) (qag A 0) .ret (qat q)]):
 Rt 72 [.agg (nd a b c A)] [cB q]:=
 h.of
theorem qs6(h:Oo [.b (a==2) false,.b (a==3) false,.b (a==4) false,.b (a==1) false,.b (a==5) false,.b (a==6) false,.b (a==7) true,.b (a==7) true,.b (b != 0) false,.b (c != 0) false,.b (decide ((A.length:Int)>2)) false,.b (a==8) true,.b (decide ((A.length:Int)>0)) false,.b ((A.length:Int)==2) false,.l [] [93,92,91] [] (qab Tryz.f72 0) (qag A 0) (.exit 1) qaw]):
 Rt 72 [.agg (nd a b c A)] [cB true]:=
 h.of
theorem qs7(h:Oo [.b (a==2) false,.b (a==3) false,.b (a==4) false,.b (a==1) false,.b (a==5) false,.b (a==6) false,.b (a==7) true,.b (a==7) true,.b (b != 0) false,.b (c != 0) false,.b (decide ((A.length:Int)>2)) false,.b (a==8) false,.b ((A.length:Int)==2) true,.p ((0:Int)≤0),.p (0<(A.length:Int)),.e A 0 [I d],.p ((0:Int)≤1),.p (1<(A.length:Int)),.e A 1 [I e],.b (d==e) true]):
 Rt 72 [.agg (nd a b c A)] [cB false]:=
 h.of
theorem qs8(h:Oo [.b (a==2) false,.b (a==3) false,.b (a==4) false,.b (a==1) false,.b (a==5) false,.b (a==6) false,.b (a==7) true,.b (a==7) true,.b (b != 0) false,.b (c != 0) false,.b (decide ((A.length:Int)>2)) false,.b (a==8) false,.b ((A.length:Int)==2) true,.p ((0:Int)≤0),.p (0<(A.length:Int)),.e A 0 [I d],.p ((0:Int)≤1),.p (1<(A.length:Int)),.e A 1 [I e],.b (d==e) false,.l [] [93,92,91] [] (qab Tryz.f72 0) (qag A 0) .ret (qat q)]):
 Rt 72 [.agg (nd a b c A)] [cB q]:=
 h.of
theorem qs9(h:Oo [.b (a==2) false,.b (a==3) false,.b (a==4) false,.b (a==1) false,.b (a==5) false,.b (a==6) false,.b (a==7) true,.b (a==7) true,.b (b != 0) false,.b (c != 0) false,.b (decide ((A.length:Int)>2)) false,.b (a==8) false,.b ((A.length:Int)==2) true,.p ((0:Int)≤0),.p (0<(A.length:Int)),.e A 0 [I d],.p ((0:Int)≤1),.p (1<(A.length:Int)),.e A 1 [I e],.b (d==e) false,.l [] [93,92,91] [] (qab Tryz.f72 0) (qag A 0) (.exit 1) qaw]):
 Rt 72 [.agg (nd a b c A)] [cB true]:=
 h.of
theorem qta(h:Oo [.b (a==2) false,.b (a==3) false,.b (a==4) false,.b (a==1) false,.b (a==5) false,.b (a==6) false,.b (a==7) true,.b (a==7) true,.b (b != 0) false,.b (c != 0) false,.b (decide ((A.length:Int)>2)) false,.b (a==8) false,.b ((A.length:Int)==2) false,.l [] [93,92,91] [] (qab Tryz.f72 0) (qag A 0) .ret (qat q)]):
 Rt 72 [.agg (nd a b c A)] [cB q]:=
 h.of
theorem qtb(h:Oo [.b (a==2) false,.b (a==3) false,.b (a==4) false,.b (a==1) false,.b (a==5) false,.b (a==6) false,.b (a==7) true,.b (a==7) true,.b (b != 0) false,.b (c != 0) false,.b (decide ((A.length:Int)>2)) false,.b (a==8) false,.b ((A.length:Int)==2) false,.l [] [93,92,91] [] (qab Tryz.f72 0) (qag A 0) (.exit 1) qaw]):
 Rt 72 [.agg (nd a b c A)] [cB true]:=
 h.of
theorem qtc(h:Oo [.b (a==2) false,.b (a==3) false,.b (a==4) false,.b (a==1) false,.b (a==5) false,.b (a==6) false,.b (a==7) false,.b (a==8) true,.b (b != 0) true]):
 Rt 72 [.agg (nd a b c A)] [cB false]:=
 h.of
theorem qtd(h:Oo [.b (a==2) false,.b (a==3) false,.b (a==4) false,.b (a==1) false,.b (a==5) false,.b (a==6) false,.b (a==7) false,.b (a==8) true,.b (b != 0) false,.b (c != 0) true]):
 Rt 72 [.agg (nd a b c A)] [cB false]:=
 h.of
theorem qte(h:Oo [.b (a==2) false,.b (a==3) false,.b (a==4) false,.b (a==1) false,.b (a==5) false,.b (a==6) false,.b (a==7) false,.b (a==8) true,.b (b != 0) false,.b (c != 0) false,.b (decide ((A.length:Int)>2)) true]):
 Rt 72 [.agg (nd a b c A)] [cB false]:=
 h.of
theorem qtf(h:Oo [.b (a==2) false,.b (a==3) false,.b (a==4) false,.b (a==1) false,.b (a==5) false,.b (a==6) false,.b (a==7) false,.b (a==8) true,.b (b != 0) false,.b (c != 0) false,.b (decide ((A.length:Int)>2)) false,.b (a==8) true,.b (decide ((A.length:Int)>0)) true]):
 Rt 72 [.agg (nd a b c A)] [cB false]:=
 h.of
theorem qtg(h:Oo [.b (a==2) false,.b (a==3) false,.b (a==4) false,.b (a==1) false,.b (a==5) false,.b (a==6) false,.b (a==7) false,.b (a==8) true,.b (b != 0) false,.b (c != 0) false,.b (decide ((A.length:Int)>2)) false,.b (a==8) true,.b (decide ((A.length:Int)>0)) false,.b ((A.length:Int)==2) true,.p ((0:Int)≤0),.p (0<(A.length:Int)),.e A 0 [I d],.p ((0:Int)≤1),.p (1<(A.length:Int)),.e A 1 [I e],.b (d==e) true]):
 Rt 72 [.agg (nd a b c A)] [cB false]:=
 h.of
theorem qth(h:Oo [.b (a==2) false,.b (a==3) false,.b (a==4) false,.b (a==1) false,.b (a==5) false,.b (a==6) false,.b (a==7) false,.b (a==8) true,.b (b != 0) false,.b (c != 0) false,.b (decide ((A.length:Int)>2)) false,.b (a==8) true,.b (decide ((A.length:Int)>0)) false,.b ((A.length:Int)==2) true,.p ((0:Int)≤0),.p (0<(A.length:Int)),.e A 0 [I d],.p ((0:Int)≤1),.p (1<(A.length:Int)),.e A 1 [I e],.b (d==e) false,.l [] [93,92,91] [] (qab Tryz.f72 0) (qag A 0) .ret (qat q)]):
 Rt 72 [.agg (nd a b c A)] [cB q]:=
 h.of
theorem qti(h:Oo [.b (a==2) false,.b (a==3) false,.b (a==4) false,.b (a==1) false,.b (a==5) false,.b (a==6) false,.b (a==7) false,.b (a==8) true,.b (b != 0) false,.b (c != 0) false,.b (decide ((A.length:Int)>2)) false,.b (a==8) true,.b (decide ((A.length:Int)>0)) false,.b ((A.length:Int)==2) true,.p ((0:Int)≤0),.p (0<(A.length:Int)),.e A 0 [I d],.p ((0:Int)≤1),.p (1<(A.length:Int)),.e A 1 [I e],.b (d==e) false,.l [] [93,92,91] [] (qab Tryz.f72 0) (qag A 0) (.exit 1) qaw]):
 Rt 72 [.agg (nd a b c A)] [cB true]:=
 h.of
theorem qtj(h:Oo [.b (a==2) false,.b (a==3) false,.b (a==4) false,.b (a==1) false,.b (a==5) false,.b (a==6) false,.b (a==7) false,.b (a==8) true,.b (b != 0) false,.b (c != 0) false,.b (decide ((A.length:Int)>2)) false,.b (a==8) true,.b (decide ((A.length:Int)>0)) false,.b ((A.length:Int)==2) false,.l [] [93,92,91] [] (qab Tryz.f72 0) (qag A 0) .ret (qat q)]):
 Rt 72 [.agg (nd a b c A)] [cB q]:=
 h.of
theorem qtk(h:Oo [.b (a==2) false,.b (a==3) false,.b (a==4) false,.b (a==1) false,.b (a==5) false,.b (a==6) false,.b (a==7) false,.b (a==8) true,.b (b != 0) false,.b (c != 0) false,.b (decide ((A.length:Int)>2)) false,.b (a==8) true,.b (decide ((A.length:Int)>0)) false,.b ((A.length:Int)==2) false,.l [] [93,92,91] [] (qab Tryz.f72 0) (qag A 0) (.exit 1) qaw]):
 Rt 72 [.agg (nd a b c A)] [cB true]:=
 h.of
theorem qtl(h:Oo [.b (a==2) false,.b (a==3) false,.b (a==4) false,.b (a==1) false,.b (a==5) false,.b (a==6) false,.b (a==7) false,.b (a==8) false]):
 Rt 72 [.agg (nd a b c A)] [cB false]:=
 h.of
end Go.Proofs.YtenekpkjlgddnaaGreat
