import Derived.Test.YtenekpkjlgddnaaGreatRows
import Derived.Test.YtenekpkjlgddnaaGreatGE
set_option linter.unusedVariables false
set_option linter.unusedSimpArgs false
namespace Go.Proofs.YtenekpkjlgddnaaGreat
open Go.Sx Go.RowKit
variable {a b c d e f g i j k l : Int} {A C E F : LL} {q r s t : Bool}
theorem qpR(h:Oo [.r 30 [cI (A.length:Int),cI 1,cI 8] [cB q],.n q true]):
 Rt 12 [.agg (gr A a b)] [cB false]:=
 h.of
theorem qpS(h:Oo [.r 30 [cI (A.length:Int),cI 1,cI 8] [cB q],.n q false,.r 30 [cI a,cI 1,cI 4] [cB r],.n r true]):
 Rt 12 [.agg (gr A a b)] [cB false]:=
 h.of
theorem qpT(h:Oo [.r 30 [cI (A.length:Int),cI 1,cI 8] [cB q],.n q false,.r 30 [cI a,cI 1,cI 4] [cB r],.n r false,.r 30 [cI b,cI 1,cI 4] [cB s],.n s true]):
 Rt 12 [.agg (gr A a b)] [cB false]:=
 h.of
def qbK(a:Int)(A:LL)(b c:Int):St:=
 { env:=envOf 97 [(1,vP 1),(3,vI a)],boxes:=[(1,[.sl .free 4 A,lI b,lI c])] }
def qdF(q:Bool):St:=
 { env:=envOf 97 [(2,.al (.one (.sb q)))],boxes:=[] }
theorem qpU(h:Oo [.b (decide (a<(A.length:Int))) true,.p (0≤a),.p (a<(A.length:Int)),.e A a.toNat (nd b c d C),.r 31 [.agg (nd b c d C)] [cB q],.n q true]):
 Tp (qab Tryz.f12 0) (qbK a A e f) .ret (qdF false):=
 h.lp [2] []
theorem qpV(h:Oo [.b (decide (a<(A.length:Int))) true,.p (0≤a),.p (a<(A.length:Int)),.e A a.toNat (nd b c d C),.r 31 [.agg (nd b c d C)] [cB q],.n q false,.b (!(b==1)==(a==0)) true]):
 Tp (qab Tryz.f12 0) (qbK a A e f) .ret (qdF false):=
 h.lp [2] []
def qaF(a:Int)(A:LL)(b c d e f:Int)(C:LL)(g:Int):St:=
 { env:=envOf 97 [(1,vP 1),(3,vI a),(4,vP 4),(5,vI g)],boxes:=[(4,[lI d,lI e,lI f,.sl .free 1 C]),(1,[.sl .free 4 A,lI b,lI c])] }
def qcm(q:Bool):St:=
 { env:=envOf 97 [(2,.al (.one (.sb q)))],boxes:=[] }
theorem qpW(h:Oo [.b (decide (a<(A.length:Int))) true,.p (0≤a),.p (a<(A.length:Int)),.e A a.toNat [I b],.b (decide (b≥(C.length:Int))) true]):
 Tp (qab Tryz.f12 1) (qaF f C g i c d e A a) .ret (qcm false):=
 h.lp [2] []
theorem qpX(h:Oo [.b (decide (a<(A.length:Int))) true,.p (0≤a),.p (a<(A.length:Int)),.e A a.toNat [I b],.b (decide (b≥(C.length:Int))) false,.b (c != 7) true,.b (decide (b≤d)) true]):
 Tp (qab Tryz.f12 1) (qaF d C g i c e f A a) .ret (qcm false):=
 h.lp [2] []
theorem qpY(h:Oo [.b (decide (b<(A.length:Int))) true,.p (0≤b),.p (b<(A.length:Int)),.e A b.toNat [I a],.b (decide (a≥(C.length:Int))) false,.b (c != 7) true,.b (decide (a≤d)) false,.p (0≤a),.p (a<(C.length:Int)),.e C a.toNat (nd g i j E),.b (c==7) true,.b (decide (a>d)) true]):
 Tp (qab Tryz.f12 1) (qaF d C k l c e f A b) .ret (qcm false):=
 h.lp [2] []
theorem qpZ(h:Oo [.b (decide (b<(A.length:Int))) true,.p (0≤b),.p (b<(A.length:Int)),.e A b.toNat [I a],.b (decide (a≥(C.length:Int))) false,.b (c != 7) true,.b (decide (a≤e)) false,.p (0≤a),.p (a<(C.length:Int)),.e C a.toNat (nd d i j E),.b (c==7) true,.b (decide (a>e)) false,.b (d != 5) true,.b (d != 6) true]):
 Tp (qab Tryz.f12 1) (qaF e C k l c f g A b) .ret (qcm false):=
 h.lp [2] []
theorem qp0(h:Oo [.b (decide (a<(A.length:Int))) true,.p (0≤a),.p (a<(A.length:Int)),.e A a.toNat [I b],.b (decide (b≥(C.length:Int))) false,.b (c != 7) true,.b (decide (b≤d)) false,.p (0≤b),.p (b<(C.length:Int)),.e C b.toNat (nd e k l E),.b (c==7) true,.b (decide (b>d)) false,.b (e != 5) true,.b (e != 6) false,.u a]):
 Tp (qab Tryz.f12 1) (qaF d C i j c f g A a) .normal (qaF d C i j c f g A (a+1)):=
 h.lp [5,4,1,3] [4,1]
theorem qp1(h:Oo [.b (decide (a<(A.length:Int))) true,.p (0≤a),.p (a<(A.length:Int)),.e A a.toNat [I b],.b (decide (b≥(C.length:Int))) false,.b (c != 7) true,.b (decide (b≤d)) false,.p (0≤b),.p (b<(C.length:Int)),.e C b.toNat (nd g k l E),.b (c==7) true,.b (decide (b>d)) false,.b (g != 5) false,.u a]):
 Tp (qab Tryz.f12 1) (qaF d C i j c e f A a) .normal (qaF d C i j c e f A (a+1)):=
 h.lp [5,4,1,3] [4,1]
theorem qp2(h:Oo [.b (decide (a<(A.length:Int))) true,.p (0≤a),.p (a<(A.length:Int)),.e A a.toNat [I b],.b (decide (b≥(C.length:Int))) false,.b (c != 7) true,.b (decide (b≤d)) false,.p (0≤b),.p (b<(C.length:Int)),.e C b.toNat (nd j k l E),.b (c==7) false,.u a]):
 Tp (qab Tryz.f12 1) (qaF d C g i c e f A a) .normal (qaF d C g i c e f A (a+1)):=
 h.lp [5,4,1,3] [4,1]
theorem qp3(h:Oo [.b (decide (b<(A.length:Int))) true,.p (0≤b),.p (b<(A.length:Int)),.e A b.toNat [I a],.b (decide (a≥(C.length:Int))) false,.b (c != 7) false,.p (0≤a),.p (a<(C.length:Int)),.e C a.toNat (nd g i j E),.b (c==7) true,.b (decide (a>d)) true]):
 Tp (qab Tryz.f12 1) (qaF d C k l c e f A b) .ret (qcm false):=
 h.lp [2] []
theorem qp4(h:Oo [.b (decide (b<(A.length:Int))) true,.p (0≤b),.p (b<(A.length:Int)),.e A b.toNat [I a],.b (decide (a≥(C.length:Int))) false,.b (c != 7) false,.p (0≤a),.p (a<(C.length:Int)),.e C a.toNat (nd d i j E),.b (c==7) true,.b (decide (a>e)) false,.b (d != 5) true,.b (d != 6) true]):
 Tp (qab Tryz.f12 1) (qaF e C k l c f g A b) .ret (qcm false):=
 h.lp [2] []
theorem qp5(h:Oo [.b (decide (a<(A.length:Int))) true,.p (0≤a),.p (a<(A.length:Int)),.e A a.toNat [I b],.b (decide (b≥(C.length:Int))) false,.b (c != 7) false,.p (0≤b),.p (b<(C.length:Int)),.e C b.toNat (nd d k l E),.b (c==7) true,.b (decide (b>e)) false,.b (d != 5) true,.b (d != 6) false,.u a]):
 Tp (qab Tryz.f12 1) (qaF e C i j c f g A a) .normal (qaF e C i j c f g A (a+1)):=
 h.lp [5,4,1,3] [4,1]
theorem qp6(h:Oo [.b (decide (a<(A.length:Int))) true,.p (0≤a),.p (a<(A.length:Int)),.e A a.toNat [I b],.b (decide (b≥(C.length:Int))) false,.b (c != 7) false,.p (0≤b),.p (b<(C.length:Int)),.e C b.toNat (nd g k l E),.b (c==7) true,.b (decide (b>d)) false,.b (g != 5) false,.u a]):
 Tp (qab Tryz.f12 1) (qaF d C i j c e f A a) .normal (qaF d C i j c e f A (a+1)):=
 h.lp [5,4,1,3] [4,1]
theorem qp7(h:Oo [.b (decide (a<(A.length:Int))) true,.p (0≤a),.p (a<(A.length:Int)),.e A a.toNat [I b],.b (decide (b≥(C.length:Int))) false,.b (c != 7) false,.p (0≤b),.p (b<(C.length:Int)),.e C b.toNat (nd j k l E),.b (c==7) false,.u a]):
 Tp (qab Tryz.f12 1) (qaF f C g i c d e A a) .normal (qaF f C g i c d e A (a+1)):=
 h.lp [5,4,1,3] [4,1]
def qhW(a:Int)(A:LL)(b c:Int):St:=
 { env:=envOf 97 [(1,vP 1),(3,vI a)],boxes:=[(1,[.sl .free 4 A,lI b,lI c])] }
theorem qp8(h:Oo [.b (decide (a<(A.length:Int))) false]):
 Tp (qab Tryz.f12 1) (qaF b C c d e f g A a) (.exit 2) (qhW b C c d):=
 h.lp [3,1] [1]
theorem qp9(h:Oo [.b (decide (a<(A.length:Int))) true,.p (0≤a),.p (a<(A.length:Int)),.e A a.toNat (nd b c d C),.r 31 [.agg (nd b c d C)] [cB q],.n q false,.b (!(b==1)==(a==0)) false,.l [] [5,4,1,3] [4,1] (qab Tryz.f12 1) (qaF a A e f b c d C 0) .ret (qcm r)]):
 Tp (qab Tryz.f12 0) (qbK a A e f) .ret (qdF r):=
 h.lp [2] []
theorem qqa(h:Oo [.b (decide (a<(A.length:Int))) true,.p (0≤a),.p (a<(A.length:Int)),.e A a.toNat (nd b e f C),.r 31 [.agg (nd b e f C)] [cB q],.n q false,.b (!(b==1)==(a==0)) false,.l [] [5,4,1,3] [4,1] (qab Tryz.f12 1) (qaF a A c d b e f C 0) (.exit 2) (qhW a A c d),.u a]):
 Tp (qab Tryz.f12 0) (qbK a A c d) .normal (qbK (a+1) A c d):=
 h.lp [3,1] [1]
def qhX:St:=
 { env:=envOf 97 [],boxes:=[] }
theorem qqb(h:Oo [.b (decide (a<(A.length:Int))) false]):
 Tp (qab Tryz.f12 0) (qbK a A b c) (.exit 0) qhX:=
 h.lp [] []
theorem qqc(h:Oo [.r 30 [cI (A.length:Int),cI 1,cI 8] [cB q],.n q false,.r 30 [cI a,cI 1,cI 4] [cB r],.n r false,.r 30 [cI b,cI 1,cI 4] [cB s],.n s false,.l [] [3,1] [1] (qab Tryz.f12 0) (qbK 0 A a b) .ret (qdF t)]):
 Rt 12 [.agg (gr A a b)] [cB t]:=
 h.of
theorem qqd(h:Oo [.r 30 [cI (A.length:Int),cI 1,cI 8] [cB q],.n q false,.r 30 [cI a,cI 1,cI 4] [cB r],.n r false,.r 30 [cI b,cI 1,cI 4] [cB s],.n s false,.l [] [3,1] [1] (qab Tryz.f12 0) (qbK 0 A a b) (.exit 0) qhX]):
 Rt 12 [.agg (gr A a b)] [cB true]:=
 h.of
theorem qqe(h:Oo [.r 48 [cI (A.length:Int),cI 1,cI 8] [cB q],.n q true]):
 Rt 59 [.agg (gr A a b)] [cB false]:=
 h.of
theorem qqf(h:Oo [.r 48 [cI (A.length:Int),cI 1,cI 8] [cB q],.n q false,.r 48 [cI a,cI 1,cI 4] [cB r],.n r true]):
 Rt 59 [.agg (gr A a b)] [cB false]:=
 h.of
theorem qqg(h:Oo [.r 48 [cI (A.length:Int),cI 1,cI 8] [cB q],.n q false,.r 48 [cI a,cI 1,cI 4] [cB r],.n r false,.r 48 [cI b,cI 1,cI 4] [cB s],.n s true]):
 Rt 59 [.agg (gr A a b)] [cB false]:=
 h.of
def qbL(A:LL)(a:Int)(C:LL)(b c:Int):St:=
 { env:=envOf 90 [(1,vP 1),(26,vF 4 A),(27,vI (A.length:Int)),(28,vI a)],boxes:=[(1,[.sl .free 4 C,lI b,lI c])] }
def qdG(q:Bool):St:=
 { env:=envOf 90 [(2,.al (.one (.sb q)))],boxes:=[] }
theorem qqh(h:Oo [.b (decide (a<(A.length:Int))) true,.p (0≤a),.p (a<(A.length:Int)),.e A a.toNat (nd b c d C),.r 72 [.agg (nd b c d C)] [cB q],.n q true]):
 Tp (qab Tryz.f59 0) (qbL A a E e f) .ret (qdG false):=
 h.lp [2] []
theorem qqi(h:Oo [.b (decide (a<(A.length:Int))) true,.p (0≤a),.p (a<(A.length:Int)),.e A a.toNat (nd b c d C),.r 72 [.agg (nd b c d C)] [cB q],.n q false,.b (!(b==1)==(a==0)) true]):
 Tp (qab Tryz.f59 0) (qbL A a E e f) .ret (qdG false):=
 h.lp [2] []
def qaG(C:LL)(a:Int)(E:LL)(b c d e f:Int)(A:LL)(g:Int):St:=
 { env:=envOf 90 [(1,vP 1),(3,vI a),(4,vP 4),(26,vF 4 C),(27,vI (C.length:Int)),(28,vI a),(45,vF 1 A),(46,vI (A.length:Int)),(47,vI g)],boxes:=[(4,[lI d,lI e,lI f,.sl .free 1 A]),(1,[.sl .free 4 E,lI b,lI c])] }
def qcn(q:Bool):St:=
 { env:=envOf 90 [(2,.al (.one (.sb q)))],boxes:=[] }
theorem qqj(h:Oo [.b (decide (a<(A.length:Int))) true,.p (0≤a),.p (a<(A.length:Int)),.e A a.toNat [I b],.b (decide (b≥(C.length:Int))) true]):
 Tp (qab Tryz.f59 1) (qaG E f C g i c d e A a) .ret (qcn false):=
 h.lp [2] []
theorem qqk(h:Oo [.b (decide (b<(A.length:Int))) true,.p (0≤b),.p (b<(A.length:Int)),.e A b.toNat [I a],.b (decide (a≥(C.length:Int))) false,.p (0≤a),.p (a<(C.length:Int)),.e C a.toNat (nd g i j F),.b (c==7) true,.b (decide (a>d)) true]):
 Tp (qab Tryz.f59 1) (qaG E d C k l c e f A b) .ret (qcn false):=
 h.lp [2] []
theorem qql(h:Oo [.b (decide (b<(A.length:Int))) true,.p (0≤b),.p (b<(A.length:Int)),.e A b.toNat [I a],.b (decide (a≥(C.length:Int))) false,.p (0≤a),.p (a<(C.length:Int)),.e C a.toNat (nd c i j F),.b (d==7) true,.b (decide (a>e)) false,.b (c != 5) true,.b (c != 6) true]):
 Tp (qab Tryz.f59 1) (qaG E e C k l d f g A b) .ret (qcn false):=
 h.lp [2] []
theorem qqm(h:Oo [.b (decide (b<(A.length:Int))) true,.p (0≤b),.p (b<(A.length:Int)),.e A b.toNat [I a],.b (decide (a≥(C.length:Int))) false,.p (0≤a),.p (a<(C.length:Int)),.e C a.toNat (nd d i j F),.b (c==7) true,.b (decide (a>e)) false,.b (d != 5) true,.b (d != 6) false,.b (c != 7) true,.b (decide (a≤e)) true]):
 Tp (qab Tryz.f59 1) (qaG E e C k l c f g A b) .ret (qcn false):=
 h.lp [2] []
theorem qqn(h:Oo [.b (decide (a<(A.length:Int))) true,.p (0≤a),.p (a<(A.length:Int)),.e A a.toNat [I b],.b (decide (b≥(C.length:Int))) false,.p (0≤b),.p (b<(C.length:Int)),.e C b.toNat (nd e k l F),.b (c==7) true,.b (decide (b>d)) false,.b (e != 5) true,.b (e != 6) false,.b (c != 7) true,.b (decide (b≤d)) false,.u a]):
 Tp (qab Tryz.f59 1) (qaG E d C i j c f g A a) .normal (qaG E d C i j c f g A (a+1)):=
 h.lp [47,46,45,1,4,3,28,27,26] [4,1]
theorem qqo(h:Oo [.b (decide (a<(A.length:Int))) true,.p (0≤a),.p (a<(A.length:Int)),.e A a.toNat [I b],.b (decide (b≥(C.length:Int))) false,.p (0≤b),.p (b<(C.length:Int)),.e C b.toNat (nd d k l F),.b (c==7) true,.b (decide (b>e)) false,.b (d != 5) true,.b (d != 6) false,.b (c != 7) false,.u a]):
 Tp (qab Tryz.f59 1) (qaG E e C i j c f g A a) .normal (qaG E e C i j c f g A (a+1)):=
 h.lp [47,46,45,1,4,3,28,27,26] [4,1]
theorem qqp(h:Oo [.b (decide (b<(A.length:Int))) true,.p (0≤b),.p (b<(A.length:Int)),.e A b.toNat [I a],.b (decide (a≥(C.length:Int))) false,.p (0≤a),.p (a<(C.length:Int)),.e C a.toNat (nd e i j F),.b (c==7) true,.b (decide (a>d)) false,.b (e != 5) false,.b (c != 7) true,.b (decide (a≤d)) true]):
 Tp (qab Tryz.f59 1) (qaG E d C k l c f g A b) .ret (qcn false):=
 h.lp [2] []
theorem qqq(h:Oo [.b (decide (a<(A.length:Int))) true,.p (0≤a),.p (a<(A.length:Int)),.e A a.toNat [I b],.b (decide (b≥(C.length:Int))) false,.p (0≤b),.p (b<(C.length:Int)),.e C b.toNat (nd g k l F),.b (c==7) true,.b (decide (b>d)) false,.b (g != 5) false,.b (c != 7) true,.b (decide (b≤d)) false,.u a]):
 Tp (qab Tryz.f59 1) (qaG E d C i j c e f A a) .normal (qaG E d C i j c e f A (a+1)):=
 h.lp [47,46,45,1,4,3,28,27,26] [4,1]
theorem qqr(h:Oo [.b (decide (a<(A.length:Int))) true,.p (0≤a),.p (a<(A.length:Int)),.e A a.toNat [I b],.b (decide (b≥(C.length:Int))) false,.p (0≤b),.p (b<(C.length:Int)),.e C b.toNat (nd g k l F),.b (c==7) true,.b (decide (b>d)) false,.b (g != 5) false,.b (c != 7) false,.u a]):
 Tp (qab Tryz.f59 1) (qaG E d C i j c e f A a) .normal (qaG E d C i j c e f A (a+1)):=
 h.lp [47,46,45,1,4,3,28,27,26] [4,1]
theorem qqs(h:Oo [.b (decide (b<(A.length:Int))) true,.p (0≤b),.p (b<(A.length:Int)),.e A b.toNat [I a],.b (decide (a≥(C.length:Int))) false,.p (0≤a),.p (a<(C.length:Int)),.e C a.toNat (nd g i j F),.b (c==7) false,.b (c != 7) true,.b (decide (a≤d)) true]):
 Tp (qab Tryz.f59 1) (qaG E d C k l c e f A b) .ret (qcn false):=
 h.lp [2] []
theorem qqt(h:Oo [.b (decide (a<(A.length:Int))) true,.p (0≤a),.p (a<(A.length:Int)),.e A a.toNat [I b],.b (decide (b≥(C.length:Int))) false,.p (0≤b),.p (b<(C.length:Int)),.e C b.toNat (nd j k l F),.b (c==7) false,.b (c != 7) true,.b (decide (b≤d)) false,.u a]):
 Tp (qab Tryz.f59 1) (qaG E d C g i c e f A a) .normal (qaG E d C g i c e f A (a+1)):=
 h.lp [47,46,45,1,4,3,28,27,26] [4,1]
theorem qqu(h:Oo [.b (decide (a<(A.length:Int))) true,.p (0≤a),.p (a<(A.length:Int)),.e A a.toNat [I b],.b (decide (b≥(C.length:Int))) false,.p (0≤b),.p (b<(C.length:Int)),.e C b.toNat (nd j k l F),.b (c==7) false,.b (c != 7) false,.u a]):
 Tp (qab Tryz.f59 1) (qaG E f C g i c d e A a) .normal (qaG E f C g i c d e A (a+1)):=
 h.lp [47,46,45,1,4,3,28,27,26] [4,1]
def qhY(A:LL)(a:Int)(C:LL)(b c:Int):St:=
 { env:=envOf 90 [(1,vP 1),(26,vF 4 A),(27,vI (A.length:Int)),(28,vI a)],boxes:=[(1,[.sl .free 4 C,lI b,lI c])] }
theorem qqv(h:Oo [.b (decide (a<(C.length:Int))) false]):
 Tp (qab Tryz.f59 1) (qaG A b E c d e f g C a) (.exit 2) (qhY A b E c d):=
 h.lp [28,27,26,1] [1]
theorem qqw(h:Oo [.b (decide (a<(A.length:Int))) true,.p (0≤a),.p (a<(A.length:Int)),.e A a.toNat (nd b c d C),.r 72 [.agg (nd b c d C)] [cB q],.n q false,.b (!(b==1)==(a==0)) false,.l [] [47,46,45,1,4,3,28,27,26] [4,1] (qab Tryz.f59 1) (qaG A a E e f b c d C 0) .ret (qcn r)]):
 Tp (qab Tryz.f59 0) (qbL A a E e f) .ret (qdG r):=
 h.lp [2] []
theorem qqx(h:Oo [.b (decide (a<(A.length:Int))) true,.p (0≤a),.p (a<(A.length:Int)),.e A a.toNat (nd b e f E),.r 72 [.agg (nd b e f E)] [cB q],.n q false,.b (!(b==1)==(a==0)) false,.l [] [47,46,45,1,4,3,28,27,26] [4,1] (qab Tryz.f59 1) (qaG A a C c d b e f E 0) (.exit 2) (qhY A a C c d),.u a]):
 Tp (qab Tryz.f59 0) (qbL A a C c d) .normal (qbL A (a+1) C c d):=
 h.lp [28,27,26,1] [1]
def qhZ:St:=
 { env:=envOf 90 [],boxes:=[] }
theorem qqy(h:Oo [.b (decide (a<(A.length:Int))) false]):
 Tp (qab Tryz.f59 0) (qbL A a C b c) (.exit 0) qhZ:=
 h.lp [] []
theorem qqz(h:Oo [.r 48 [cI (A.length:Int),cI 1,cI 8] [cB q],.n q false,.r 48 [cI a,cI 1,cI 4] [cB r],.n r false,.r 48 [cI b,cI 1,cI 4] [cB s],.n s false,.l [] [28,27,26,1] [1] (qab Tryz.f59 0) (qbL A 0 A a b) .ret (qdG t)]):
 Rt 59 [.agg (gr A a b)] [cB t]:=
 h.of
theorem qqA(h:Oo [.r 48 [cI (A.length:Int),cI 1,cI 8] [cB q],.n q false,.r 48 [cI a,cI 1,cI 4] [cB r],.n r false,.r 48 [cI b,cI 1,cI 4] [cB s],.n s false,.l [] [28,27,26,1] [1] (qab Tryz.f59 0) (qbL A 0 A a b) (.exit 0) qhZ]):
 Rt 59 [.agg (gr A a b)] [cB true]:=
 h.of
theorem qqB(h:Oo [.r 30 [cI a,cI 0,cI 7] [cB q],.b q true,.r 32 [.agg [I b,I c]] [cB r],.b r true,.r 30 [cI d,cI 0,cI 99] [cB s],.b s true,.r 30 [cI e,cI 0,cI 999] [cB t]]):
 Rt 13 [.agg (ri a b c d e)] [cB t]:=
 h.of
theorem qqC(h:Oo [.r 30 [cI a,cI 0,cI 7] [cB q],.b q true,.r 32 [.agg [I b,I c]] [cB r],.b r true,.r 30 [cI d,cI 0,cI 99] [cB s],.b s false]):
 Rt 13 [.agg (ri a b c d e)] [cB false]:=
 h.of
theorem qqD(h:Oo [.r 30 [cI a,cI 0,cI 7] [cB q],.b q true,.r 32 [.agg [I b,I c]] [cB r],.b r false]):
 Rt 13 [.agg (ri a b c d e)] [cB false]:=
 h.of
theorem qqE(h:Oo [.r 30 [cI a,cI 0,cI 7] [cB q],.b q false]):
 Rt 13 [.agg (ri a b c d e)] [cB false]:=
 h.of
theorem qqF(h:Oo [.r 48 [cI a,cI 0,cI 7] [cB q],.b q true,.r 79 [.agg [I b,I c]] [cB r],.b r true,.r 80 [cI d,cI e] [cB s]]):
 Rt 64 [.agg (ri a b c d e)] [cB s]:=
 h.of
theorem qqG(h:Oo [.r 48 [cI a,cI 0,cI 7] [cB q],.b q true,.r 79 [.agg [I b,I c]] [cB r],.b r false]):
 Rt 64 [.agg (ri a b c d e)] [cB false]:=
 h.of
theorem qqH(h:Oo [.r 48 [cI a,cI 0,cI 7] [cB q],.b q false]):
 Rt 64 [.agg (ri a b c d e)] [cB false]:=
 h.of
theorem qqI(h:Oo [.r 30 [cI a,cI 0,cI 3] [cB q],.b q true,.r 30 [cI b,cI 0,cI 6] [cB r]]):
 Rt 32 [.agg [I a,I b]] [cB r]:=
 h.of
theorem qqJ(h:Oo [.r 30 [cI a,cI 0,cI 3] [cB q],.b q false]):
 Rt 32 [.agg [I a,I b]] [cB false]:=
 h.of
theorem qqK(h:Oo [.r 48 [cI a,cI 0,cI 3] [cB q],.b q true,.r 48 [cI b,cI 0,cI 6] [cB r]]):
 Rt 79 [.agg [I a,I b]] [cB r]:=
 h.of
theorem qqL(h:Oo [.r 48 [cI a,cI 0,cI 3] [cB q],.b q false]):
 Rt 79 [.agg [I a,I b]] [cB false]:=
 h.of
theorem qqM(h:Oo [.r 79 [.agg [I a,I b]] [cB q],.n q true]):
 Rt 77 [.agg [I a,I b]] [.agg [I a,I b],cB false]:=
 h.of
theorem qqN(h:Oo [.r 79 [.agg [I b,I a]] [cB q],.n q false,.b (a==6) true]):
 Rt 77 [.agg [I b,I a]] [.agg [I b,I a],cB false]:=
 h.of
theorem qqO(h:Oo [.r 79 [.agg [I b,I a]] [cB q],.n q false,.b (a==6) false,.u a]):
 Rt 77 [.agg [I b,I a]] [.agg [I b,I (a+1)],cB true]:=
 h.of
theorem qqP(h:Oo [.r 72 [.agg (nd a b c A)] [cB q],.n q true]):
 Rt 75 [.agg (nd a b c A),cI d,cI e] [cI d,cI e,cB false]:=
 h.of
theorem qqQ(h:Oo [.r 72 [.agg (nd c d e A)] [cB q],.n q false,.r 80 [cI a,cI b] [cB r],.n r true]):
 Rt 75 [.agg (nd c d e A),cI a,cI b] [cI a,cI b,cB false]:=
 h.of
theorem qqR(h:Oo [.r 72 [.agg (nd c a e A)] [cB q],.n q false,.r 80 [cI d,cI b] [cB r],.n r false,.b (c==2) true,.v (b+a)]):
 Rt 75 [.agg (nd c a e A),cI d,cI b] [cI d,cI (if b+a<999 then b+a else 999),cB true]:=
 h.of
theorem qqS(h:Oo [.r 72 [.agg (nd a b e A)] [cB q],.n q false,.r 80 [cI c,cI d] [cB r],.n r false,.b (a==2) false,.b (a==4) true,.v (c+b),.p ((100:Int)≠0)]):
 Rt 75 [.agg (nd a b e A),cI c,cI d] [cI ((c+b).tmod 100),cI d,cB true]:=
 h.of
theorem qqT(h:Oo [.r 72 [.agg (nd a b d A)] [cB q],.n q false,.r 80 [cI c,cI e] [cB r],.n r false,.b (a==2) false,.b (a==4) false,.b (a==3) true,.p (b≠0)]):
 Rt 75 [.agg (nd a b d A),cI c,cI e] [cI c,cI e,cB (c.tmod b==d)]:=
 h.of
theorem qqU(h:Oo [.r 72 [.agg (nd a d e A)] [cB q],.n q false,.r 80 [cI b,cI c] [cB r],.n r false,.b (a==2) false,.b (a==4) false,.b (a==3) false]):
 Rt 75 [.agg (nd a d e A),cI b,cI c] [cI b,cI c,cB (a != 8)]:=
 h.of
theorem qqV(h:Oo [.r 48 [cI a,cI 0,cI 99] [cB q],.b q true,.r 48 [cI b,cI 0,cI 999] [cB r]]):
 Rt 80 [cI a,cI b] [cB r]:=
 h.of
theorem qqW(h:Oo [.r 48 [cI a,cI 0,cI 99] [cB q],.b q false]):
 Rt 80 [cI a,cI b] [cB false]:=
 h.of
end Go.Proofs.YtenekpkjlgddnaaGreat
