import Derived.Test.YtdanpadojemjeaaGreatRows
import Derived.Test.YtdanpadojemjeaaGreatGE
namespace Go.Proofs.YtdanpadojemjeaaGreat
open Go.Sx Go.RowKit
variable {a b c d e f g i j k l : Int} {A C E F : LL} {q r s t : Bool}
theorem qC0(h:Oo [.r 137 [cI (A.length:Int),cI 1,cI 8] [cB q],.n q true]):
 Rt 163 [.agg (gr A a b)] [cB false]:=
 h.of
theorem qC1(h:Oo [.r 137 [cI (A.length:Int),cI 1,cI 8] [cB q],.n q false,.r 137 [cI a,cI 1,cI 4] [cB r],.n r true]):
 Rt 163 [.agg (gr A a b)] [cB false]:=
 h.of
theorem qC2(h:Oo [.r 137 [cI (A.length:Int),cI 1,cI 8] [cB q],.n q false,.r 137 [cI a,cI 1,cI 4] [cB r],.n r false,.r 137 [cI b,cI 1,cI 4] [cB s],.n s true]):
 Rt 163 [.agg (gr A a b)] [cB false]:=
 h.of
def qco(a:Int)(A:LL)(b c:Int):St:=
 { env:=envOf 97 [(1,vP 1),(3,vI a)],boxes:=[(1,[.sl .free 4 A,lI b,lI c])] }
def qeR(q:Bool):St:=
 { env:=envOf 97 [(2,.al (.one (.sb q)))],boxes:=[] }
theorem qC3(h:Oo [.b (decide (a<(A.length:Int))) true,.p (0≤a),.p (a<(A.length:Int)),.e A a.toNat (nd b c d C),.r 220 [.agg (nd b c d C)] [cB q],.n q true]):
 Tp (qaa Tryz.f163 0) (qco a A e f) .ret (qeR false):=
 h.lp [2] []
theorem qC4(h:Oo [.b (decide (a<(A.length:Int))) true,.p (0≤a),.p (a<(A.length:Int)),.e A a.toNat (nd b c d C),.r 220 [.agg (nd b c d C)] [cB q],.n q false,.b (!(b==1)==(a==0)) true]):
 Tp (qaa Tryz.f163 0) (qco a A e f) .ret (qeR false):=
 h.lp [2] []
def qba(a:Int)(A:LL)(b c d e f:Int)(C:LL)(g:Int):St:=
 { env:=envOf 97 [(1,vP 1),(3,vI a),(4,vP 4),(5,vI g)],boxes:=[(4,[lI d,lI e,lI f,.sl .free 1 C]),(1,[.sl .free 4 A,lI b,lI c])] }
def qda(q:Bool):St:=
 { env:=envOf 97 [(2,.al (.one (.sb q)))],boxes:=[] }
theorem qC5(h:Oo [.b (decide (a<(A.length:Int))) true,.p (0≤a),.p (a<(A.length:Int)),.e A a.toNat [I b],.b (decide (b≥(C.length:Int))) true]):
 Tp (qaa Tryz.f163 1) (qba f C g i c d e A a) .ret (qda false):=
 h.lp [2] []
theorem qC6(h:Oo [.b (decide (a<(A.length:Int))) true,.p (0≤a),.p (a<(A.length:Int)),.e A a.toNat [I b],.b (decide (b≥(C.length:Int))) false,.b (c != 7) true,.b (decide (b≤d)) true]):
 Tp (qaa Tryz.f163 1) (qba d C g i c e f A a) .ret (qda false):=
 h.lp [2] []
theorem qC7(h:Oo [.b (decide (b<(A.length:Int))) true,.p (0≤b),.p (b<(A.length:Int)),.e A b.toNat [I a],.b (decide (a≥(C.length:Int))) false,.b (c != 7) true,.b (decide (a≤d)) false,.p (0≤a),.p (a<(C.length:Int)),.e C a.toNat (nd g i j E),.b (c==7) true,.b (decide (a>d)) true]):
 Tp (qaa Tryz.f163 1) (qba d C k l c e f A b) .ret (qda false):=
 h.lp [2] []
theorem qC8(h:Oo [.b (decide (b<(A.length:Int))) true,.p (0≤b),.p (b<(A.length:Int)),.e A b.toNat [I a],.b (decide (a≥(C.length:Int))) false,.b (c != 7) true,.b (decide (a≤e)) false,.p (0≤a),.p (a<(C.length:Int)),.e C a.toNat (nd d i j E),.b (c==7) true,.b (decide (a>e)) false,.b (d != 5) true,.b (d != 6) true]):
 Tp (qaa Tryz.f163 1) (qba e C k l c f g A b) .ret (qda false):=
 h.lp [2] []
theorem qC9(h:Oo [.b (decide (a<(A.length:Int))) true,.p (0≤a),.p (a<(A.length:Int)),.e A a.toNat [I b],.b (decide (b≥(C.length:Int))) false,.b (c != 7) true,.b (decide (b≤d)) false,.p (0≤b),.p (b<(C.length:Int)),.e C b.toNat (nd e k l E),.b (c==7) true,.b (decide (b>d)) false,.b (e != 5) true,.b (e != 6) false,.u a]):
 Tp (qaa Tryz.f163 1) (qba d C i j c f g A a) .normal (qba d C i j c f g A (a+1)):=
 h.lp [5,4,1,3] [4,1]
theorem qDa(h:Oo [.b (decide (a<(A.length:Int))) true,.p (0≤a),.p (a<(A.length:Int)),.e A a.toNat [I b],.b (decide (b≥(C.length:Int))) false,.b (c != 7) true,.b (decide (b≤d)) false,.p (0≤b),.p (b<(C.length:Int)),.e C b.toNat (nd g k l E),.b (c==7) true,.b (decide (b>d)) false,.b (g != 5) false,.u a]):
 Tp (qaa Tryz.f163 1) (qba d C i j c e f A a) .normal (qba d C i j c e f A (a+1)):=
 h.lp [5,4,1,3] [4,1]
theorem qDb(h:Oo [.b (decide (a<(A.length:Int))) true,.p (0≤a),.p (a<(A.length:Int)),.e A a.toNat [I b],.b (decide (b≥(C.length:Int))) false,.b (c != 7) true,.b (decide (b≤d)) false,.p (0≤b),.p (b<(C.length:Int)),.e C b.toNat (nd j k l E),.b (c==7) false,.u a]):
 Tp (qaa Tryz.f163 1) (qba d C g i c e f A a) .normal (qba d C g i c e f A (a+1)):=
 h.lp [5,4,1,3] [4,1]
theorem qDc(h:Oo [.b (decide (b<(A.length:Int))) true,.p (0≤b),.p (b<(A.length:Int)),.e A b.toNat [I a],.b (decide (a≥(C.length:Int))) false,.b (c != 7) false,.p (0≤a),.p (a<(C.length:Int)),.e C a.toNat (nd g i j E),.b (c==7) true,.b (decide (a>d)) true]):
 Tp (qaa Tryz.f163 1) (qba d C k l c e f A b) .ret (qda false):=
 h.lp [2] []
theorem qDd(h:Oo [.b (decide (b<(A.length:Int))) true,.p (0≤b),.p (b<(A.length:Int)),.e A b.toNat [I a],.b (decide (a≥(C.length:Int))) false,.b (c != 7) false,.p (0≤a),.p (a<(C.length:Int)),.e C a.toNat (nd d i j E),.b (c==7) true,.b (decide (a>e)) false,.b (d != 5) true,.b (d != 6) true]):
 Tp (qaa Tryz.f163 1) (qba e C k l c f g A b) .ret (qda false):=
 h.lp [2] []
theorem qDe(h:Oo [.b (decide (a<(A.length:Int))) true,.p (0≤a),.p (a<(A.length:Int)),.e A a.toNat [I b],.b (decide (b≥(C.length:Int))) false,.b (c != 7) false,.p (0≤b),.p (b<(C.length:Int)),.e C b.toNat (nd d k l E),.b (c==7) true,.b (decide (b>e)) false,.b (d != 5) true,.b (d != 6) false,.u a]):
 Tp (qaa Tryz.f163 1) (qba e C i j c f g A a) .normal (qba e C i j c f g A (a+1)):=
 h.lp [5,4,1,3] [4,1]
theorem qDf(h:Oo [.b (decide (a<(A.length:Int))) true,.p (0≤a),.p (a<(A.length:Int)),.e A a.toNat [I b],.b (decide (b≥(C.length:Int))) false,.b (c != 7) false,.p (0≤b),.p (b<(C.length:Int)),.e C b.toNat (nd g k l E),.b (c==7) true,.b (decide (b>d)) false,.b (g != 5) false,.u a]):
 Tp (qaa Tryz.f163 1) (qba d C i j c e f A a) .normal (qba d C i j c e f A (a+1)):=
 h.lp [5,4,1,3] [4,1]
theorem qDg(h:Oo [.b (decide (a<(A.length:Int))) true,.p (0≤a),.p (a<(A.length:Int)),.e A a.toNat [I b],.b (decide (b≥(C.length:Int))) false,.b (c != 7) false,.p (0≤b),.p (b<(C.length:Int)),.e C b.toNat (nd j k l E),.b (c==7) false,.u a]):
 Tp (qaa Tryz.f163 1) (qba f C g i c d e A a) .normal (qba f C g i c d e A (a+1)):=
 h.lp [5,4,1,3] [4,1]
def qkC(a:Int)(A:LL)(b c:Int):St:=
 { env:=envOf 97 [(1,vP 1),(3,vI a)],boxes:=[(1,[.sl .free 4 A,lI b,lI c])] }
theorem qDh(h:Oo [.b (decide (a<(A.length:Int))) false]):
 Tp (qaa Tryz.f163 1) (qba b C c d e f g A a) (.exit 2) (qkC b C c d):=
 h.lp [3,1] [1]
theorem qDi(h:Oo [.b (decide (a<(A.length:Int))) true,.p (0≤a),.p (a<(A.length:Int)),.e A a.toNat (nd b c d C),.r 220 [.agg (nd b c d C)] [cB q],.n q false,.b (!(b==1)==(a==0)) false,.l [] [5,4,1,3] [4,1] (qaa Tryz.f163 1) (qba a A e f b c d C 0) .ret (qda r)]):
 Tp (qaa Tryz.f163 0) (qco a A e f) .ret (qeR r):=
 h.lp [2] []
theorem qDj(h:Oo [.b (decide (a<(A.length:Int))) true,.p (0≤a),.p (a<(A.length:Int)),.e A a.toNat (nd b e f C),.r 220 [.agg (nd b e f C)] [cB q],.n q false,.b (!(b==1)==(a==0)) false,.l [] [5,4,1,3] [4,1] (qaa Tryz.f163 1) (qba a A c d b e f C 0) (.exit 2) (qkC a A c d),.u a]):
 Tp (qaa Tryz.f163 0) (qco a A c d) .normal (qco (a+1) A c d):=
 h.lp [3,1] [1]
def qkD:St:=
 { env:=envOf 97 [],boxes:=[] }
theorem qDk(h:Oo [.b (decide (a<(A.length:Int))) false]):
 Tp (qaa Tryz.f163 0) (qco a A b c) (.exit 0) qkD:=
 h.lp [] []
theorem qDl(h:Oo [.r 137 [cI (A.length:Int),cI 1,cI 8] [cB q],.n q false,.r 137 [cI a,cI 1,cI 4] [cB r],.n r false,.r 137 [cI b,cI 1,cI 4] [cB s],.n s false,.l [] [3,1] [1] (qaa Tryz.f163 0) (qco 0 A a b) .ret (qeR t)]):
 Rt 163 [.agg (gr A a b)] [cB t]:=
 h.of
theorem qDm(h:Oo [.r 137 [cI (A.length:Int),cI 1,cI 8] [cB q],.n q false,.r 137 [cI a,cI 1,cI 4] [cB r],.n r false,.r 137 [cI b,cI 1,cI 4] [cB s],.n s false,.l [] [3,1] [1] (qaa Tryz.f163 0) (qco 0 A a b) (.exit 0) qkD]):
 Rt 163 [.agg (gr A a b)] [cB true]:=
 h.of
theorem qDn(h:Oo [.r 81 [cI (A.length:Int),cI 1,cI 8] [cB q],.n q true]):
 Rt 122 [.agg (gr A a b)] [cB false]:=
 h.of
theorem qDo(h:Oo [.r 81 [cI (A.length:Int),cI 1,cI 8] [cB q],.n q false,.r 81 [cI a,cI 1,cI 4] [cB r],.n r true]):
 Rt 122 [.agg (gr A a b)] [cB false]:=
 h.of
theorem qDp(h:Oo [.r 81 [cI (A.length:Int),cI 1,cI 8] [cB q],.n q false,.r 81 [cI a,cI 1,cI 4] [cB r],.n r false,.r 81 [cI b,cI 1,cI 4] [cB s],.n s true]):
 Rt 122 [.agg (gr A a b)] [cB false]:=
 h.of
def qcp(A:LL)(a:Int)(C:LL)(b c:Int):St:=
 { env:=envOf 90 [(1,vP 1),(26,vF 4 A),(27,vI (A.length:Int)),(28,vI a)],boxes:=[(1,[.sl .free 4 C,lI b,lI c])] }
def qeS(q:Bool):St:=
 { env:=envOf 90 [(2,.al (.one (.sb q)))],boxes:=[] }
theorem qDq(h:Oo [.b (decide (a<(A.length:Int))) true,.p (0≤a),.p (a<(A.length:Int)),.e A a.toNat (nd b c d C),.r 197 [.agg (nd b c d C)] [cB q],.n q true]):
 Tp (qaa Tryz.f122 0) (qcp A a E e f) .ret (qeS false):=
 h.lp [2] []
theorem qDr(h:Oo [.b (decide (a<(A.length:Int))) true,.p (0≤a),.p (a<(A.length:Int)),.e A a.toNat (nd b c d C),.r 197 [.agg (nd b c d C)] [cB q],.n q false,.b (!(b==1)==(a==0)) true]):
 Tp (qaa Tryz.f122 0) (qcp A a E e f) .ret (qeS false):=
 h.lp [2] []
def qbb(C:LL)(a:Int)(E:LL)(b c d e f:Int)(A:LL)(g:Int):St:=
 { env:=envOf 90 [(1,vP 1),(3,vI a),(4,vP 4),(26,vF 4 C),(27,vI (C.length:Int)),(28,vI a),(45,vF 1 A),(46,vI (A.length:Int)),(47,vI g)],boxes:=[(4,[lI d,lI e,lI f,.sl .free 1 A]),(1,[.sl .free 4 E,lI b,lI c])] }
def qdb(q:Bool):St:=
 { env:=envOf 90 [(2,.al (.one (.sb q)))],boxes:=[] }
theorem qDs(h:Oo [.b (decide (a<(A.length:Int))) true,.p (0≤a),.p (a<(A.length:Int)),.e A a.toNat [I b],.b (decide (b≥(C.length:Int))) true]):
 Tp (qaa Tryz.f122 1) (qbb E f C g i c d e A a) .ret (qdb false):=
 h.lp [2] []
theorem qDt(h:Oo [.b (decide (b<(A.length:Int))) true,.p (0≤b),.p (b<(A.length:Int)),.e A b.toNat [I a],.b (decide (a≥(C.length:Int))) false,.p (0≤a),.p (a<(C.length:Int)),.e C a.toNat (nd g i j F),.b (c==7) true,.b (decide (a>d)) true]):
 Tp (qaa Tryz.f122 1) (qbb E d C k l c e f A b) .ret (qdb false):=
 h.lp [2] []
theorem qDu(h:Oo [.b (decide (b<(A.length:Int))) true,.p (0≤b),.p (b<(A.length:Int)),.e A b.toNat [I a],.b (decide (a≥(C.length:Int))) false,.p (0≤a),.p (a<(C.length:Int)),.e C a.toNat (nd c i j F),.b (d==7) true,.b (decide (a>e)) false,.b (c != 5) true,.b (c != 6) true]):
 Tp (qaa Tryz.f122 1) (qbb E e C k l d f g A b) .ret (qdb false):=
 h.lp [2] []
theorem qDv(h:Oo [.b (decide (b<(A.length:Int))) true,.p (0≤b),.p (b<(A.length:Int)),.e A b.toNat [I a],.b (decide (a≥(C.length:Int))) false,.p (0≤a),.p (a<(C.length:Int)),.e C a.toNat (nd d i j F),.b (c==7) true,.b (decide (a>e)) false,.b (d != 5) true,.b (d != 6) false,.b (c != 7) true,.b (decide (a≤e)) true]):
 Tp (qaa Tryz.f122 1) (qbb E e C k l c f g A b) .ret (qdb false):=
 h.lp [2] []
theorem qDw(h:Oo [.b (decide (a<(A.length:Int))) true,.p (0≤a),.p (a<(A.length:Int)),.e A a.toNat [I b],.b (decide (b≥(C.length:Int))) false,.p (0≤b),.p (b<(C.length:Int)),.e C b.toNat (nd e k l F),.b (c==7) true,.b (decide (b>d)) false,.b (e != 5) true,.b (e != 6) false,.b (c != 7) true,.b (decide (b≤d)) false,.u a]):
 Tp (qaa Tryz.f122 1) (qbb E d C i j c f g A a) .normal (qbb E d C i j c f g A (a+1)):=
 h.lp [47,46,45,1,4,3,28,27,26] [4,1]
theorem qDx(h:Oo [.b (decide (a<(A.length:Int))) true,.p (0≤a),.p (a<(A.length:Int)),.e A a.toNat [I b],.b (decide (b≥(C.length:Int))) false,.p (0≤b),.p (b<(C.length:Int)),.e C b.toNat (nd d k l F),.b (c==7) true,.b (decide (b>e)) false,.b (d != 5) true,.b (d != 6) false,.b (c != 7) false,.u a]):
 Tp (qaa Tryz.f122 1) (qbb E e C i j c f g A a) .normal (qbb E e C i j c f g A (a+1)):=
 h.lp [47,46,45,1,4,3,28,27,26] [4,1]
theorem qDy(h:Oo [.b (decide (b<(A.length:Int))) true,.p (0≤b),.p (b<(A.length:Int)),.e A b.toNat [I a],.b (decide (a≥(C.length:Int))) false,.p (0≤a),.p (a<(C.length:Int)),.e C a.toNat (nd e i j F),.b (c==7) true,.b (decide (a>d)) false,.b (e != 5) false,.b (c != 7) true,.b (decide (a≤d)) true]):
 Tp (qaa Tryz.f122 1) (qbb E d C k l c f g A b) .ret (qdb false):=
 h.lp [2] []
theorem qDz(h:Oo [.b (decide (a<(A.length:Int))) true,.p (0≤a),.p (a<(A.length:Int)),.e A a.toNat [I b],.b (decide (b≥(C.length:Int))) false,.p (0≤b),.p (b<(C.length:Int)),.e C b.toNat (nd g k l F),.b (c==7) true,.b (decide (b>d)) false,.b (g != 5) false,.b (c != 7) true,.b (decide (b≤d)) false,.u a]):
 Tp (qaa Tryz.f122 1) (qbb E d C i j c e f A a) .normal (qbb E d C i j c e f A (a+1)):=
 h.lp [47,46,45,1,4,3,28,27,26] [4,1]
theorem qDA(h:Oo [.b (decide (a<(A.length:Int))) true,.p (0≤a),.p (a<(A.length:Int)),.e A a.toNat [I b],.b (decide (b≥(C.length:Int))) false,.p (0≤b),.p (b<(C.length:Int)),.e C b.toNat (nd g k l F),.b (c==7) true,.b (decide (b>d)) false,.b (g != 5) false,.b (c != 7) false,.u a]):
 Tp (qaa Tryz.f122 1) (qbb E d C i j c e f A a) .normal (qbb E d C i j c e f A (a+1)):=
 h.lp [47,46,45,1,4,3,28,27,26] [4,1]
theorem qDB(h:Oo [.b (decide (b<(A.length:Int))) true,.p (0≤b),.p (b<(A.length:Int)),.e A b.toNat [I a],.b (decide (a≥(C.length:Int))) false,.p (0≤a),.p (a<(C.length:Int)),.e C a.toNat (nd g i j F),.b (c==7) false,.b (c != 7) true,.b (decide (a≤d)) true]):
 Tp (qaa Tryz.f122 1) (qbb E d C k l c e f A b) .ret (qdb false):=
 h.lp [2] []
theorem qDC(h:Oo [.b (decide (a<(A.length:Int))) true,.p (0≤a),.p (a<(A.length:Int)),.e A a.toNat [I b],.b (decide (b≥(C.length:Int))) false,.p (0≤b),.p (b<(C.length:Int)),.e C b.toNat (nd j k l F),.b (c==7) false,.b (c != 7) true,.b (decide (b≤d)) false,.u a]):
 Tp (qaa Tryz.f122 1) (qbb E d C g i c e f A a) .normal (qbb E d C g i c e f A (a+1)):=
 h.lp [47,46,45,1,4,3,28,27,26] [4,1]
theorem qDD(h:Oo [.b (decide (a<(A.length:Int))) true,.p (0≤a),.p (a<(A.length:Int)),.e A a.toNat [I b],.b (decide (b≥(C.length:Int))) false,.p (0≤b),.p (b<(C.length:Int)),.e C b.toNat (nd j k l F),.b (c==7) false,.b (c != 7) false,.u a]):
 Tp (qaa Tryz.f122 1) (qbb E f C g i c d e A a) .normal (qbb E f C g i c d e A (a+1)):=
 h.lp [47,46,45,1,4,3,28,27,26] [4,1]
def qkE(A:LL)(a:Int)(C:LL)(b c:Int):St:=
 { env:=envOf 90 [(1,vP 1),(26,vF 4 A),(27,vI (A.length:Int)),(28,vI a)],boxes:=[(1,[.sl .free 4 C,lI b,lI c])] }
theorem qDE(h:Oo [.b (decide (a<(C.length:Int))) false]):
 Tp (qaa Tryz.f122 1) (qbb A b E c d e f g C a) (.exit 2) (qkE A b E c d):=
 h.lp [28,27,26,1] [1]
theorem qDF(h:Oo [.b (decide (a<(A.length:Int))) true,.p (0≤a),.p (a<(A.length:Int)),.e A a.toNat (nd b c d C),.r 197 [.agg (nd b c d C)] [cB q],.n q false,.b (!(b==1)==(a==0)) false,.l [] [47,46,45,1,4,3,28,27,26] [4,1] (qaa Tryz.f122 1) (qbb A a E e f b c d C 0) .ret (qdb r)]):
 Tp (qaa Tryz.f122 0) (qcp A a E e f) .ret (qeS r):=
 h.lp [2] []
theorem qDG(h:Oo [.b (decide (a<(A.length:Int))) true,.p (0≤a),.p (a<(A.length:Int)),.e A a.toNat (nd b e f E),.r 197 [.agg (nd b e f E)] [cB q],.n q false,.b (!(b==1)==(a==0)) false,.l [] [47,46,45,1,4,3,28,27,26] [4,1] (qaa Tryz.f122 1) (qbb A a C c d b e f E 0) (.exit 2) (qkE A a C c d),.u a]):
 Tp (qaa Tryz.f122 0) (qcp A a C c d) .normal (qcp A (a+1) C c d):=
 h.lp [28,27,26,1] [1]
def qkF:St:=
 { env:=envOf 90 [],boxes:=[] }
theorem qDH(h:Oo [.b (decide (a<(A.length:Int))) false]):
 Tp (qaa Tryz.f122 0) (qcp A a C b c) (.exit 0) qkF:=
 h.lp [] []
theorem qDI(h:Oo [.r 81 [cI (A.length:Int),cI 1,cI 8] [cB q],.n q false,.r 81 [cI a,cI 1,cI 4] [cB r],.n r false,.r 81 [cI b,cI 1,cI 4] [cB s],.n s false,.l [] [28,27,26,1] [1] (qaa Tryz.f122 0) (qcp A 0 A a b) .ret (qeS t)]):
 Rt 122 [.agg (gr A a b)] [cB t]:=
 h.of
theorem qDJ(h:Oo [.r 81 [cI (A.length:Int),cI 1,cI 8] [cB q],.n q false,.r 81 [cI a,cI 1,cI 4] [cB r],.n r false,.r 81 [cI b,cI 1,cI 4] [cB s],.n s false,.l [] [28,27,26,1] [1] (qaa Tryz.f122 0) (qcp A 0 A a b) (.exit 0) qkF]):
 Rt 122 [.agg (gr A a b)] [cB true]:=
 h.of
theorem qDK(h:Oo [.r 137 [cI a,cI 0,cI 7] [cB q],.b q true,.r 221 [.agg [I b,I c]] [cB r],.b r true,.r 137 [cI d,cI 0,cI 99] [cB s],.b s true,.r 137 [cI e,cI 0,cI 999] [cB t]]):
 Rt 164 [.agg (ri a b c d e)] [cB t]:=
 h.of
theorem qDL(h:Oo [.r 137 [cI a,cI 0,cI 7] [cB q],.b q true,.r 221 [.agg [I b,I c]] [cB r],.b r true,.r 137 [cI d,cI 0,cI 99] [cB s],.b s false]):
 Rt 164 [.agg (ri a b c d e)] [cB false]:=
 h.of
theorem qDM(h:Oo [.r 137 [cI a,cI 0,cI 7] [cB q],.b q true,.r 221 [.agg [I b,I c]] [cB r],.b r false]):
 Rt 164 [.agg (ri a b c d e)] [cB false]:=
 h.of
theorem qDN(h:Oo [.r 137 [cI a,cI 0,cI 7] [cB q],.b q false]):
 Rt 164 [.agg (ri a b c d e)] [cB false]:=
 h.of
theorem qDO(h:Oo [.r 81 [cI a,cI 0,cI 7] [cB q],.b q true,.r 224 [.agg [I b,I c]] [cB r],.b r true,.r 225 [cI d,cI e] [cB s]]):
 Rt 173 [.agg (ri a b c d e)] [cB s]:=
 h.of
theorem qDP(h:Oo [.r 81 [cI a,cI 0,cI 7] [cB q],.b q true,.r 224 [.agg [I b,I c]] [cB r],.b r false]):
 Rt 173 [.agg (ri a b c d e)] [cB false]:=
 h.of
theorem qDQ(h:Oo [.r 81 [cI a,cI 0,cI 7] [cB q],.b q false]):
 Rt 173 [.agg (ri a b c d e)] [cB false]:=
 h.of
theorem qDR(h:Oo [.r 137 [cI a,cI 0,cI 3] [cB q],.b q true,.r 137 [cI b,cI 0,cI 6] [cB r]]):
 Rt 221 [.agg [I a,I b]] [cB r]:=
 h.of
theorem qDS(h:Oo [.r 137 [cI a,cI 0,cI 3] [cB q],.b q false]):
 Rt 221 [.agg [I a,I b]] [cB false]:=
 h.of
theorem qDT(h:Oo [.r 81 [cI a,cI 0,cI 3] [cB q],.b q true,.r 81 [cI b,cI 0,cI 6] [cB r]]):
 Rt 224 [.agg [I a,I b]] [cB r]:=
 h.of
theorem qDU(h:Oo [.r 81 [cI a,cI 0,cI 3] [cB q],.b q false]):
 Rt 224 [.agg [I a,I b]] [cB false]:=
 h.of
theorem qDV(h:Oo [.r 221 [.agg [I a,I b]] [cB q],.n q true]):
 Rt 238 [.agg [I a,I b]] [.agg [I a,I b],cB false]:=
 h.of
theorem qDW(h:Oo [.r 221 [.agg [I b,I a]] [cB q],.n q false,.b (decide (a≥6)) true]):
 Rt 238 [.agg [I b,I a]] [.agg [I b,I a],cB false]:=
 h.of
theorem qDX(h:Oo [.r 221 [.agg [I b,I a]] [cB q],.n q false,.b (decide (a≥6)) false,.u a]):
 Rt 238 [.agg [I b,I a]] [.agg [I b,I (a+1)],cB true]:=
 h.of
theorem qDY(h:Oo [.r 224 [.agg [I a,I b]] [cB q],.n q true]):
 Rt 241 [.agg [I a,I b]] [.agg [I a,I b],cB false]:=
 h.of
theorem qDZ(h:Oo [.r 224 [.agg [I b,I a]] [cB q],.n q false,.b (a==6) true]):
 Rt 241 [.agg [I b,I a]] [.agg [I b,I a],cB false]:=
 h.of
theorem qD0(h:Oo [.r 224 [.agg [I b,I a]] [cB q],.n q false,.b (a==6) false,.u a]):
 Rt 241 [.agg [I b,I a]] [.agg [I b,I (a+1)],cB true]:=
 h.of
theorem qD1(h:Oo [.r 220 [.agg (nd a b c A)] [cB q],.n q true]):
 Rt 235 [.agg (nd a b c A),cI d,cI e] [cI d,cI e,cB false]:=
 h.of
theorem qD2(h:Oo [.r 220 [.agg (nd b c d A)] [cB q],.n q false,.r 137 [cI a,cI 0,cI 99] [cB r],.n r true]):
 Rt 235 [.agg (nd b c d A),cI a,cI e] [cI a,cI e,cB false]:=
 h.of
theorem qD3(h:Oo [.r 220 [.agg (nd c d e A)] [cB q],.n q false,.r 137 [cI a,cI 0,cI 99] [cB r],.n r false,.r 137 [cI b,cI 0,cI 999] [cB s],.n s true]):
 Rt 235 [.agg (nd c d e A),cI a,cI b] [cI a,cI b,cB false]:=
 h.of
theorem qD4(h:Oo [.r 220 [.agg (nd c a e A)] [cB q],.n q false,.r 137 [cI d,cI 0,cI 99] [cB r],.n r false,.r 137 [cI b,cI 0,cI 999] [cB s],.n s false,.b (c==2) true,.v (b+a),.r 247 [cI (b+a),cI 999] [cI f]]):
 Rt 235 [.agg (nd c a e A),cI d,cI b] [cI d,cI f,cB true]:=
 h.of
theorem qD5(h:Oo [.r 220 [.agg (nd a b e A)] [cB q],.n q false,.r 137 [cI c,cI 0,cI 99] [cB r],.n r false,.r 137 [cI d,cI 0,cI 999] [cB s],.n s false,.b (a==2) false,.b (a==4) true,.v (c+b),.p ((100:Int)≠0)]):
 Rt 235 [.agg (nd a b e A),cI c,cI d] [cI ((c+b).tmod 100),cI d,cB true]:=
 h.of
theorem qD6(h:Oo [.r 220 [.agg (nd a b d A)] [cB q],.n q false,.r 137 [cI c,cI 0,cI 99] [cB r],.n r false,.r 137 [cI e,cI 0,cI 999] [cB s],.n s false,.b (a==2) false,.b (a==4) false,.b (a==3) true,.p (b≠0)]):
 Rt 235 [.agg (nd a b d A),cI c,cI e] [cI c,cI e,cB (c.tmod b==d)]:=
 h.of
theorem qD7(h:Oo [.r 220 [.agg (nd a d e A)] [cB q],.n q false,.r 137 [cI b,cI 0,cI 99] [cB r],.n r false,.r 137 [cI c,cI 0,cI 999] [cB s],.n s false,.b (a==2) false,.b (a==4) false,.b (a==3) false]):
 Rt 235 [.agg (nd a d e A),cI b,cI c] [cI b,cI c,cB (a != 8)]:=
 h.of
theorem qD8(h:Oo [.r 197 [.agg (nd a b c A)] [cB q],.n q true]):
 Rt 239 [.agg (nd a b c A),cI d,cI e] [cI d,cI e,cB false]:=
 h.of
theorem qD9(h:Oo [.r 197 [.agg (nd c d e A)] [cB q],.n q false,.r 225 [cI a,cI b] [cB r],.n r true]):
 Rt 239 [.agg (nd c d e A),cI a,cI b] [cI a,cI b,cB false]:=
 h.of
theorem qEa(h:Oo [.r 197 [.agg (nd c a e A)] [cB q],.n q false,.r 225 [cI d,cI b] [cB r],.n r false,.b (c==2) true,.v (b+a)]):
 Rt 239 [.agg (nd c a e A),cI d,cI b] [cI d,cI (if b+a<999 then b+a else 999),cB true]:=
 h.of
theorem qEb(h:Oo [.r 197 [.agg (nd a b e A)] [cB q],.n q false,.r 225 [cI c,cI d] [cB r],.n r false,.b (a==2) false,.b (a==4) true,.v (c+b),.p ((100:Int)≠0)]):
 Rt 239 [.agg (nd a b e A),cI c,cI d] [cI ((c+b).tmod 100),cI d,cB true]:=
 h.of
theorem qEc(h:Oo [.r 197 [.agg (nd a b d A)] [cB q],.n q false,.r 225 [cI c,cI e] [cB r],.n r false,.b (a==2) false,.b (a==4) false,.b (a==3) true,.p (b≠0)]):
 Rt 239 [.agg (nd a b d A),cI c,cI e] [cI c,cI e,cB (c.tmod b==d)]:=
 h.of
theorem qEd(h:Oo [.r 197 [.agg (nd a d e A)] [cB q],.n q false,.r 225 [cI b,cI c] [cB r],.n r false,.b (a==2) false,.b (a==4) false,.b (a==3) false]):
 Rt 239 [.agg (nd a d e A),cI b,cI c] [cI b,cI c,cB (a != 8)]:=
 h.of
theorem qEe(h:Oo [.b (decide (a<b)) true]):
 Rt 247 [cI b,cI a] [cI a]:=
 h.of
theorem qEf(h:Oo [.b (decide (b<a)) false]):
 Rt 247 [cI a,cI b] [cI a]:=
 h.of
theorem qEg(h:Oo [.r 81 [cI a,cI 0,cI 99] [cB q],.b q true,.r 81 [cI b,cI 0,cI 999] [cB r]]):
 Rt 225 [cI a,cI b] [cB r]:=
 h.of
theorem qEh(h:Oo [.r 81 [cI a,cI 0,cI 99] [cB q],.b q false]):
 Rt 225 [cI a,cI b] [cB false]:=
 h.of
end Go.Proofs.YtdanpadojemjeaaGreat
