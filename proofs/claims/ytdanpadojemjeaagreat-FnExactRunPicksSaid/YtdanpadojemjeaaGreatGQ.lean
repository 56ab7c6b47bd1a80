import Derived.Test.YtdanpadojemjeaaGreatRows
import Derived.Test.YtdanpadojemjeaaGreatGE
namespace Go.Proofs.YtdanpadojemjeaaGreat
open Go.Sx Go.RowKit
variable {a b c d e f g i j k l : Int} {A C E F : LL} {q r s t : Bool}
theorem qFx(h:Oo [.r 137 [cI (A.length:Int),cI 1,cI 8] [cB q],.n q true]):
 Rt 163 [.agg (gr A a b)] [cB false]:=
 h.of
theorem qFy(h:Oo [.r 137 [cI (A.length:Int),cI 1,cI 8] [cB q],.n q false,.r 137 [cI a,cI 1,cI 4] [cB r],.n r true]):
 Rt 163 [.agg (gr A a b)] [cB false]:=
 h.of
theorem qFz(h:Oo [.r 137 [cI (A.length:Int),cI 1,cI 8] [cB q],.n q false,.r 137 [cI a,cI 1,cI 4] [cB r],.n r false,.r 137 [cI b,cI 1,cI 4] [cB s],.n s true]):
 Rt 163 [.agg (gr A a b)] [cB false]:=
 h.of
def qcw(a:Int)(A:LL)(b c:Int):St:=
 { env:=envOf 97 [(1,vP 1),(3,vI a)],boxes:=[(1,[.sl .free 4 A,lI b,lI c])] }
def qfc(q:Bool):St:=
 { env:=envOf 97 [(2,.al (.one (.sb q)))],boxes:=[] }
theorem qFA(h:Oo [.b (decide (a<(A.length:Int))) true,.p (0≤a),.p (a<(A.length:Int)),.e A a.toNat (nd b c d C),.r 220 [.agg (nd b c d C)] [cB q],.n q true]):
 Tp (qaa Tryz.f163 0) (qcw a A e f) .ret (qfc false):=
 h.lp [2] []
theorem qFB(h:Oo [.b (decide (a<(A.length:Int))) true,.p (0≤a),.p (a<(A.length:Int)),.e A a.toNat (nd b c d C),.r 220 [.agg (nd b c d C)] [cB q],.n q false,.b (!(b==1)==(a==0)) true]):
 Tp (qaa Tryz.f163 0) (qcw a A e f) .ret (qfc false):=
 h.lp [2] []
def qbd(a:Int)(A:LL)(b c d e f:Int)(C:LL)(g:Int):St:=
 { env:=envOf 97 [(1,vP 1),(3,vI a),(4,vP 4),(5,vI g)],boxes:=[(4,[lI d,lI e,lI f,.sl .free 1 C]),(1,[.sl .free 4 A,lI b,lI c])] }
def qdr(q:Bool):St:=
 { env:=envOf 97 [(2,.al (.one (.sb q)))],boxes:=[] }
theorem qFC(h:Oo [.b (decide (a<(A.length:Int))) true,.p (0≤a),.p (a<(A.length:Int)),.e A a.toNat [I b],.b (decide (b≥(C.length:Int))) true]):
 Tp (qaa Tryz.f163 1) (qbd f C g i c d e A a) .ret (qdr false):=
 h.lp [2] []
theorem qFD(h:Oo [.b (decide (a<(A.length:Int))) true,.p (0≤a),.p (a<(A.length:Int)),.e A a.toNat [I b],.b (decide (b≥(C.length:Int))) false,.b (c != 7) true,.b (decide (b≤d)) true]):
 Tp (qaa Tryz.f163 1) (qbd d C g i c e f A a) .ret (qdr false):=
 h.lp [2] []
theorem qFE(h:Oo [.b (decide (b<(A.length:Int))) true,.p (0≤b),.p (b<(A.length:Int)),.e A b.toNat [I a],.b (decide (a≥(C.length:Int))) false,.b (c != 7) true,.b (decide (a≤d)) false,.p (0≤a),.p (a<(C.length:Int)),.e C a.toNat (nd g i j E),.b (c==7) true,.b (decide (a>d)) true]):
 Tp (qaa Tryz.f163 1) (qbd d C k l c e f A b) .ret (qdr false):=
 h.lp [2] []
theorem qFF(h:Oo [.b (decide (b<(A.length:Int))) true,.p (0≤b),.p (b<(A.length:Int)),.e A b.toNat [I a],.b (decide (a≥(C.length:Int))) false,.b (c != 7) true,.b (decide (a≤e)) false,.p (0≤a),.p (a<(C.length:Int)),.e C a.toNat (nd d i j E),.b (c==7) true,.b (decide (a>e)) false,.b (d != 5) true,.b (d != 6) true]):
 Tp (qaa Tryz.f163 1) (qbd e C k l c f g A b) .ret (qdr false):=
 h.lp [2] []
theorem qFG(h:Oo [.b (decide (a<(A.length:Int))) true,.p (0≤a),.p (a<(A.length:Int)),.e A a.toNat [I b],.b (decide (b≥(C.length:Int))) false,.b (c != 7) true,.b (decide (b≤d)) false,.p (0≤b),.p (b<(C.length:Int)),.e C b.toNat (nd e k l E),.b (c==7) true,.b (decide (b>d)) false,.b (e != 5) true,.b (e != 6) false,.u a]):
 Tp (qaa Tryz.f163 1) (qbd d C i j c f g A a) .normal (qbd d C i j c f g A (a+1)):=
 h.lp [5,4,1,3] [4,1]
theorem qFH(h:Oo [.b (decide (a<(A.length:Int))) true,.p (0≤a),.p (a<(A.length:Int)),.e A a.toNat [I b],.b (decide (b≥(C.length:Int))) false,.b (c != 7) true,.b (decide (b≤d)) false,.p (0≤b),.p (b<(C.length:Int)),.e C b.toNat (nd g k l E),.b (c==7) true,.b (decide (b>d)) false,.b (g != 5) false,.u a]):
 Tp (qaa Tryz.f163 1) (qbd d C i j c e f A a) .normal (qbd d C i j c e f A (a+1)):=
 h.lp [5,4,1,3] [4,1]
theorem qFI(h:Oo [.b (decide (a<(A.length:Int))) true,.p (0≤a),.p (a<(A.length:Int)),.e A a.toNat [I b],.b (decide (b≥(C.length:Int))) false,.b (c != 7) true,.b (decide (b≤d)) false,.p (0≤b),.p (b<(C.length:Int)),.e C b.toNat (nd j k l E),.b (c==7) false,.u a]):
 Tp (qaa Tryz.f163 1) (qbd d C g i c e f A a) .normal (qbd d C g i c e f A (a+1)):=
 h.lp [5,4,1,3] [4,1]
theorem qFJ(h:Oo [.b (decide (b<(A.length:Int))) true,.p (0≤b),.p (b<(A.length:Int)),.e A b.toNat [I a],.b (decide (a≥(C.length:Int))) false,.b (c != 7) false,.p (0≤a),.p (a<(C.length:Int)),.e C a.toNat (nd g i j E),.b (c==7) true,.b (decide (a>d)) true]):
 Tp (qaa Tryz.f163 1) (qbd d C k l c e f A b) .ret (qdr false):=
 h.lp [2] []
theorem qFK(h:Oo [.b (decide (b<(A.length:Int))) true,.p (0≤b),.p (b<(A.length:Int)),.e A b.toNat [I a],.b (decide (a≥(C.length:Int))) false,.b (c != 7) false,.p (0≤a),.p (a<(C.length:Int)),.e C a.toNat (nd d i j E),.b (c==7) true,.b (decide (a>e)) false,.b (d != 5) true,.b (d != 6) true]):
 Tp (qaa Tryz.f163 1) (qbd e C k l c f g A b) .ret (qdr false):=
 h.lp [2] []
theorem qFL(h:Oo [.b (decide (a<(A.length:Int))) true,.p (0≤a),.p (a<(A.length:Int)),.e A a.toNat [I b],.b (decide (b≥(C.length:Int))) false,.b (c != 7) false,.p (0≤b),.p (b<(C.length:Int)),.e C b.toNat (nd d k l E),.b (c==7) true,.b (decide (b>e)) false,.b (d != 5) true,.b (d != 6) false,.u a]):
 Tp (qaa Tryz.f163 1) (qbd e C i j c f g A a) .normal (qbd e C i j c f g A (a+1)):=
 h.lp [5,4,1,3] [4,1]
theorem qFM(h:Oo [.b (decide (a<(A.length:Int))) true,.p (0≤a),.p (a<(A.length:Int)),.e A a.toNat [I b],.b (decide (b≥(C.length:Int))) false,.b (c != 7) false,.p (0≤b),.p (b<(C.length:Int)),.e C b.toNat (nd g k l E),.b (c==7) true,.b (decide (b>d)) false,.b (g != 5) false,.u a]):
 Tp (qaa Tryz.f163 1) (qbd d C i j c e f A a) .normal (qbd d C i j c e f A (a+1)):=
 h.lp [5,4,1,3] [4,1]
theorem qFN(h:Oo [.b (decide (a<(A.length:Int))) true,.p (0≤a),.p (a<(A.length:Int)),.e A a.toNat [I b],.b (decide (b≥(C.length:Int))) false,.b (c != 7) false,.p (0≤b),.p (b<(C.length:Int)),.e C b.toNat (nd j k l E),.b (c==7) false,.u a]):
 Tp (qaa Tryz.f163 1) (qbd f C g i c d e A a) .normal (qbd f C g i c d e A (a+1)):=
 h.lp [5,4,1,3] [4,1]
def qlu(a:Int)(A:LL)(b c:Int):St:=
 { env:=envOf 97 [(1,vP 1),(3,vI a)],boxes:=[(1,[.sl .free 4 A,lI b,lI c])] }
theorem qFO(h:Oo [.b (decide (a<(A.length:Int))) false]):
 Tp (qaa Tryz.f163 1) (qbd b C c d e f g A a) (.exit 2) (qlu b C c d):=
 h.lp [3,1] [1]
theorem qFP(h:Oo [.b (decide (a<(A.length:Int))) true,.p (0≤a),.p (a<(A.length:Int)),.e A a.toNat (nd b c d C),.r 220 [.agg (nd b c d C)] [cB q],.n q false,.b (!(b==1)==(a==0)) false,.l [] [5,4,1,3] [4,1] (qaa Tryz.f163 1) (qbd a A e f b c d C 0) .ret (qdr r)]):
 Tp (qaa Tryz.f163 0) (qcw a A e f) .ret (qfc r):=
 h.lp [2] []
theorem qFQ(h:Oo [.b (decide (a<(A.length:Int))) true,.p (0≤a),.p (a<(A.length:Int)),.e A a.toNat (nd b e f C),.r 220 [.agg (nd b e f C)] [cB q],.n q false,.b (!(b==1)==(a==0)) false,.l [] [5,4,1,3] [4,1] (qaa Tryz.f163 1) (qbd a A c d b e f C 0) (.exit 2) (qlu a A c d),.u a]):
 Tp (qaa Tryz.f163 0) (qcw a A c d) .normal (qcw (a+1) A c d):=
 h.lp [3,1] [1]
def qlv:St:=
 { env:=envOf 97 [],boxes:=[] }
theorem qFR(h:Oo [.b (decide (a<(A.length:Int))) false]):
 Tp (qaa Tryz.f163 0) (qcw a A b c) (.exit 0) qlv:=
 h.lp [] []
theorem qFS(h:Oo [.r 137 [cI (A.length:Int),cI 1,cI 8] [cB q],.n q false,.r 137 [cI a,cI 1,cI 4] [cB r],.n r false,.r 137 [cI b,cI 1,cI 4] [cB s],.n s false,.l [] [3,1] [1] (qaa Tryz.f163 0) (qcw 0 A a b) .ret (qfc t)]):
 Rt 163 [.agg (gr A a b)] [cB t]:=
 h.of
theorem qFT(h:Oo [.r 137 [cI (A.length:Int),cI 1,cI 8] [cB q],.n q false,.r 137 [cI a,cI 1,cI 4] [cB r],.n r false,.r 137 [cI b,cI 1,cI 4] [cB s],.n s false,.l [] [3,1] [1] (qaa Tryz.f163 0) (qcw 0 A a b) (.exit 0) qlv]):
 Rt 163 [.agg (gr A a b)] [cB true]:=
 h.of
theorem qFU(h:Oo [.r 81 [cI (A.length:Int),cI 1,cI 8] [cB q],.n q true]):
 Rt 122 [.agg (gr A a b)] [cB false]:=
 h.of
theorem qFV(h:Oo [.r 81 [cI (A.length:Int),cI 1,cI 8] [cB q],.n q false,.r 81 [cI a,cI 1,cI 4] [cB r],.n r true]):
 Rt 122 [.agg (gr A a b)] [cB false]:=
 h.of
theorem qFW(h:Oo [.r 81 [cI (A.length:Int),cI 1,cI 8] [cB q],.n q false,.r 81 [cI a,cI 1,cI 4] [cB r],.n r false,.r 81 [cI b,cI 1,cI 4] [cB s],.n s true]):
 Rt 122 [.agg (gr A a b)] [cB false]:=
 h.of
def qcx(A:LL)(a:Int)(C:LL)(b c:Int):St:=
 { env:=envOf 90 [(1,vP 1),(26,vF 4 A),(27,vI (A.length:Int)),(28,vI a)],boxes:=[(1,[.sl .free 4 C,lI b,lI c])] }
def qfd(q:Bool):St:=
 { env:=envOf 90 [(2,.al (.one (.sb q)))],boxes:=[] }
theorem qFX(h:Oo [.b (decide (a<(A.length:Int))) true,.p (0≤a),.p (a<(A.length:Int)),.e A a.toNat (nd b c d C),.r 197 [.agg (nd b c d C)] [cB q],.n q true]):
 Tp (qaa Tryz.f122 0) (qcx A a E e f) .ret (qfd false):=
 h.lp [2] []
theorem qFY(h:Oo [.b (decide (a<(A.length:Int))) true,.p (0≤a),.p (a<(A.length:Int)),.e A a.toNat (nd b c d C),.r 197 [.agg (nd b c d C)] [cB q],.n q false,.b (!(b==1)==(a==0)) true]):
 Tp (qaa Tryz.f122 0) (qcx A a E e f) .ret (qfd false):=
 h.lp [2] []
def qbe(C:LL)(a:Int)(E:LL)(b c d e f:Int)(A:LL)(g:Int):St:=
 { env:=envOf 90 [(1,vP 1),(3,vI a),(4,vP 4),(26,vF 4 C),(27,vI (C.length:Int)),(28,vI a),(45,vF 1 A),(46,vI (A.length:Int)),(47,vI g)],boxes:=[(4,[lI d,lI e,lI f,.sl .free 1 A]),(1,[.sl .free 4 E,lI b,lI c])] }
def qds(q:Bool):St:=
 { env:=envOf 90 [(2,.al (.one (.sb q)))],boxes:=[] }
theorem qFZ(h:Oo [.b (decide (a<(A.length:Int))) true,.p (0≤a),.p (a<(A.length:Int)),.e A a.toNat [I b],.b (decide (b≥(C.length:Int))) true]):
 Tp (qaa Tryz.f122 1) (qbe E f C g i c d e A a) .ret (qds false):=
 h.lp [2] []
theorem qF0(h:Oo [.b (decide (b<(A.length:Int))) true,.p (0≤b),.p (b<(A.length:Int)),.e A b.toNat [I a],.b (decide (a≥(C.length:Int))) false,.p (0≤a),.p (a<(C.length:Int)),.e C a.toNat (nd g i j F),.b (c==7) true,.b (decide (a>d)) true]):
 Tp (qaa Tryz.f122 1) (qbe E d C k l c e f A b) .ret (qds false):=
 h.lp [2] []
theorem qF1(h:Oo [.b (decide (b<(A.length:Int))) true,.p (0≤b),.p (b<(A.length:Int)),.e A b.toNat [I a],.b (decide (a≥(C.length:Int))) false,.p (0≤a),.p (a<(C.length:Int)),.e C a.toNat (nd c i j F),.b (d==7) true,.b (decide (a>e)) false,.b (c != 5) true,.b (c != 6) true]):
 Tp (qaa Tryz.f122 1) (qbe E e C k l d f g A b) .ret (qds false):=
 h.lp [2] []
theorem qF2(h:Oo [.b (decide (b<(A.length:Int))) true,.p (0≤b),.p (b<(A.length:Int)),.e A b.toNat [I a],.b (decide (a≥(C.length:Int))) false,.p (0≤a),.p (a<(C.length:Int)),.e C a.toNat (nd d i j F),.b (c==7) true,.b (decide (a>e)) false,.b (d != 5) true,.b (d != 6) false,.b (c != 7) true,.b (decide (a≤e)) true]):
 Tp (qaa Tryz.f122 1) (qbe E e C k l c f g A b) .ret (qds false):=
 h.lp [2] []
theorem qF3(h:Oo [.b (decide (a<(A.length:Int))) true,.p (0≤a),.p (a<(A.length:Int)),.e A a.toNat [I b],.b (decide (b≥(C.length:Int))) false,.p (0≤b),.p (b<(C.length:Int)),.e C b.toNat (nd e k l F),.b (c==7) true,.b (decide (b>d)) false,.b (e != 5) true,.b (e != 6) false,.b (c != 7) true,.b (decide (b≤d)) false,.u a]):
 Tp (qaa Tryz.f122 1) (qbe E d C i j c f g A a) .normal (qbe E d C i j c f g A (a+1)):=
 h.lp [47,46,45,1,4,3,28,27,26] [4,1]
theorem qF4(h:Oo [.b (decide (a<(A.length:Int))) true,.p (0≤a),.p (a<(A.length:Int)),.e A a.toNat [I b],.b (decide (b≥(C.length:Int))) false,.p (0≤b),.p (b<(C.length:Int)),.e C b.toNat (nd d k l F),.b (c==7) true,.b (decide (b>e)) false,.b (d != 5) true,.b (d != 6) false,.b (c != 7) false,.u a]):
 Tp (qaa Tryz.f122 1) (qbe E e C i j c f g A a) .normal (qbe E e C i j c f g A (a+1)):=
 h.lp [47,46,45,1,4,3,28,27,26] [4,1]
theorem qF5(h:Oo [.b (decide (b<(A.length:Int))) true,.p (0≤b),.p (b<(A.length:Int)),.e A b.toNat [I a],.b (decide (a≥(C.length:Int))) false,.p (0≤a),.p (a<(C.length:Int)),.e C a.toNat (nd e i j F),.b (c==7) true,.b (decide (a>d)) false,.b (e != 5) false,.b (c != 7) true,.b (decide (a≤d)) true]):
 Tp (qaa Tryz.f122 1) (qbe E d C k l c f g A b) .ret (qds false):=
 h.lp [2] []
theorem qF6(h:Oo [.b (decide (a<(A.length:Int))) true,.p (0≤a),.p (a<(A.length:Int)),.e A a.toNat [I b],.b (decide (b≥(C.length:Int))) false,.p (0≤b),.p (b<(C.length:Int)),.e C b.toNat (nd g k l F),.b (c==7) true,.b (decide (b>d)) false,.b (g != 5) false,.b (c != 7) true,.b (decide (b≤d)) false,.u a]):
 Tp (qaa Tryz.f122 1) (qbe E d C i j c e f A a) .normal (qbe E d C i j c e f A (a+1)):=
 h.lp [47,46,45,1,4,3,28,27,26] [4,1]
theorem qF7(h:Oo [.b (decide (a<(A.length:Int))) true,.p (0≤a),.p (a<(A.length:Int)),.e A a.toNat [I b],.b (decide (b≥(C.length:Int))) false,.p (0≤b),.p (b<(C.length:Int)),.e C b.toNat (nd g k l F),.b (c==7) true,.b (decide (b>d)) false,.b (g != 5) false,.b (c != 7) false,.u a]):
 Tp (qaa Tryz.f122 1) (qbe E d C i j c e f A a) .normal (qbe E d C i j c e f A (a+1)):=
 h.lp [47,46,45,1,4,3,28,27,26] [4,1]
theorem qF8(h:Oo [.b (decide (b<(A.length:Int))) true,.p (0≤b),.p (b<(A.length:Int)),.e A b.toNat [I a],.b (decide (a≥(C.length:Int))) false,.p (0≤a),.p (a<(C.length:Int)),.e C a.toNat (nd g i j F),.b (c==7) false,.b (c != 7) true,.b (decide (a≤d)) true]):
 Tp (qaa Tryz.f122 1) (qbe E d C k l c e f A b) .ret (qds false):=
 h.lp [2] []
theorem qF9(h:Oo [.b (decide (a<(A.length:Int))) true,.p (0≤a),.p (a<(A.length:Int)),.e A a.toNat [I b],.b (decide (b≥(C.length:Int))) false,.p (0≤b),.p (b<(C.length:Int)),.e C b.toNat (nd j k l F),.b (c==7) false,.b (c != 7) true,.b (decide (b≤d)) false,.u a]):
 Tp (qaa Tryz.f122 1) (qbe E d C g i c e f A a) .normal (qbe E d C g i c e f A (a+1)):=
 h.lp [47,46,45,1,4,3,28,27,26] [4,1]
theorem qGa(h:Oo [.b (decide (a<(A.length:Int))) true,.p (0≤a),.p (a<(A.length:Int)),.e A a.toNat [I b],.b (decide (b≥(C.length:Int))) false,.p (0≤b),.p (b<(C.length:Int)),.e C b.toNat (nd j k l F),.b (c==7) false,.b (c != 7) false,.u a]):
 Tp (qaa Tryz.f122 1) (qbe E f C g i c d e A a) .normal (qbe E f C g i c d e A (a+1)):=
 h.lp [47,46,45,1,4,3,28,27,26] [4,1]
def qlw(A:LL)(a:Int)(C:LL)(b c:Int):St:=
 { env:=envOf 90 [(1,vP 1),(26,vF 4 A),(27,vI (A.length:Int)),(28,vI a)],boxes:=[(1,[.sl .free 4 C,lI b,lI c])] }
theorem qGb(h:Oo [.b (decide (a<(C.length:Int))) false]):
 Tp (qaa Tryz.f122 1) (qbe A b E c d e f g C a) (.exit 2) (qlw A b E c d):=
 h.lp [28,27,26,1] [1]
theorem qGc(h:Oo [.b (decide (a<(A.length:Int))) true,.p (0≤a),.p (a<(A.length:Int)),.e A a.toNat (nd b c d C),.r 197 [.agg (nd b c d C)] [cB q],.n q false,.b (!(b==1)==(a==0)) false,.l [] [47,46,45,1,4,3,28,27,26] [4,1] (qaa Tryz.f122 1) (qbe A a E e f b c d C 0) .ret (qds r)]):
 Tp (qaa Tryz.f122 0) (qcx A a E e f) .ret (qfd r):=
 h.lp [2] []
theorem qGd(h:Oo [.b (decide (a<(A.length:Int))) true,.p (0≤a),.p (a<(A.length:Int)),.e A a.toNat (nd b e f E),.r 197 [.agg (nd b e f E)] [cB q],.n q false,.b (!(b==1)==(a==0)) false,.l [] [47,46,45,1,4,3,28,27,26] [4,1] (qaa Tryz.f122 1) (qbe A a C c d b e f E 0) (.exit 2) (qlw A a C c d),.u a]):
 Tp (qaa Tryz.f122 0) (qcx A a C c d) .normal (qcx A (a+1) C c d):=
 h.lp [28,27,26,1] [1]
def qlx:St:=
 { env:=envOf 90 [],boxes:=[] }
theorem qGe(h:Oo [.b (decide (a<(A.length:Int))) false]):
 Tp (qaa Tryz.f122 0) (qcx A a C b c) (.exit 0) qlx:=
 h.lp [] []
theorem qGf(h:Oo [.r 81 [cI (A.length:Int),cI 1,cI 8] [cB q],.n q false,.r 81 [cI a,cI 1,cI 4] [cB r],.n r false,.r 81 [cI b,cI 1,cI 4] [cB s],.n s false,.l [] [28,27,26,1] [1] (qaa Tryz.f122 0) (qcx A 0 A a b) .ret (qfd t)]):
 Rt 122 [.agg (gr A a b)] [cB t]:=
 h.of
theorem qGg(h:Oo [.r 81 [cI (A.length:Int),cI 1,cI 8] [cB q],.n q false,.r 81 [cI a,cI 1,cI 4] [cB r],.n r false,.r 81 [cI b,cI 1,cI 4] [cB s],.n s false,.l [] [28,27,26,1] [1] (qaa Tryz.f122 0) (qcx A 0 A a b) (.exit 0) qlx]):
 Rt 122 [.agg (gr A a b)] [cB true]:=
 h.of
theorem qGh(h:Oo [.r 137 [cI a,cI 0,cI 7] [cB q],.b q true,.r 221 [.agg [I b,I c]] [cB r],.b r true,.r 137 [cI d,cI 0,cI 99] [cB s],.b s true,.r 137 [cI e,cI 0,cI 999] [cB t]]):
 Rt 164 [.agg (ri a b c d e)] [cB t]:=
 h.of
theorem qGi(h:Oo [.r 137 [cI a,cI 0,cI 7] [cB q],.b q true,.r 221 [.agg [I b,I c]] [cB r],.b r true,.r 137 [cI d,cI 0,cI 99] [cB s],.b s false]):
 Rt 164 [.agg (ri a b c d e)] [cB false]:=
 h.of
theorem qGj(h:Oo [.r 137 [cI a,cI 0,cI 7] [cB q],.b q true,.r 221 [.agg [I b,I c]] [cB r],.b r false]):
 Rt 164 [.agg (ri a b c d e)] [cB false]:=
 h.of
theorem qGk(h:Oo [.r 137 [cI a,cI 0,cI 7] [cB q],.b q false]):
 Rt 164 [.agg (ri a b c d e)] [cB false]:=
 h.of
theorem qGl(h:Oo [.r 81 [cI a,cI 0,cI 7] [cB q],.b q true,.r 224 [.agg [I b,I c]] [cB r],.b r true,.r 225 [cI d,cI e] [cB s]]):
 Rt 173 [.agg (ri a b c d e)] [cB s]:=
 h.of
theorem qGm(h:Oo [.r 81 [cI a,cI 0,cI 7] [cB q],.b q true,.r 224 [.agg [I b,I c]] [cB r],.b r false]):
 Rt 173 [.agg (ri a b c d e)] [cB false]:=
 h.of
theorem qGn(h:Oo [.r 81 [cI a,cI 0,cI 7] [cB q],.b q false]):
 Rt 173 [.agg (ri a b c d e)] [cB false]:=
 h.of
theorem qGo(h:Oo [.r 137 [cI a,cI 0,cI 3] [cB q],.b q true,.r 137 [cI b,cI 0,cI 6] [cB r]]):
 Rt 221 [.agg [I a,I b]] [cB r]:=
 h.of
theorem qGp(h:Oo [.r 137 [cI a,cI 0,cI 3] [cB q],.b q false]):
 Rt 221 [.agg [I a,I b]] [cB false]:=
 h.of
theorem qGq(h:Oo [.r 81 [cI a,cI 0,cI 3] [cB q],.b q true,.r 81 [cI b,cI 0,cI 6] [cB r]]):
 Rt 224 [.agg [I a,I b]] [cB r]:=
 h.of
theorem qGr(h:Oo [.r 81 [cI a,cI 0,cI 3] [cB q],.b q false]):
 Rt 224 [.agg [I a,I b]] [cB false]:=
 h.of
theorem qGs(h:Oo [.r 221 [.agg [I a,I b]] [cB q],.n q true]):
 Rt 238 [.agg [I a,I b]] [.agg [I a,I b],cB false]:=
 h.of
theorem qGt(h:Oo [.r 221 [.agg [I b,I a]] [cB q],.n q false,.b (decide (a≥6)) true]):
 Rt 238 [.agg [I b,I a]] [.agg [I b,I a],cB false]:=
 h.of
theorem qGu(h:Oo [.r 221 [.agg [I b,I a]] [cB q],.n q false,.b (decide (a≥6)) false,.u a]):
 Rt 238 [.agg [I b,I a]] [.agg [I b,I (a+1)],cB true]:=
 h.of
theorem qGv(h:Oo [.r 224 [.agg [I a,I b]] [cB q],.n q true]):
 Rt 241 [.agg [I a,I b]] [.agg [I a,I b],cB false]:=
 h.of
theorem qGw(h:Oo [.r 224 [.agg [I b,I a]] [cB q],.n q false,.b (a==6) true]):
 Rt 241 [.agg [I b,I a]] [.agg [I b,I a],cB false]:=
 h.of
theorem qGx(h:Oo [.r 224 [.agg [I b,I a]] [cB q],.n q false,.b (a==6) false,.u a]):
 Rt 241 [.agg [I b,I a]] [.agg [I b,I (a+1)],cB true]:=
 h.of
theorem qGy(h:Oo [.r 220 [.agg (nd a b c A)] [cB q],.n q true]):
 Rt 235 [.agg (nd a b c A),cI d,cI e] [cI d,cI e,cB false]:=
 h.of
theorem qGz(h:Oo [.r 220 [.agg (nd b c d A)] [cB q],.n q false,.r 137 [cI a,cI 0,cI 99] [cB r],.n r true]):
 Rt 235 [.agg (nd b c d A),cI a,cI e] [cI a,cI e,cB false]:=
 h.of
theorem qGA(h:Oo [.r 220 [.agg (nd c d e A)] [cB q],.n q false,.r 137 [cI a,cI 0,cI 99] [cB r],.n r false,.r 137 [cI b,cI 0,cI 999] [cB s],.n s true]):
 Rt 235 [.agg (nd c d e A),cI a,cI b] [cI a,cI b,cB false]:=
 h.of
theorem qGB(h:Oo [.r 220 [.agg (nd c a e A)] [cB q],.n q false,.r 137 [cI d,cI 0,cI 99] [cB r],.n r false,.r 137 [cI b,cI 0,cI 999] [cB s],.n s false,.b (c==2) true,.v (b+a),.r 247 [cI (b+a),cI 999] [cI f]]):
 Rt 235 [.agg (nd c a e A),cI d,cI b] [cI d,cI f,cB true]:=
 h.of
theorem qGC(h:Oo [.r 220 [.agg (nd a b e A)] [cB q],.n q false,.r 137 [cI c,cI 0,cI 99] [cB r],.n r false,.r 137 [cI d,cI 0,cI 999] [cB s],.n s false,.b (a==2) false,.b (a==4) true,.v (c+b),.p ((100:Int)≠0)]):
 Rt 235 [.agg (nd a b e A),cI c,cI d] [cI ((c+b).tmod 100),cI d,cB true]:=
 h.of
theorem qGD(h:Oo [.r 220 [.agg (nd a b d A)] [cB q],.n q false,.r 137 [cI c,cI 0,cI 99] [cB r],.n r false,.r 137 [cI e,cI 0,cI 999] [cB s],.n s false,.b (a==2) false,.b (a==4) false,.b (a==3) true,.p (b≠0)]):
 Rt 235 [.agg (nd a b d A),cI c,cI e] [cI c,cI e,cB (c.tmod b==d)]:=
 h.of
theorem qGE(h:Oo [.r 220 [.agg (nd a d e A)] [cB q],.n q false,.r 137 [cI b,cI 0,cI 99] [cB r],.n r false,.r 137 [cI c,cI 0,cI 999] [cB s],.n s false,.b (a==2) false,.b (a==4) false,.b (a==3) false]):
 Rt 235 [.agg (nd a d e A),cI b,cI c] [cI b,cI c,cB (a != 8)]:=
 h.of
theorem qGF(h:Oo [.r 197 [.agg (nd a b c A)] [cB q],.n q true]):
 Rt 239 [.agg (nd a b c A),cI d,cI e] [cI d,cI e,cB false]:=
 h.of
theorem qGG(h:Oo [.r 197 [.agg (nd c d e A)] [cB q],.n q false,.r 225 [cI a,cI b] [cB r],.n r true]):
 Rt 239 [.agg (nd c d e A),cI a,cI b] [cI a,cI b,cB false]:=
 h.of
theorem qGH(h:Oo [.r 197 [.agg (nd c a e A)] [cB q],.n q false,.r 225 [cI d,cI b] [cB r],.n r false,.b (c==2) true,.v (b+a)]):
 Rt 239 [.agg (nd c a e A),cI d,cI b] [cI d,cI (if b+a<999 then b+a else 999),cB true]:=
 h.of
theorem qGI(h:Oo [.r 197 [.agg (nd a b e A)] [cB q],.n q false,.r 225 [cI c,cI d] [cB r],.n r false,.b (a==2) false,.b (a==4) true,.v (c+b),.p ((100:Int)≠0)]):
 Rt 239 [.agg (nd a b e A),cI c,cI d] [cI ((c+b).tmod 100),cI d,cB true]:=
 h.of
theorem qGJ(h:Oo [.r 197 [.agg (nd a b d A)] [cB q],.n q false,.r 225 [cI c,cI e] [cB r],.n r false,.b (a==2) false,.b (a==4) false,.b (a==3) true,.p (b≠0)]):
 Rt 239 [.agg (nd a b d A),cI c,cI e] [cI c,cI e,cB (c.tmod b==d)]:=
 h.of
theorem qGK(h:Oo [.r 197 [.agg (nd a d e A)] [cB q],.n q false,.r 225 [cI b,cI c] [cB r],.n r false,.b (a==2) false,.b (a==4) false,.b (a==3) false]):
 Rt 239 [.agg (nd a d e A),cI b,cI c] [cI b,cI c,cB (a != 8)]:=
 h.of
theorem qGL(h:Oo [.b (decide (a<b)) true]):
 Rt 247 [cI b,cI a] [cI a]:=
 h.of
theorem qGM(h:Oo [.b (decide (b<a)) false]):
 Rt 247 [cI a,cI b] [cI a]:=
 h.of
theorem qGN(h:Oo [.r 81 [cI a,cI 0,cI 99] [cB q],.b q true,.r 81 [cI b,cI 0,cI 999] [cB r]]):
 Rt 225 [cI a,cI b] [cB r]:=
 h.of
theorem qGO(h:Oo [.r 81 [cI a,cI 0,cI 99] [cB q],.b q false]):
 Rt 225 [cI a,cI b] [cB false]:=
 h.of
end Go.Proofs.YtdanpadojemjeaaGreat
