import Derived.Test.YtenekpkjlgddnaaRows
import Derived.Test.YtenekpkjlgddnaaGE
namespace Go.Proofs.Ytenekpkjlgddnaa
open Go.Sx Go.RowKit
variable {a b c d e f g i j k l : Int} {A C E F : LL} {q r s t : Bool}
theorem qlw(h:Oo [.r 63 [cI (A.length:Int),cI 1,cI 8] [cB q],.n q true]):
 Rt 40 [.agg (gr A a b)] [cB false]:=
 h.of
theorem qlx(h:Oo [.r 63 [cI (A.length:Int),cI 1,cI 8] [cB q],.n q false,.r 63 [cI a,cI 1,cI 4] [cB r],.n r true]):
 Rt 40 [.agg (gr A a b)] [cB false]:=
 h.of
theorem qly(h:Oo [.r 63 [cI (A.length:Int),cI 1,cI 8] [cB q],.n q false,.r 63 [cI a,cI 1,cI 4] [cB r],.n r false,.r 63 [cI b,cI 1,cI 4] [cB s],.n s true]):
 Rt 40 [.agg (gr A a b)] [cB false]:=
 h.of
def qbf(A:LL)(a:Int)(C:LL)(b c:Int):St:=
 { env:=envOf 90 [(1,vP 1),(26,vF 4 A),(27,vI (A.length:Int)),(28,vI a)],boxes:=[(1,[.sl .free 4 C,lI b,lI c])] }
def qcx(q:Bool):St:=
 { env:=envOf 90 [(2,.al (.one (.sb q)))],boxes:=[] }
theorem qlz(h:Oo [.b (decide (a<(A.length:Int))) true,.p (0≤a),.p (a<(A.length:Int)),.e A a.toNat (nd b c d C),.r 64 [.agg (nd b c d C)] [cB q],.n q true]):
 Tp (qab Try.f40 0) (qbf A a E e f) .ret (qcx false):=
 h.lp [2] []
theorem qlA(h:Oo [.b (decide (a<(A.length:Int))) true,.p (0≤a),.p (a<(A.length:Int)),.e A a.toNat (nd b c d C),.r 64 [.agg (nd b c d C)] [cB q],.n q false,.b (!(b==1)==(a==0)) true]):
 Tp (qab Try.f40 0) (qbf A a E e f) .ret (qcx false):=
 h.lp [2] []
def qav(C:LL)(a:Int)(E:LL)(b c d e f:Int)(A:LL)(g:Int):St:=
 { env:=envOf 90 [(1,vP 1),(3,vI a),(4,vP 4),(26,vF 4 C),(27,vI (C.length:Int)),(28,vI a),(45,vF 1 A),(46,vI (A.length:Int)),(47,vI g)],boxes:=[(4,[lI d,lI e,lI f,.sl .free 1 A]),(1,[.sl .free 4 E,lI b,lI c])] }
def qbF(q:Bool):St:=
 { env:=envOf 90 [(2,.al (.one (.sb q)))],boxes:=[] }
theorem qlB(h:Oo [.b (decide (a<(A.length:Int))) true,.p (0≤a),.p (a<(A.length:Int)),.e A a.toNat [I b],.b (decide (b≥(C.length:Int))) true]):
 Tp (qab Try.f40 1) (qav E f C g i c d e A a) .ret (qbF false):=
 h.lp [2] []
theorem qlC(h:Oo [.b (decide (b<(A.length:Int))) true,.p (0≤b),.p (b<(A.length:Int)),.e A b.toNat [I a],.b (decide (a≥(C.length:Int))) false,.p (0≤a),.p (a<(C.length:Int)),.e C a.toNat (nd g i j F),.b (c==7) true,.b (decide (a>d)) true]):
 Tp (qab Try.f40 1) (qav E d C k l c e f A b) .ret (qbF false):=
 h.lp [2] []
theorem qlD(h:Oo [.b (decide (b<(A.length:Int))) true,.p (0≤b),.p (b<(A.length:Int)),.e A b.toNat [I a],.b (decide (a≥(C.length:Int))) false,.p (0≤a),.p (a<(C.length:Int)),.e C a.toNat (nd c i j F),.b (d==7) true,.b (decide (a>e)) false,.b (c != 5) true,.b (c != 6) true]):
 Tp (qab Try.f40 1) (qav E e C k l d f g A b) .ret (qbF false):=
 h.lp [2] []
theorem qlE(h:Oo [.b (decide (b<(A.length:Int))) true,.p (0≤b),.p (b<(A.length:Int)),.e A b.toNat [I a],.b (decide (a≥(C.length:Int))) false,.p (0≤a),.p (a<(C.length:Int)),.e C a.toNat (nd d i j F),.b (c==7) true,.b (decide (a>e)) false,.b (d != 5) true,.b (d != 6) false,.b (c != 7) true,.b (decide (a≤e)) true]):
 Tp (qab Try.f40 1) (qav E e C k l c f g A b) .ret (qbF false):=
 h.lp [2] []
theorem qlF(h:Oo [.b (decide (a<(A.length:Int))) true,.p (0≤a),.p (a<(A.length:Int)),.e A a.toNat [I b],.b (decide (b≥(C.length:Int))) false,.p (0≤b),.p (b<(C.length:Int)),.e C b.toNat (nd e k l F),.b (c==7) true,.b (decide (b>d)) false,.b (e != 5) true,.b (e != 6) false,.b (c != 7) true,.b (decide (b≤d)) false,.u a]):
 Tp (qab Try.f40 1) (qav E d C i j c f g A a) .normal (qav E d C i j c f g A (a+1)):=
 h.lp [47,46,45,1,4,3,28,27,26] [4,1]
theorem qlG(h:Oo [.b (decide (a<(A.length:Int))) true,.p (0≤a),.p (a<(A.length:Int)),.e A a.toNat [I b],.b (decide (b≥(C.length:Int))) false,.p (0≤b),.p (b<(C.length:Int)),.e C b.toNat (nd d k l F),.b (c==7) true,.b (decide (b>e)) false,.b (d != 5) true,.b (d != 6) false,.b (c != 7) false,.u a]):
 Tp (qab Try.f40 1) (qav E e C i j c f g A a) .normal (qav E e C i j c f g A (a+1)):=
 h.lp [47,46,45,1,4,3,28,27,26] [4,1]
theorem qlH(h:Oo [.b (decide (b<(A.length:Int))) true,.p (0≤b),.p (b<(A.length:Int)),.e A b.toNat [I a],.b (decide (a≥(C.length:Int))) false,.p (0≤a),.p (a<(C.length:Int)),.e C a.toNat (nd e i j F),.b (c==7) true,.b (decide (a>d)) false,.b (e != 5) false,.b (c != 7) true,.b (decide (a≤d)) true]):
 Tp (qab Try.f40 1) (qav E d C k l c f g A b) .ret (qbF false):=
 h.lp [2] []
theorem qlI(h:Oo [.b (decide (a<(A.length:Int))) true,.p (0≤a),.p (a<(A.length:Int)),.e A a.toNat [I b],.b (decide (b≥(C.length:Int))) false,.p (0≤b),.p (b<(C.length:Int)),.e C b.toNat (nd g k l F),.b (c==7) true,.b (decide (b>d)) false,.b (g != 5) false,.b (c != 7) true,.b (decide (b≤d)) false,.u a]):
 Tp (qab Try.f40 1) (qav E d C i j c e f A a) .normal (qav E d C i j c e f A (a+1)):=
 h.lp [47,46,45,1,4,3,28,27,26] [4,1]
theorem qlJ(h:Oo [.b (decide (a<(A.length:Int))) true,.p (0≤a),.p (a<(A.length:Int)),.e A a.toNat [I b],.b (decide (b≥(C.length:Int))) false,.p (0≤b),.p (b<(C.length:Int)),.e C b.toNat (nd g k l F),.b (c==7) true,.b (decide (b>d)) false,.b (g != 5) false,.b (c != 7) false,.u a]):
 Tp (qab Try.f40 1) (qav E d C i j c e f A a) .normal (qav E d C i j c e f A (a+1)):=
 h.lp [47,46,45,1,4,3,28,27,26] [4,1]
theorem qlK(h:Oo [.b (decide (b<(A.length:Int))) true,.p (0≤b),.p (b<(A.length:Int)),.e A b.toNat [I a],.b (decide (a≥(C.length:Int))) false,.p (0≤a),.p (a<(C.length:Int)),.e C a.toNat (nd g i j F),.b (c==7) false,.b (c != 7) true,.b (decide (a≤d)) true]):
 Tp (qab Try.f40 1) (qav E d C k l c e f A b) .ret (qbF false):=
 h.lp [2] []
theorem qlL(h:Oo [.b (decide (a<(A.length:Int))) true,.p (0≤a),.p (a<(A.length:Int)),.e A a.toNat [I b],.b (decide (b≥(C.length:Int))) false,.p (0≤b),.p (b<(C.length:Int)),.e C b.toNat (nd j k l F),.b (c==7) false,.b (c != 7) true,.b (decide (b≤d)) false,.u a]):
 Tp (qab Try.f40 1) (qav E d C g i c e f A a) .normal (qav E d C g i c e f A (a+1)):=
 h.lp [47,46,45,1,4,3,28,27,26] [4,1]
theorem qlM(h:Oo [.b (decide (a<(A.length:Int))) true,.p (0≤a),.p (a<(A.length:Int)),.e A a.toNat [I b],.b (decide (b≥(C.length:Int))) false,.p (0≤b),.p (b<(C.length:Int)),.e C b.toNat (nd j k l F),.b (c==7) false,.b (c != 7) false,.u a]):
 Tp (qab Try.f40 1) (qav E f C g i c d e A a) .normal (qav E f C g i c d e A (a+1)):=
 h.lp [47,46,45,1,4,3,28,27,26] [4,1]
def qf4(A:LL)(a:Int)(C:LL)(b c:Int):St:=
 { env:=envOf 90 [(1,vP 1),(26,vF 4 A),(27,vI (A.length:Int)),(28,vI a)],boxes:=[(1,[.sl .free 4 C,lI b,lI c])] }
theorem qlN(h:Oo [.b (decide (a<(C.length:Int))) false]):
 Tp (qab Try.f40 1) (qav A b E c d e f g C a) (.exit 2) (qf4 A b E c d):=
 h.lp [28,27,26,1] [1]
theorem qlO(h:Oo [.b (decide (a<(A.length:Int))) true,.p (0≤a),.p (a<(A.length:Int)),.e A a.toNat (nd b c d C),.r 64 [.agg (nd b c d C)] [cB q],.n q false,.b (!(b==1)==(a==0)) false,.l [] [47,46,45,1,4,3,28,27,26] [4,1] (qab Try.f40 1) (qav A a E e f b c d C 0) .ret (qbF r)]):
 Tp (qab Try.f40 0) (qbf A a E e f) .ret (qcx r):=
 h.lp [2] []
theorem qlP(h:Oo [.b (decide (a<(A.length:Int))) true,.p (0≤a),.p (a<(A.length:Int)),.e A a.toNat (nd b e f E),.r 64 [.agg (nd b e f E)] [cB q],.n q false,.b (!(b==1)==(a==0)) false,.l [] [47,46,45,1,4,3,28,27,26] [4,1] (qab Try.f40 1) (qav A a C c d b e f E 0) (.exit 2) (qf4 A a C c d),.u a]):
 Tp (qab Try.f40 0) (qbf A a C c d) .normal (qbf A (a+1) C c d):=
 h.lp [28,27,26,1] [1]
def qf5:St:=
 { env:=envOf 90 [],boxes:=[] }
theorem qlQ(h:Oo [.b (decide (a<(A.length:Int))) false]):
 Tp (qab Try.f40 0) (qbf A a C b c) (.exit 0) qf5:=
 h.lp [] []
theorem qlR(h:Oo [.r 63 [cI (A.length:Int),cI 1,cI 8] [cB q],.n q false,.r 63 [cI a,cI 1,cI 4] [cB r],.n r false,.r 63 [cI b,cI 1,cI 4] [cB s],.n s false,.l [] [28,27,26,1] [1] (qab Try.f40 0) (qbf A 0 A a b) .ret (qcx t)]):
 Rt 40 [.agg (gr A a b)] [cB t]:=
 h.of
theorem qlS(h:Oo [.r 63 [cI (A.length:Int),cI 1,cI 8] [cB q],.n q false,.r 63 [cI a,cI 1,cI 4] [cB r],.n r false,.r 63 [cI b,cI 1,cI 4] [cB s],.n s false,.l [] [28,27,26,1] [1] (qab Try.f40 0) (qbf A 0 A a b) (.exit 0) qf5]):
 Rt 40 [.agg (gr A a b)] [cB true]:=
 h.of
theorem qlT(h:Oo [.r 63 [cI a,cI 0,cI 7] [cB q],.b q true,.r 65 [.agg [I b,I c]] [cB r],.b r true,.r 66 [cI d,cI e] [cB s]]):
 Rt 41 [.agg (ri a b c d e)] [cB s]:=
 h.of
theorem qlU(h:Oo [.r 63 [cI a,cI 0,cI 7] [cB q],.b q true,.r 65 [.agg [I b,I c]] [cB r],.b r false]):
 Rt 41 [.agg (ri a b c d e)] [cB false]:=
 h.of
theorem qlV(h:Oo [.r 63 [cI a,cI 0,cI 7] [cB q],.b q false]):
 Rt 41 [.agg (ri a b c d e)] [cB false]:=
 h.of
theorem qlW(h:Oo [.r 63 [cI a,cI 0,cI 3] [cB q],.b q true,.r 63 [cI b,cI 0,cI 6] [cB r]]):
 Rt 65 [.agg [I a,I b]] [cB r]:=
 h.of
theorem qlX(h:Oo [.r 63 [cI a,cI 0,cI 3] [cB q],.b q false]):
 Rt 65 [.agg [I a,I b]] [cB false]:=
 h.of
theorem qlY(h:Oo [.r 65 [.agg [I a,I b]] [cB q],.n q true]):
 Rt 43 [.agg [I a,I b]] [.agg [I a,I b],cB false]:=
 h.of
theorem qlZ(h:Oo [.r 65 [.agg [I b,I a]] [cB q],.n q false,.b (a==6) true]):
 Rt 43 [.agg [I b,I a]] [.agg [I b,I a],cB false]:=
 h.of
theorem ql0(h:Oo [.r 65 [.agg [I b,I a]] [cB q],.n q false,.b (a==6) false,.u a]):
 Rt 43 [.agg [I b,I a]] [.agg [I b,I (a+1)],cB true]:=
 h.of
theorem ql1(h:Oo [.r 64 [.agg (nd a b c A)] [cB q],.n q true]):
 Rt 45 [.agg (nd a b c A),cI d,cI e] [cI d,cI e,cB false]:=
 h.of
theorem ql2(h:Oo [.r 64 [.agg (nd c d e A)] [cB q],.n q false,.r 66 [cI a,cI b] [cB r],.n r true]):
 Rt 45 [.agg (nd c d e A),cI a,cI b] [cI a,cI b,cB false]:=
 h.of
theorem ql3(h:Oo [.r 64 [.agg (nd c a e A)] [cB q],.n q false,.r 66 [cI d,cI b] [cB r],.n r false,.b (c==2) true,.v (b+a)]):
 Rt 45 [.agg (nd c a e A),cI d,cI b] [cI d,cI (if b+a<999 then b+a else 999),cB true]:=
 h.of
theorem ql4(h:Oo [.r 64 [.agg (nd a b e A)] [cB q],.n q false,.r 66 [cI c,cI d] [cB r],.n r false,.b (a==2) false,.b (a==4) true,.v (c+b),.p ((100:Int)≠0)]):
 Rt 45 [.agg (nd a b e A),cI c,cI d] [cI ((c+b).tmod 100),cI d,cB true]:=
 h.of
theorem ql5(h:Oo [.r 64 [.agg (nd a b d A)] [cB q],.n q false,.r 66 [cI c,cI e] [cB r],.n r false,.b (a==2) false,.b (a==4) false,.b (a==3) true,.p (b≠0)]):
 Rt 45 [.agg (nd a b d A),cI c,cI e] [cI c,cI e,cB (c.tmod b==d)]:=
 h.of
theorem ql6(h:Oo [.r 64 [.agg (nd a d e A)] [cB q],.n q false,.r 66 [cI b,cI c] [cB r],.n r false,.b (a==2) false,.b (a==4) false,.b (a==3) false]):
 Rt 45 [.agg (nd a d e A),cI b,cI c] [cI b,cI c,cB (a != 8)]:=
 h.of
theorem ql7(h:Oo [.r 63 [cI a,cI 0,cI 99] [cB q],.b q true,.r 63 [cI b,cI 0,cI 999] [cB r]]):
 Rt 66 [cI a,cI b] [cB r]:=
 h.of
theorem ql8(h:Oo [.r 63 [cI a,cI 0,cI 99] [cB q],.b q false]):
 Rt 66 [cI a,cI b] [cB false]:=
 h.of
end Go.Proofs.Ytenekpkjlgddnaa
