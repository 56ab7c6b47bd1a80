import Derived.Test.YtenekpkjlgddnaaGreatRows
import Derived.Test.YtenekpkjlgddnaaGreatGE
set_option linter.unusedVariables false
set_option linter.unusedSimpArgs false
namespace Go.Proofs.YtenekpkjlgddnaaGreat
open Go.Sx Go.RowKit
variable {a b c d e f g i j k l : Int} {A C E F G H J K L M N P Q R S U V W X Y : LL} {q r s t u : Bool}
theorem qtH(h:Oo [.b (decide (a<1)) true]):
 Rt 33 [cI b,cI a] [cI 0]:=
 h.of
theorem qtI(h:Oo [.b (decide (a<1)) false,.p (a≠0),.b (decide (b.tmod a<0)) true,.v (b.tmod a+a)]):
 Rt 33 [cI b,cI a] [cI (b.tmod a+a)]:=
 h.of
theorem qtJ(h:Oo [.b (decide (a<1)) false,.p (a≠0),.b (decide (b.tmod a<0)) false]):
 Rt 33 [cI b,cI a] [cI (b.tmod a)]:=
 h.of
theorem qtK(h:Oo [.b (decide (a<1)) true]):
 Rt 38 [cI b,cI a] [cI 0]:=
 h.of
theorem qtL(h:Oo [.b (decide (a<1)) false,.p (a≠0),.b (decide (b.tmod a<0)) true,.v (b.tmod a+a)]):
 Rt 38 [cI b,cI a] [cI (b.tmod a+a)]:=
 h.of
theorem qtM(h:Oo [.b (decide (a<1)) false,.p (a≠0),.b (decide (b.tmod a<0)) false]):
 Rt 38 [cI b,cI a] [cI (b.tmod a)]:=
 h.of
def qc2(A:LL)(a:Int):St:=
 { env:=envOf 21 [(0,vF 4 A),(3,vI a)],boxes:=[] }
def qh3(q:Bool):St:=
 { env:=envOf 21 [(2,.al (.one (.sb q)))],boxes:=[] }
theorem qtN(h:Oo [.b (decide (a<(A.length:Int))) true,.v (a-1),.p (0≤a-1),.p (a-1<(A.length:Int)),.e A ((a-1).toNat) [I c,I d,I e,I f],.p (0≤a),.p (a<(A.length:Int)),.e A a.toNat [I g,I i,I j,I k],.r 86 [.agg [I c,I d,I e,I f],.agg [I g,I i,I j,I k]] [cI b],.b (decide (b≥0)) true]):
 Tp (qab Tryz.f73 0) (qc2 A a) .ret (qh3 false):=
 h.lp [2] []
theorem qtO(h:Oo [.b (decide (a<(A.length:Int))) true,.v (a-1),.p (0≤a-1),.p (a-1<(A.length:Int)),.e A ((a-1).toNat) [I c,I d,I e,I f],.p (0≤a),.p (a<(A.length:Int)),.e A a.toNat [I g,I i,I j,I k],.r 86 [.agg [I c,I d,I e,I f],.agg [I g,I i,I j,I k]] [cI b],.b (decide (b≥0)) false,.u a]):
 Tp (qab Tryz.f73 0) (qc2 A a) .normal (qc2 A (a+1)):=
 h.lp [3,0] []
def qla:St:=
 { env:=envOf 21 [],boxes:=[] }
theorem qtP(h:Oo [.b (decide (a<(A.length:Int))) false]):
 Tp (qab Tryz.f73 0) (qc2 A a) (.exit 0) qla:=
 h.lp [] []
theorem qtQ(h:Oo [.l [] [3,0] [] (qab Tryz.f73 0) (qc2 A 1) .ret (qh3 q)]):
 Rt 73 [cS 4 A] [cB q]:=
 h.of
theorem qtR(h:Oo [.l [] [3,0] [] (qab Tryz.f73 0) (qc2 A 1) (.exit 0) qla]):
 Rt 73 [cS 4 A] [cB true]:=
 h.of
def qc3(A:LL)(a:Int)(C:LL)(b c:Int):St:=
 { env:=envOf 24 [(2,vP 2),(7,vF 5 A),(8,vI (A.length:Int)),(9,vI a)],boxes:=[(2,[.sl .free 4 C,lI b,lI c])] }
def qf0(q:Bool):St:=
 { env:=envOf 24 [(4,.al (.one (.sb q)))],boxes:=[] }
theorem qtS(h:Oo [.b (decide (a<(A.length:Int))) true,.p (0≤a),.p (a<(A.length:Int)),.e A a.toNat (ri e f b c d),.r 64 [.agg (ri e f b c d)] [cB q],.n q true]):
 Tp (qab Tryz.f65 0) (qc3 A a C g i) .ret (qf0 false):=
 h.lp [4] []
theorem qtT(h:Oo [.b (decide (a<(A.length:Int))) true,.p (0≤a),.p (a<(A.length:Int)),.e A a.toNat (ri b i c d e),.r 64 [.agg (ri b i c d e)] [cB q],.n q false,.r 74 [.agg (gr C f g),cI b] [cB r],.n r true]):
 Tp (qab Tryz.f65 0) (qc3 A a C f g) .ret (qf0 false):=
 h.lp [4] []
theorem qtU(h:Oo [.b (decide (a<(A.length:Int))) true,.p (0≤a),.p (a<(A.length:Int)),.e A a.toNat (ri d i e f g),.r 64 [.agg (ri d i e f g)] [cB q],.n q false,.r 74 [.agg (gr C b c),cI d] [cB r],.n r false,.u a]):
 Tp (qab Tryz.f65 0) (qc3 A a C b c) .normal (qc3 A (a+1) C b c):=
 h.lp [9,8,7,2] [2]
def qlb:St:=
 { env:=envOf 24 [],boxes:=[] }
theorem qtV(h:Oo [.b (decide (a<(A.length:Int))) false]):
 Tp (qab Tryz.f65 0) (qc3 A a C b c) (.exit 0) qlb:=
 h.lp [] []
theorem qtW(h:Oo [.l [] [9,8,7,2] [2] (qab Tryz.f65 0) (qc3 C 0 A a b) .ret (qf0 q)]):
 Rt 65 [.agg (gr A a b),cS 5 C] [cB q]:=
 h.of
theorem qtX(h:Oo [.l [] [9,8,7,2] [2] (qab Tryz.f65 0) (qc3 C 0 A a b) (.exit 0) qlb]):
 Rt 65 [.agg (gr A a b),cS 5 C] [cB true]:=
 h.of
theorem qtY(h:Oo [.r 65 [.agg (gr A a b),cS 5 C] [cB q],.n q true]):
 Rt 60 [.agg (gr A a b),.agg (wk C F G H J K L E)] [cB false]:=
 h.of
theorem qtZ(h:Oo [.r 65 [.agg (gr A a b),cS 5 C] [cB q],.n q false,.r 65 [.agg (gr A a b),cS 5 E] [cB r],.n r true]):
 Rt 60 [.agg (gr A a b),.agg (wk C E G H J K L F)] [cB false]:=
 h.of
theorem qt0(h:Oo [.r 65 [.agg (gr A a b),cS 5 C] [cB q],.n q false,.r 65 [.agg (gr A a b),cS 5 E] [cB r],.n r false,.r 65 [.agg (gr A a b),cS 5 F] [cB s],.n s true]):
 Rt 60 [.agg (gr A a b),.agg (wk C E F H J K L G)] [cB false]:=
 h.of
theorem qt1(h:Oo [.r 65 [.agg (gr A a b),cS 5 C] [cB q],.n q false,.r 65 [.agg (gr A a b),cS 5 E] [cB r],.n r false,.r 65 [.agg (gr A a b),cS 5 F] [cB s],.n s false,.r 73 [cS 4 G] [cB t],.n t true]):
 Rt 60 [.agg (gr A a b),.agg (wk C E F G J K L H)] [cB false]:=
 h.of
def qa9(A:LL)(a:Int)(C E F G H J K L:LL):St:=
 { env:=envOf 121 [(3,vP 3),(37,vF 5 A),(38,vI (A.length:Int)),(39,vI a)],boxes:=[(3,[.sl .free 5 C,.sl .free 5 E,.sl .free 5 F,.sl .free 4 G,.sl .free 1 H,.sl .free 1 J,.sl .free 1 K,.sl .free 2 L])] }
def qeU(q:Bool):St:=
 { env:=envOf 121 [(4,.al (.one (.sb q)))],boxes:=[] }
theorem qt2(h:Oo [.b (decide (a<(A.length:Int))) true,.p (0≤a),.p (a<(A.length:Int)),.e A a.toNat (ri b c d e f),.b (b != 0) true]):
 Tp (qab Tryz.f60 0) (qa9 A a C E F G H J K L) .ret (qeU false):=
 h.lp [4] []
theorem qt3(h:Oo [.b (decide (a<(A.length:Int))) true,.p (0≤a),.p (a<(A.length:Int)),.e A a.toNat (ri b d c e f),.b (b != 0) false,.b (c != 0) true]):
 Tp (qab Tryz.f60 0) (qa9 A a C E F G H J K L) .ret (qeU false):=
 h.lp [4] []
theorem qt4(h:Oo [.b (decide (a<(A.length:Int))) true,.p (0≤a),.p (a<(A.length:Int)),.e A a.toNat (ri b c d f g),.b (b != 0) false,.b (d != 0) false,.b (decide (a>0)) true,.v (a-1),.p (0≤a-1),.p (a-1<(C.length:Int)),.e C ((a-1).toNat) (ri i e j k l),.b (decide (e>c)) true]):
 Tp (qab Tryz.f60 0) (qa9 A a E F C G H J K L) .ret (qeU false):=
 h.lp [4] []
theorem qt5(h:Oo [.b (decide (a<(A.length:Int))) true,.p (0≤a),.p (a<(A.length:Int)),.e A a.toNat (ri b c d f g),.b (b != 0) false,.b (d != 0) false,.b (decide (a>0)) true,.v (a-1),.p (0≤a-1),.p (a-1<(C.length:Int)),.e C ((a-1).toNat) (ri i e j k l),.b (decide (e>c)) false,.u a]):
 Tp (qab Tryz.f60 0) (qa9 A a E F C G H J K L) .normal (qa9 A (a+1) E F C G H J K L):=
 h.lp [39,38,37,3] [3]
theorem qt6(h:Oo [.b (decide (a<(A.length:Int))) true,.p (0≤a),.p (a<(A.length:Int)),.e A a.toNat (ri b d c e f),.b (b != 0) false,.b (c != 0) false,.b (decide (a>0)) false,.u a]):
 Tp (qab Tryz.f60 0) (qa9 A a C E F G H J K L) .normal (qa9 A (a+1) C E F G H J K L):=
 h.lp [39,38,37,3] [3]
def qc4(A C E F G H J K:LL):St:=
 { env:=envOf 121 [(3,vP 3)],boxes:=[(3,[.sl .free 5 A,.sl .free 5 C,.sl .free 5 E,.sl .free 4 F,.sl .free 1 G,.sl .free 1 H,.sl .free 1 J,.sl .free 2 K])] }
theorem qt7(h:Oo [.b (decide (a<(L.length:Int))) false]):
 Tp (qab Tryz.f60 0) (qa9 L a A C E F G H J K) (.exit 0) (qc4 A C E F G H J K):=
 h.lp [3] [3]
theorem qt8(h:Oo [.r 65 [.agg (gr A a b),cS 5 E] [cB q],.n q false,.r 65 [.agg (gr A a b),cS 5 F] [cB r],.n r false,.r 65 [.agg (gr A a b),cS 5 C] [cB s],.n s false,.r 73 [cS 4 G] [cB t],.n t false,.l [] [39,38,37,3] [3] (qab Tryz.f60 0) (qa9 C 0 E F C G J K L H) .ret (qeU u)]):
 Rt 60 [.agg (gr A a b),.agg (wk E F C G J K L H)] [cB u]:=
 h.of
theorem qt9(h:Oo [.r 65 [.agg (gr A a b),cS 5 E] [cB q],.n q false,.r 65 [.agg (gr A a b),cS 5 F] [cB r],.n r false,.r 65 [.agg (gr A a b),cS 5 C] [cB s],.n s false,.r 73 [cS 4 G] [cB t],.n t false,.l [] [39,38,37,3] [3] (qab Tryz.f60 0) (qa9 C 0 E F C G K L M H) (.exit 0) (qc4 N P Q R J S U V),.b ((J.length:Int) != 4) true]):
 Rt 60 [.agg (gr A a b),.agg (wk E F C G K L M H)] [cB false]:=
 h.of
theorem qua(h:Oo [.r 65 [.agg (gr A a b),cS 5 E] [cB q],.n q false,.r 65 [.agg (gr A a b),cS 5 F] [cB r],.n r false,.r 65 [.agg (gr A a b),cS 5 C] [cB s],.n s false,.r 73 [cS 4 G] [cB t],.n t false,.l [] [39,38,37,3] [3] (qab Tryz.f60 0) (qa9 C 0 E F C G L M N H) (.exit 0) (qc4 P Q R S J K U V),.b ((J.length:Int) != 4) false,.b ((K.length:Int) != 4) true]):
 Rt 60 [.agg (gr A a b),.agg (wk E F C G L M N H)] [cB false]:=
 h.of
theorem qub(h:Oo [.r 65 [.agg (gr A a b),cS 5 E] [cB q],.n q false,.r 65 [.agg (gr A a b),cS 5 F] [cB r],.n r false,.r 65 [.agg (gr A a b),cS 5 C] [cB s],.n s false,.r 73 [cS 4 G] [cB t],.n t false,.l [] [39,38,37,3] [3] (qab Tryz.f60 0) (qa9 C 0 E F C G M N P H) (.exit 0) (qc4 Q R S U J K L V),.b ((J.length:Int) != 4) false,.b ((K.length:Int) != 4) false,.b ((L.length:Int) != 4) true]):
 Rt 60 [.agg (gr A a b),.agg (wk E F C G M N P H)] [cB false]:=
 h.of
def qc5(C E F G A H J K:LL)(a:Int):St:=
 { env:=envOf 121 [(3,vP 3),(89,vF 1 A),(90,vI (A.length:Int)),(91,vI a)],boxes:=[(3,[.sl .free 5 C,.sl .free 5 E,.sl .free 5 F,.sl .free 4 G,.sl .free 1 A,.sl .free 1 H,.sl .free 1 J,.sl .free 2 K])] }
def qh4(q:Bool):St:=
 { env:=envOf 121 [(4,.al (.one (.sb q)))],boxes:=[] }
theorem quc(h:Oo [.b (decide (a<(A.length:Int))) true,.p (0≤a),.p (a<(A.length:Int)),.e A a.toNat [I b],.r 48 [cI b,cI (-1000000),cI 1000000] [cB q],.n q true]):
 Tp (qab Tryz.f60 1) (qc5 C E F G A H J K a) .ret (qh4 false):=
 h.lp [4] []
theorem qud(h:Oo [.b (decide (a<(A.length:Int))) true,.p (0≤a),.p (a<(A.length:Int)),.e A a.toNat [I b],.r 48 [cI b,cI (-1000000),cI 1000000] [cB q],.n q false,.u a]):
 Tp (qab Tryz.f60 1) (qc5 C E F G A H J K a) .normal (qc5 C E F G A H J K (a+1)):=
 h.lp [91,90,89,3] [3]
def qh5(A C E F G H J K:LL):St:=
 { env:=envOf 121 [(3,vP 3)],boxes:=[(3,[.sl .free 5 A,.sl .free 5 C,.sl .free 5 E,.sl .free 4 F,.sl .free 1 G,.sl .free 1 H,.sl .free 1 J,.sl .free 2 K])] }
theorem que(h:Oo [.b (decide (a<(A.length:Int))) false]):
 Tp (qab Tryz.f60 1) (qc5 C E F G A H J K a) (.exit 2) (qh5 C E F G A H J K):=
 h.lp [3] [3]
theorem quf(h:Oo [.r 65 [.agg (gr A a b),cS 5 H] [cB q],.n q false,.r 65 [.agg (gr A a b),cS 5 J] [cB r],.n r false,.r 65 [.agg (gr A a b),cS 5 C] [cB s],.n s false,.r 73 [cS 4 K] [cB t],.n t false,.l [] [39,38,37,3] [3] (qab Tryz.f60 0) (qa9 C 0 H J C K S U V L) (.exit 0) (qc4 M N P Q E F G R),.b ((E.length:Int) != 4) false,.b ((F.length:Int) != 4) false,.b ((G.length:Int) != 4) false,.l [] [91,90,89,3] [3] (qab Tryz.f60 1) (qc5 M N P Q E F G R 0) .ret (qh4 u)]):
 Rt 60 [.agg (gr A a b),.agg (wk H J C K S U V L)] [cB u]:=
 h.of
def qcp(A:LL)(a:Int)(C E F G H J K L:LL):St:=
 { env:=envOf 121 [(3,vP 3),(100,vF 2 A),(101,vI (A.length:Int)),(102,vI a)],boxes:=[(3,[.sl .free 5 C,.sl .free 5 E,.sl .free 5 F,.sl .free 4 G,.sl .free 1 H,.sl .free 1 J,.sl .free 1 K,.sl .free 2 L])] }
def qf1(q:Bool):St:=
 { env:=envOf 121 [(4,.al (.one (.sb q)))],boxes:=[] }
theorem qug(h:Oo [.b (decide (a<(A.length:Int))) true,.p (0≤a),.p (a<(A.length:Int)),.e A a.toNat [I b,B r],.r 48 [cI b,cI 0,cI 3] [cB q],.n q true]):
 Tp (qab Tryz.f60 2) (qcp A a C E F G H J K L) .ret (qf1 false):=
 h.lp [4] []
theorem quh(h:Oo [.b (decide (a<(C.length:Int))) true,.p (0≤a),.p (a<(C.length:Int)),.e C a.toNat [I b,B s],.r 48 [cI b,cI 0,cI 3] [cB q],.n q false,.p ((0:Int)≤none.getD 0),.p (none.getD 0≤(some a).getD (A.length:Int)),.p ((some a).getD (A.length:Int)≤(A.length:Int)),.r 66 [.one (.sl 2 (List.take (((some a).getD (A.length:Int)).toNat-0) (List.drop 0 A))),cI b] [cB r],.b r true]):
 Tp (qab Tryz.f60 2) (qcp C a E F G H J K L A) .ret (qf1 false):=
 h.lp [4] []
theorem qui(h:Oo [.b (decide (a<(C.length:Int))) true,.p (0≤a),.p (a<(C.length:Int)),.e C a.toNat [I b,B s],.r 48 [cI b,cI 0,cI 3] [cB q],.n q false,.p ((0:Int)≤none.getD 0),.p (none.getD 0≤(some a).getD (A.length:Int)),.p ((some a).getD (A.length:Int)≤(A.length:Int)),.r 66 [.one (.sl 2 (List.take (((some a).getD (A.length:Int)).toNat-0) (List.drop 0 A))),cI b] [cB r],.b r false,.u a]):
 Tp (qab Tryz.f60 2) (qcp C a E F G H J K L A) .normal (qcp C (a+1) E F G H J K L A):=
 h.lp [102,101,100,3] [3]
def qh6:St:=
 { env:=envOf 121 [],boxes:=[] }
theorem quj(h:Oo [.b (decide (a<(A.length:Int))) false]):
 Tp (qab Tryz.f60 2) (qcp A a C E F G H J K L) (.exit 4) qh6:=
 h.lp [] []
theorem quk(h:Oo [.r 65 [.agg (gr G a b),cS 5 N] [cB q],.n q false,.r 65 [.agg (gr G a b),cS 5 P] [cB r],.n r false,.r 65 [.agg (gr G a b),cS 5 M] [cB s],.n s false,.r 73 [cS 4 Q] [cB t],.n t false,.l [] [39,38,37,3] [3] (qab Tryz.f60 0) (qa9 M 0 N P M Q S U V R) (.exit 0) (qc4 H J K L A C E F),.b ((A.length:Int) != 4) false,.b ((C.length:Int) != 4) false,.b ((E.length:Int) != 4) false,.l [] [91,90,89,3] [3] (qab Tryz.f60 1) (qc5 H J K L A C E F 0) (.exit 2) (qh5 H J K L A C E F),.l [] [102,101,100,3] [3] (qab Tryz.f60 2) (qcp F 0 H J K L A C E F) .ret (qf1 u)]):
 Rt 60 [.agg (gr G a b),.agg (wk N P M Q S U V R)] [cB u]:=
 h.of
theorem qul(h:Oo [.r 65 [.agg (gr G a b),cS 5 N] [cB q],.n q false,.r 65 [.agg (gr G a b),cS 5 P] [cB r],.n r false,.r 65 [.agg (gr G a b),cS 5 M] [cB s],.n s false,.r 73 [cS 4 Q] [cB t],.n t false,.l [] [39,38,37,3] [3] (qab Tryz.f60 0) (qa9 M 0 N P M Q S U V R) (.exit 0) (qc4 H J K L A C E F),.b ((A.length:Int) != 4) false,.b ((C.length:Int) != 4) false,.b ((E.length:Int) != 4) false,.l [] [91,90,89,3] [3] (qab Tryz.f60 1) (qc5 H J K L A C E F 0) (.exit 2) (qh5 H J K L A C E F),.l [] [102,101,100,3] [3] (qab Tryz.f60 2) (qcp F 0 H J K L A C E F) (.exit 4) qh6]):
 Rt 60 [.agg (gr G a b),.agg (wk N P M Q S U V R)] [cB true]:=
 h.of
theorem qum(h:Oo [.r 48 [cI a,cI 1,cI 4] [cB q],.n q true]):
 Rt 63 [.agg (lk a A b c d e)] [cB false]:=
 h.of
theorem qun(h:Oo [.r 48 [cI a,cI 1,cI 4] [cB q],.n q false,.r 48 [cI b,cI 0,cI a] [cB r],.n r true]):
 Rt 63 [.agg (lk a A b c d e)] [cB false]:=
 h.of
theorem qup(h:Oo [.r 48 [cI a,cI 1,cI 4] [cB q],.n q false,.r 48 [cI b,cI 0,cI a] [cB r],.n r false,.r 48 [cI c,cI 0,cI a] [cB s],.n s true]):
 Rt 63 [.agg (lk a A b c d e)] [cB false]:=
 h.of
theorem quq(h:Oo [.r 48 [cI a,cI 1,cI 4] [cB q],.n q false,.r 48 [cI b,cI 0,cI a] [cB r],.n r false,.r 48 [cI c,cI 0,cI a] [cB s],.n s false,.v (b+c),.v (b+c+(A.length:Int)),.b (b+c+(A.length:Int) != a) true]):
 Rt 63 [.agg (lk a A b c d e)] [cB false]:=
 h.of
theorem qur(h:Oo [.r 48 [cI a,cI 1,cI 4] [cB q],.n q false,.r 48 [cI b,cI 0,cI a] [cB r],.n r false,.r 48 [cI c,cI 0,cI a] [cB s],.n s false,.v (b+c),.v (b+c+(A.length:Int)),.b (b+c+(A.length:Int) != a) false,.r 48 [cI d,cI 0,cI 1000000000] [cB t],.n t true]):
 Rt 63 [.agg (lk a A b c d e)] [cB false]:=
 h.of
theorem qus(h:Oo [.r 48 [cI a,cI 1,cI 4] [cB q],.n q false,.r 48 [cI b,cI 0,cI a] [cB r],.n r false,.r 48 [cI c,cI 0,cI a] [cB s],.n s false,.v (b+c),.v (b+c+(A.length:Int)),.b (b+c+(A.length:Int) != a) false,.r 48 [cI d,cI 0,cI 1000000000] [cB t],.n t false,.b (decide (e<0)) true]):
 Rt 63 [.agg (lk a A b c d e)] [cB false]:=
 h.of
theorem qut(h:Oo [.r 48 [cI a,cI 1,cI 4] [cB q],.n q false,.r 48 [cI b,cI 0,cI a] [cB r],.n r false,.r 48 [cI c,cI 0,cI a] [cB s],.n s false,.v (b+c),.v (b+c+(A.length:Int)),.b (b+c+(A.length:Int) != a) false,.r 48 [cI d,cI 0,cI 1000000000] [cB t],.n t false,.b (decide (e<0)) false,.v (d-e),.b (d-e != (A.length:Int)) true]):
 Rt 63 [.agg (lk a A b c d e)] [cB false]:=
 h.of
theorem quu(h:Oo [.r 48 [cI a,cI 1,cI 4] [cB r],.n r false,.r 48 [cI b,cI 0,cI a] [cB s],.n s false,.r 48 [cI c,cI 0,cI a] [cB t],.n t false,.v (b+c),.v (b+c+(A.length:Int)),.b (b+c+(A.length:Int) != a) false,.r 48 [cI d,cI 0,cI 1000000000] [cB u],.n u false,.b (decide (e<0)) false,.v (d-e),.b (d-e != (A.length:Int)) false,.r 78 [cS 5 A] [cB q]]):
 Rt 63 [.agg (lk a A b c d e)] [cB q]:=
 h.of
def qdJ(A:LL)(a:Int):St:=
 { env:=envOf 15 [(5,vF 5 A),(6,vI (A.length:Int)),(7,vI a)],boxes:=[] }
def qh7(q:Bool):St:=
 { env:=envOf 15 [(2,.al (.one (.sb q)))],boxes:=[] }
theorem quv(h:Oo [.b (decide (a<(A.length:Int))) true,.p (0≤a),.p (a<(A.length:Int)),.e A a.toNat (ri b c d e f),.r 64 [.agg (ri b c d e f)] [cB q],.n q true]):
 Tp (qab Tryz.f78 0) (qdJ A a) .ret (qh7 false):=
 h.lp [2] []
theorem quw(h:Oo [.b (decide (a<(A.length:Int))) true,.p (0≤a),.p (a<(A.length:Int)),.e A a.toNat (ri b c d e f),.r 64 [.agg (ri b c d e f)] [cB q],.n q false,.u a]):
 Tp (qab Tryz.f78 0) (qdJ A a) .normal (qdJ A (a+1)):=
 h.lp [7,6,5] []
def qlc:St:=
 { env:=envOf 15 [],boxes:=[] }
theorem qux(h:Oo [.b (decide (a<(A.length:Int))) false]):
 Tp (qab Tryz.f78 0) (qdJ A a) (.exit 0) qlc:=
 h.lp [] []
theorem quy(h:Oo [.l [] [7,6,5] [] (qab Tryz.f78 0) (qdJ A 0) .ret (qh7 q)]):
 Rt 78 [cS 5 A] [cB q]:=
 h.of
theorem quz(h:Oo [.l [] [7,6,5] [] (qab Tryz.f78 0) (qdJ A 0) (.exit 0) qlc]):
 Rt 78 [cS 5 A] [cB true]:=
 h.of
theorem quA(h:Oo [.r 59 [.agg (gr A a b)] [cB q],.n q true]):
 Rt 47 [.agg (cl A a b C E F G)] [cB false]:=
 h.of
theorem quB(h:Oo [.r 59 [.agg (gr A a b)] [cB q],.n q false,.b ((C.length:Int) != a) true]):
 Rt 47 [.agg (cl A a b C E F G)] [cB false]:=
 h.of
theorem quC(h:Oo [.r 59 [.agg (gr A a b)] [cB q],.n q false,.b ((C.length:Int) != a) false,.v (a*a),.b ((E.length:Int) != a*a) true]):
 Rt 47 [.agg (cl A a b C E F G)] [cB false]:=
 h.of
theorem quD(h:Oo [.r 59 [.agg (gr A a b)] [cB q],.n q false,.b ((C.length:Int) != a) false,.v (a*a),.b ((E.length:Int) != a*a) false,.b ((F.length:Int) != 4) true]):
 Rt 47 [.agg (cl A a b C E F G)] [cB false]:=
 h.of
def qb0(a:Int)(A:LL)(b:Int)(C:LL)(c d:Int)(E F G H:LL):St:=
 { env:=envOf 147 [(1,vP 1),(3,vI a),(42,vF 8 A),(43,vI (A.length:Int)),(44,vI b)],boxes:=[(1,[.sl .free 4 C,lI c,lI d,.sl .free 8 E,.sl .free 6 F,.sl .free 5 G,.sl .free 3 H])] }
def qf2(q:Bool):St:=
 { env:=envOf 147 [(2,.al (.one (.sb q)))],boxes:=[] }
theorem quE(h:Oo [.b (decide (a<(A.length:Int))) true,.p (0≤a),.p (a<(A.length:Int)),.e A a.toNat (wk C E F G H J K L),.r 60 [.agg (gr M b c),.agg (wk C E F G H J K L)] [cB q],.n q true]):
 Tp (qab Tryz.f47 0) (qb0 d A a M b c N P Q R) .ret (qf2 false):=
 h.lp [2] []
theorem quF(h:Oo [.b (decide (a<(A.length:Int))) true,.p (0≤a),.p (a<(A.length:Int)),.e A a.toNat (wk J K L M N P Q R),.r 60 [.agg (gr C b c),.agg (wk J K L M N P Q R)] [cB q],.n q false,.u a]):
 Tp (qab Tryz.f47 0) (qb0 d A a C b c E F G H) .normal (qb0 d A (a+1) C b c E F G H):=
 h.lp [44,43,42,1,3] [1]
def qed(a:Int)(A:LL)(b c:Int)(C E F G:LL):St:=
 { env:=envOf 147 [(1,vP 1),(3,vI a)],boxes:=[(1,[.sl .free 4 A,lI b,lI c,.sl .free 8 C,.sl .free 6 E,.sl .free 5 F,.sl .free 3 G])] }
theorem quG(h:Oo [.b (decide (d<(G.length:Int))) false]):
 Tp (qab Tryz.f47 0) (qb0 a G d H b c A C E F) (.exit 0) (qed a H b c A C E F):=
 h.lp [1,3] [1]
theorem quH(h:Oo [.r 59 [.agg (gr C a b)] [cB q],.n q false,.b ((A.length:Int) != a) false,.v (a*a),.b ((E.length:Int) != a*a) false,.b ((F.length:Int) != 4) false,.l [] [44,43,42,1,3] [1] (qab Tryz.f47 0) (qb0 a A 0 C a b A E F G) .ret (qf2 r)]):
 Rt 47 [.agg (cl C a b A E F G)] [cB r]:=
 h.of
def qbj(a:Int)(A:LL)(b:Int)(C:LL)(c d:Int)(E F G H:LL):St:=
 { env:=envOf 147 [(1,vP 1),(3,vI a),(55,vF 6 A),(56,vI (A.length:Int)),(57,vI b)],boxes:=[(1,[.sl .free 4 C,lI c,lI d,.sl .free 8 E,.sl .free 6 F,.sl .free 5 G,.sl .free 3 H])] }
def qee(q:Bool):St:=
 { env:=envOf 147 [(2,.al (.one (.sb q)))],boxes:=[] }
theorem quI(h:Oo [.b (decide (a<(A.length:Int))) true,.p (0≤a),.p (a<(A.length:Int)),.e A a.toNat (lk b C c d e f),.r 63 [.agg (lk b C c d e f)] [cB q],.n q true]):
 Tp (qab Tryz.f47 1) (qbj g A a E i j F G H J) .ret (qee false):=
 h.lp [2] []
theorem quJ(h:Oo [.b (decide (a<(A.length:Int))) true,.p (0≤a),.p (a<(A.length:Int)),.e A a.toNat (lk b C d e f g),.r 63 [.agg (lk b C d e f g)] [cB q],.n q false,.b (b != c) true]):
 Tp (qab Tryz.f47 1) (qbj i A a E j c F G H J) .ret (qee false):=
 h.lp [2] []
theorem quK(h:Oo [.b (decide (a<(A.length:Int))) true,.p (0≤a),.p (a<(A.length:Int)),.e A a.toNat (lk c C e f g i),.r 63 [.agg (lk c C e f g i)] [cB q],.n q false,.b (c != b) false,.r 65 [.agg (gr E d b),cS 5 C] [cB r],.n r true]):
 Tp (qab Tryz.f47 1) (qbj j A a E d b F G H J) .ret (qee false):=
 h.lp [2] []
theorem quL(h:Oo [.b (decide (a<(A.length:Int))) true,.p (0≤a),.p (a<(A.length:Int)),.e A a.toNat (lk d C f g i j),.r 63 [.agg (lk d C f g i j)] [cB q],.n q false,.b (d != c) false,.r 65 [.agg (gr E e c),cS 5 C] [cB r],.n r false,.p (b≠0),.v (a.tdiv b),.p (b≠0),.b (a.tdiv b==a.tmod b) true,.b (decide ((C.length:Int)>0)) true]):
 Tp (qab Tryz.f47 1) (qbj b A a E e c F G H J) .ret (qee false):=
 h.lp [2] []
theorem quM(h:Oo [.b (decide (a<(A.length:Int))) true,.p (0≤a),.p (a<(A.length:Int)),.e A a.toNat (lk e C f g i j),.r 63 [.agg (lk e C f g i j)] [cB q],.n q false,.b (e != c) false,.r 65 [.agg (gr E d c),cS 5 C] [cB r],.n r false,.p (b≠0),.v (a.tdiv b),.p (b≠0),.b (a.tdiv b==a.tmod b) true,.b (decide ((C.length:Int)>0)) false,.u a]):
 Tp (qab Tryz.f47 1) (qbj b A a E d c F G H J) .normal (qbj b A (a+1) E d c F G H J):=
 h.lp [57,56,55,1,3] [1]
theorem quN(h:Oo [.b (decide (a<(A.length:Int))) true,.p (0≤a),.p (a<(A.length:Int)),.e A a.toNat (lk e E f g i j),.r 63 [.agg (lk e E f g i j)] [cB q],.n q false,.b (e != c) false,.r 65 [.agg (gr C d c),cS 5 E] [cB r],.n r false,.p (b≠0),.v (a.tdiv b),.p (b≠0),.b (a.tdiv b==a.tmod b) false,.u a]):
 Tp (qab Tryz.f47 1) (qbj b A a C d c F G H J) .normal (qbj b A (a+1) C d c F G H J):=
 h.lp [57,56,55,1,3] [1]
def qeV(a:Int)(A:LL)(b c:Int)(C E F G:LL):St:=
 { env:=envOf 147 [(1,vP 1),(3,vI a)],boxes:=[(1,[.sl .free 4 A,lI b,lI c,.sl .free 8 C,.sl .free 6 E,.sl .free 5 F,.sl .free 3 G])] }
theorem quO(h:Oo [.b (decide (b<(A.length:Int))) false]):
 Tp (qab Tryz.f47 1) (qbj a A b C c d E F G H) (.exit 2) (qeV a C c d E F G H):=
 h.lp [1,3] [1]
theorem quP(h:Oo [.r 59 [.agg (gr C a b)] [cB r],.n r false,.b ((A.length:Int) != a) false,.v (a*a),.b ((F.length:Int) != a*a) false,.b ((G.length:Int) != 4) false,.l [] [44,43,42,1,3] [1] (qab Tryz.f47 0) (qb0 a A 0 C a b A F G L) (.exit 0) (qed a M d c H E J K),.l [] [57,56,55,1,3] [1] (qab Tryz.f47 1) (qbj a E 0 M d c H E J K) .ret (qee q)]):
 Rt 47 [.agg (cl C a b A F G L)] [cB q]:=
 h.of
def qbq(a:Int)(A:LL)(b:Int)(C:LL)(c d:Int)(E F G H:LL):St:=
 { env:=envOf 147 [(1,vP 1),(3,vI a),(98,vF 5 A),(99,vI (A.length:Int)),(100,vI b)],boxes:=[(1,[.sl .free 4 C,lI c,lI d,.sl .free 8 E,.sl .free 6 F,.sl .free 5 G,.sl .free 3 H])] }
def qdK(q:Bool):St:=
 { env:=envOf 147 [(2,.al (.one (.sb q)))],boxes:=[] }
theorem quQ(h:Oo [.b (decide (a<(A.length:Int))) true,.p (0≤a),.p (a<(A.length:Int)),.e A a.toNat [B r,I c,I f,B s,B t],.v (b-1),.r 48 [cI c,cI 0,cI (b-1)] [cB q],.n q true]):
 Tp (qab Tryz.f47 2) (qbq b A a C d e E F G H) .ret (qdK false):=
 h.lp [2] []
theorem quR(h:Oo [.b (decide (a<(A.length:Int))) true,.p (0≤a),.p (a<(A.length:Int)),.e A a.toNat [B q,I c,I f,B s,B t],.v (b-1),.r 48 [cI c,cI 0,cI (b-1)] [cB r],.n r false,.n q true,.b (c != 0) true]):
 Tp (qab Tryz.f47 2) (qbq b A a C d e E F G H) .ret (qdK false):=
 h.lp [2] []
theorem quS(h:Oo [.b (decide (a<(A.length:Int))) true,.p (0≤a),.p (a<(A.length:Int)),.e A a.toNat [B q,I c,I d,B t,B u],.v (b-1),.r 48 [cI c,cI 0,cI (b-1)] [cB r],.n r false,.n q true,.b (c != 0) false,.r 48 [cI d,cI (-1000000),cI 1000000] [cB s],.n s true]):
 Tp (qab Tryz.f47 2) (qbq b A a C e f E F G H) .ret (qdK false):=
 h.lp [2] []
theorem quT(h:Oo [.b (decide (a<(A.length:Int))) true,.p (0≤a),.p (a<(A.length:Int)),.e A a.toNat [B q,I c,I f,B t,B u],.v (b-1),.r 48 [cI c,cI 0,cI (b-1)] [cB r],.n r false,.n q true,.b (c != 0) false,.r 48 [cI f,cI (-1000000),cI 1000000] [cB s],.n s false,.u a]):
 Tp (qab Tryz.f47 2) (qbq b A a C d e E F G H) .normal (qbq b A (a+1) C d e E F G H):=
 h.lp [100,99,98,3,1] [1]
theorem quU(h:Oo [.b (decide (a<(A.length:Int))) true,.p (0≤a),.p (a<(A.length:Int)),.e A a.toNat [B q,I c,I d,B t,B u],.v (b-1),.r 48 [cI c,cI 0,cI (b-1)] [cB r],.n r false,.n q false,.r 48 [cI d,cI (-1000000),cI 1000000] [cB s],.n s true]):
 Tp (qab Tryz.f47 2) (qbq b A a C e f E F G H) .ret (qdK false):=
 h.lp [2] []
theorem quV(h:Oo [.b (decide (a<(A.length:Int))) true,.p (0≤a),.p (a<(A.length:Int)),.e A a.toNat [B q,I e,I f,B t,B u],.v (b-1),.r 48 [cI e,cI 0,cI (b-1)] [cB r],.n r false,.n q false,.r 48 [cI f,cI (-1000000),cI 1000000] [cB s],.n s false,.u a]):
 Tp (qab Tryz.f47 2) (qbq b A a C c d E F G H) .normal (qbq b A (a+1) C c d E F G H):=
 h.lp [100,99,98,3,1] [1]
def qf3(a:Int)(A:LL)(b c:Int)(C E F G:LL):St:=
 { env:=envOf 147 [(1,vP 1),(3,vI a)],boxes:=[(1,[.sl .free 4 A,lI b,lI c,.sl .free 8 C,.sl .free 6 E,.sl .free 5 F,.sl .free 3 G])] }
theorem quW(h:Oo [.b (decide (b<(A.length:Int))) false]):
 Tp (qab Tryz.f47 2) (qbq a A b C c d E F G H) (.exit 4) (qf3 a C c d E F G H):=
 h.lp [1,3] [1]
theorem quX(h:Oo [.r 59 [.agg (gr C a b)] [cB r],.n r false,.b ((A.length:Int) != a) false,.v (a*a),.b ((G.length:Int) != a*a) false,.b ((H.length:Int) != 4) false,.l [] [44,43,42,1,3] [1] (qab Tryz.f47 0) (qb0 a A 0 C a b A G H R) (.exit 0) (qed a S f c J E K L),.l [] [57,56,55,1,3] [1] (qab Tryz.f47 1) (qbj a E 0 S f c J E K L) (.exit 2) (qeV a M d e N P F Q),.l [] [100,99,98,3,1] [1] (qab Tryz.f47 2) (qbq a F 0 M d e N P F Q) .ret (qdK q)]):
 Rt 47 [.agg (cl C a b A G H R)] [cB q]:=
 h.of
def qcq(a:Int)(A:LL)(b:Int):St:=
 { env:=envOf 147 [(3,vI a),(128,vF 3 A),(129,vI (A.length:Int)),(130,vI b)],boxes:=[] }
def qeW(q:Bool):St:=
 { env:=envOf 147 [(2,.al (.one (.sb q)))],boxes:=[] }
theorem quY(h:Oo [.b (decide (a<(A.length:Int))) true,.p (0≤a),.p (a<(A.length:Int)),.e A a.toNat [I c,I d,B r],.v (b-1),.r 48 [cI c,cI 0,cI (b-1)] [cB q],.n q true]):
 Tp (qab Tryz.f47 3) (qcq b A a) .ret (qeW false):=
 h.lp [2] []
theorem quZ(h:Oo [.b (decide (a<(A.length:Int))) true,.p (0≤a),.p (a<(A.length:Int)),.e A a.toNat [I c,I d,B s],.v (b-1),.r 48 [cI c,cI 0,cI (b-1)] [cB q],.n q false,.r 48 [cI d,cI 0,cI 3] [cB r],.n r true]):
 Tp (qab Tryz.f47 3) (qcq b A a) .ret (qeW false):=
 h.lp [2] []
theorem qu0(h:Oo [.b (decide (a<(A.length:Int))) true,.p (0≤a),.p (a<(A.length:Int)),.e A a.toNat [I c,I d,B s],.v (b-1),.r 48 [cI c,cI 0,cI (b-1)] [cB q],.n q false,.r 48 [cI d,cI 0,cI 3] [cB r],.n r false,.u a]):
 Tp (qab Tryz.f47 3) (qcq b A a) .normal (qcq b A (a+1)):=
 h.lp [130,129,128,3] []
def qh8:St:=
 { env:=envOf 147 [],boxes:=[] }
theorem qu1(h:Oo [.b (decide (a<(A.length:Int))) false]):
 Tp (qab Tryz.f47 3) (qcq b A a) (.exit 6) qh8:=
 h.lp [] []
theorem qu2(h:Oo [.r 59 [.agg (gr C a b)] [cB r],.n r false,.b ((A.length:Int) != a) false,.v (a*a),.b ((G.length:Int) != a*a) false,.b ((H.length:Int) != 4) false,.l [] [44,43,42,1,3] [1] (qab Tryz.f47 0) (qb0 a A 0 C a b A G H S) (.exit 0) (qed a U f c J E K L),.l [] [57,56,55,1,3] [1] (qab Tryz.f47 1) (qbj a E 0 U f c J E K L) (.exit 2) (qeV a M d e N P F Q),.l [] [100,99,98,3,1] [1] (qab Tryz.f47 2) (qbq a F 0 M d e N P F Q) (.exit 4) (qf3 a V g i W X Y R),.l [] [130,129,128,3] [] (qab Tryz.f47 3) (qcq a R 0) .ret (qeW q)]):
 Rt 47 [.agg (cl C a b A G H S)] [cB q]:=
 h.of
theorem qu3(h:Oo [.r 59 [.agg (gr C a b)] [cB q],.n q false,.b ((A.length:Int) != a) false,.v (a*a),.b ((G.length:Int) != a*a) false,.b ((H.length:Int) != 4) false,.l [] [44,43,42,1,3] [1] (qab Tryz.f47 0) (qb0 a A 0 C a b A G H S) (.exit 0) (qed a U f c J E K L),.l [] [57,56,55,1,3] [1] (qab Tryz.f47 1) (qbj a E 0 U f c J E K L) (.exit 2) (qeV a M d e N P F Q),.l [] [100,99,98,3,1] [1] (qab Tryz.f47 2) (qbq a F 0 M d e N P F Q) (.exit 4) (qf3 a V g i W X Y R),.l [] [130,129,128,3] [] (qab Tryz.f47 3) (qcq a R 0) (.exit 6) qh8]):
 Rt 47 [.agg (cl C a b A G H S)] [cB true]:=
 h.of
end Go.Proofs.YtenekpkjlgddnaaGreat
