import Derived.Test.YtdkobdhckkjmeaaGreatRows
import Derived.Test.YtdkobdhckkjmeaaGreatGE
set_option linter.unusedVariables false
set_option linter.unusedSimpArgs false
namespace Go.Proofs.YtdkobdhckkjmeaaGreat
open Go.Sx Go.RowKit
variable {a b c d e f g i j k l : Int} {A C E F G H J K L M N P Q R S U V W X Y : LL} {q r s t u : Bool}
theorem qFs(h:Oo [.b (decide (a<1)) true]):
 Rt 245 [cI b,cI a] [cI 0]:=
 h.of
def y1W(a:Int)(l:List O):List O:=.b (decide (a<1)) false::.p (a≠0)::l
theorem qFt(h:Oo (y1W a [.b (decide (b.tmod a<0)) true,.v (b.tmod a+a)])):
 Rt 245 [cI b,cI a] [cI (b.tmod a+a)]:=
 h.of
theorem qFu(h:Oo (y1W a [.b (decide (b.tmod a<0)) false])):
 Rt 245 [cI b,cI a] [cI (b.tmod a)]:=
 h.of
theorem qFv(h:Oo [.b (decide (a<1)) true]):
 Rt 148 [cI b,cI a] [cI 0]:=
 h.of
theorem qFw(h:Oo (y1W a [.b (decide (b.tmod a<0)) true,.v (b.tmod a+a)])):
 Rt 148 [cI b,cI a] [cI (b.tmod a+a)]:=
 h.of
theorem qFx(h:Oo (y1W a [.b (decide (b.tmod a<0)) false])):
 Rt 148 [cI b,cI a] [cI (b.tmod a)]:=
 h.of
def qer(A:LL)(a:Int):St:=
 { env:=envOf 21 [(0,vF 4 A),(3,vI a)],boxes:=[] }
def qmQ(q:Bool):St:=
 { env:=envOf 21 [(2,.al (.one (.sb q)))],boxes:=[] }
def y1X(A:LL)(a b c d e f g i j k:Int)(l:List O):List O:=.f A a true::.v (a-1)::.p (0≤a-1)::.p (a-1<(A.length:Int))::.e A ((a-1).toNat) [I b,I c,I d,I e]::.x A a [I f,I g,I i,I j]::.r 313 [.agg [I b,I c,I d,I e],.agg [I f,I g,I i,I j]] [cI k]::l
theorem qFR(h:Oo (y1X A a c d e f g i j k b [.b (decide (b≥0)) true])):
 Tp (qaa Tryz.f278 0) (qer A a) .ret (qmQ false):=
 h.lp [2] []
theorem qFS(h:Oo (y1X A a c d e f g i j k b [.b (decide (b≥0)) false,.u a])):
 Tp (qaa Tryz.f278 0) (qer A a) .normal (qer A (a+1)):=
 h.lp [3,0] []
def qrL:St:=
 { env:=envOf 21 [],boxes:=[] }
theorem qFT(h:Oo [.f A a false]):
 Tp (qaa Tryz.f278 0) (qer A a) (.exit 0) qrL:=
 h.lp [] []
theorem qFU(h:Oo [.l [] [3,0] [] (qaa Tryz.f278 0) (qer A 1) .ret (qmQ q)]):
 Rt 278 [cS 4 A] [cB q]:=
 h.of
theorem qFV(h:Oo [.l [] [3,0] [] (qaa Tryz.f278 0) (qer A 1) (.exit 0) qrL]):
 Rt 278 [cS 4 A] [cB true]:=
 h.of
def qet(A:LL)(a:Int)(C:LL)(b c:Int):St:=
 { env:=envOf 24 [(2,vP 2),(7,vF 5 A),(8,vI (A.length:Int)),(9,vI a)],boxes:=[(2,[.sl .free 4 C,lI b,lI c])] }
def qjP(q:Bool):St:=
 { env:=envOf 24 [(4,.al (.one (.sb q)))],boxes:=[] }
def y1Y(A:LL)(a b c d e f:Int)(q:Bool)(l:List O):List O:=.i A a (ri b c d e f)::.r 145 [.agg (ri b c d e f)] [cB q]::l
theorem qF2(h:Oo (y1Y A d e f a b c q [.n q true])):
 Tp (qaa Tryz.f174 0) (qet A d C g i) .ret (qjP false):=
 h.lp [4] []
theorem qF3(h:Oo (y1Y A e a i b c d q [.n q false,.r 250 [.agg (gr C f g),cI a] [cB r],.n r true])):
 Tp (qaa Tryz.f174 0) (qet A e C f g) .ret (qjP false):=
 h.lp [4] []
theorem qF4(h:Oo (y1Y A a d i e f g q [.n q false,.r 250 [.agg (gr C b c),cI d] [cB r],.n r false,.u a])):
 Tp (qaa Tryz.f174 0) (qet A a C b c) .normal (qet A (a+1) C b c):=
 h.lp [9,8,7,2] [2]
def qrN:St:=
 { env:=envOf 24 [],boxes:=[] }
theorem qF5(h:Oo [.f A a false]):
 Tp (qaa Tryz.f174 0) (qet A a C b c) (.exit 0) qrN:=
 h.lp [] []
theorem qF6(h:Oo [.l [] [9,8,7,2] [2] (qaa Tryz.f174 0) (qet C 0 A a b) .ret (qjP q)]):
 Rt 174 [.agg (gr A a b),cS 5 C] [cB q]:=
 h.of
theorem qF7(h:Oo [.l [] [9,8,7,2] [2] (qaa Tryz.f174 0) (qet C 0 A a b) (.exit 0) qrN]):
 Rt 174 [.agg (gr A a b),cS 5 C] [cB true]:=
 h.of
def y20(A:LL)(a b:Int)(C:LL)(q:Bool)(l:List O):List O:=.r 174 [.agg (gr A a b),cS 5 C] [cB q]::l
theorem qGz(h:Oo (y20 A a b C q [.n q true])):
 Rt 172 [.agg (gr A a b),.agg (wk C F G H J K L E)] [cB false]:=
 h.of
def y21(A:LL)(a b:Int)(C:LL)(q:Bool)(E:LL)(r:Bool)(l:List O):List O:=y20 A a b C q (.n q false::.r 174 [.agg (gr A a b),cS 5 E] [cB r]::l)
theorem qGA(h:Oo (y21 A a b C q E r [.n r true])):
 Rt 172 [.agg (gr A a b),.agg (wk C E G H J K L F)] [cB false]:=
 h.of
def y22(A:LL)(a b:Int)(C:LL)(q:Bool)(E:LL)(r:Bool)(F:LL)(s:Bool)(l:List O):List O:=y21 A a b C q E r (.n r false::.r 174 [.agg (gr A a b),cS 5 F] [cB s]::l)
theorem qGB(h:Oo (y22 A a b C q E r F s [.n s true])):
 Rt 172 [.agg (gr A a b),.agg (wk C E F H J K L G)] [cB false]:=
 h.of
def y23(A:LL)(a b:Int)(C:LL)(q:Bool)(E:LL)(r:Bool)(F:LL)(s:Bool)(G:LL)(t:Bool)(l:List O):List O:=y22 A a b C q E r F s (.n s false::.r 278 [cS 4 G] [cB t]::l)
theorem qGC(h:Oo (y23 A a b C q E r F s G t [.n t true])):
 Rt 172 [.agg (gr A a b),.agg (wk C E F G J K L H)] [cB false]:=
 h.of
def qbT(A:LL)(a:Int)(C E F G H J K L:LL):St:=
 { env:=envOf 121 [(3,vP 3),(37,vF 5 A),(38,vI (A.length:Int)),(39,vI a)],boxes:=[(3,[.sl .free 5 C,.sl .free 5 E,.sl .free 5 F,.sl .free 4 G,.sl .free 1 H,.sl .free 1 J,.sl .free 1 K,.sl .free 2 L])] }
def qhL(q:Bool):St:=
 { env:=envOf 121 [(4,.al (.one (.sb q)))],boxes:=[] }
theorem qGD(h:Oo [.i A a (ri b c d e f),.b (b != 0) true]):
 Tp (qaa Tryz.f172 0) (qbT A a C E F G H J K L) .ret (qhL false):=
 h.lp [4] []
theorem qGE(h:Oo [.i A a (ri b d c e f),.b (b != 0) false,.b (c != 0) true]):
 Tp (qaa Tryz.f172 0) (qbT A a C E F G H J K L) .ret (qhL false):=
 h.lp [4] []
def y1Z(A:LL)(a b c d e f:Int)(C:LL)(g i j k m:Int)(l:List O):List O:=.i A a (ri b c d e f)::.b (b != 0) false::.b (d != 0) false::.b (decide (a>0)) true::.v (a-1)::.p (0≤a-1)::.p (a-1<(C.length:Int))::.e C ((a-1).toNat) (ri g i j k m)::l
theorem qGF(h:Oo (y1Z C a b c d f g A i e j k l [.b (decide (e>c)) true])):
 Tp (qaa Tryz.f172 0) (qbT C a E F A G H J K L) .ret (qhL false):=
 h.lp [4] []
theorem qGG(h:Oo (y1Z C a b c d f g A i e j k l [.b (decide (e>c)) false,.u a])):
 Tp (qaa Tryz.f172 0) (qbT C a E F A G H J K L) .normal (qbT C (a+1) E F A G H J K L):=
 h.lp [39,38,37,3] [3]
theorem qGH(h:Oo [.i A a (ri b d c e f),.b (b != 0) false,.b (c != 0) false,.b (decide (a>0)) false,.u a]):
 Tp (qaa Tryz.f172 0) (qbT A a C E F G H J K L) .normal (qbT A (a+1) C E F G H J K L):=
 h.lp [39,38,37,3] [3]
def qev(A C E F G H J K:LL):St:=
 { env:=envOf 121 [(3,vP 3)],boxes:=[(3,[.sl .free 5 A,.sl .free 5 C,.sl .free 5 E,.sl .free 4 F,.sl .free 1 G,.sl .free 1 H,.sl .free 1 J,.sl .free 2 K])] }
theorem qGI(h:Oo [.f L a false]):
 Tp (qaa Tryz.f172 0) (qbT L a A C E F G H J K) (.exit 0) (qev A C E F G H J K):=
 h.lp [3] [3]
theorem qGJ(h:Oo (y23 A a b E q F r C s G t [.n t false,.l [] [39,38,37,3] [3] (qaa Tryz.f172 0) (qbT C 0 E F C G J K L H) .ret (qhL u)])):
 Rt 172 [.agg (gr A a b),.agg (wk E F C G J K L H)] [cB u]:=
 h.of
def y24(A:LL)(a b:Int)(C:LL)(q:Bool)(E:LL)(r:Bool)(F:LL)(s:Bool)(G:LL)(t:Bool)(W:Code)(H J K L M N P Q R S U V:LL)(l:List O):List O:=y23 A a b C q E r F s G t (.n t false::.l [] [39,38,37,3] [3] W (qbT F 0 C E F G H J K L) (.exit 0) (qev M N P Q R S U V)::l)
theorem qGK(h:Oo (y24 A a b E q F r C s G t (qaa Tryz.f172 0) K L M H N P Q R J S U V [.b ((J.length:Int) != 4) true])):
 Rt 172 [.agg (gr A a b),.agg (wk E F C G K L M H)] [cB false]:=
 h.of
theorem qGL(h:Oo (y24 A a b E q F r C s G t (qaa Tryz.f172 0) L M N H P Q R S J K U V [.b ((J.length:Int) != 4) false,.b ((K.length:Int) != 4) true])):
 Rt 172 [.agg (gr A a b),.agg (wk E F C G L M N H)] [cB false]:=
 h.of
def y25(A:LL)(a b:Int)(C:LL)(q:Bool)(E:LL)(r:Bool)(F:LL)(s:Bool)(G:LL)(t:Bool)(W:Code)(H J K L M N P Q R S U V:LL)(l:List O):List O:=y24 A a b C q E r F s G t W H J K L M N P Q R S U V (.b ((R.length:Int) != 4) false::.b ((S.length:Int) != 4) false::l)
theorem qGM(h:Oo (y25 A a b E q F r C s G t (qaa Tryz.f172 0) M N P H Q R S U J K L V [.b ((L.length:Int) != 4) true])):
 Rt 172 [.agg (gr A a b),.agg (wk E F C G M N P H)] [cB false]:=
 h.of
def qew(C E F G A H J K:LL)(a:Int):St:=
 { env:=envOf 121 [(3,vP 3),(89,vF 1 A),(90,vI (A.length:Int)),(91,vI a)],boxes:=[(3,[.sl .free 5 C,.sl .free 5 E,.sl .free 5 F,.sl .free 4 G,.sl .free 1 A,.sl .free 1 H,.sl .free 1 J,.sl .free 2 K])] }
def qmV(q:Bool):St:=
 { env:=envOf 121 [(4,.al (.one (.sb q)))],boxes:=[] }
theorem qGN(h:Oo [.i A a [I b],.r 158 [cI b,cI (-1000000),cI 1000000] [cB q],.n q true]):
 Tp (qaa Tryz.f172 1) (qew C E F G A H J K a) .ret (qmV false):=
 h.lp [4] []
theorem qGO(h:Oo [.i A a [I b],.r 158 [cI b,cI (-1000000),cI 1000000] [cB q],.n q false,.u a]):
 Tp (qaa Tryz.f172 1) (qew C E F G A H J K a) .normal (qew C E F G A H J K (a+1)):=
 h.lp [91,90,89,3] [3]
def qmW(A C E F G H J K:LL):St:=
 { env:=envOf 121 [(3,vP 3)],boxes:=[(3,[.sl .free 5 A,.sl .free 5 C,.sl .free 5 E,.sl .free 4 F,.sl .free 1 G,.sl .free 1 H,.sl .free 1 J,.sl .free 2 K])] }
theorem qGP(h:Oo [.f A a false]):
 Tp (qaa Tryz.f172 1) (qew C E F G A H J K a) (.exit 2) (qmW C E F G A H J K):=
 h.lp [3] [3]
theorem qGQ(h:Oo (y25 A a b H q J r C s K t (qaa Tryz.f172 0) S U V L M N P Q E F G R [.b ((G.length:Int) != 4) false,.l [] [91,90,89,3] [3] (qaa Tryz.f172 1) (qew M N P Q E F G R 0) .ret (qmV u)])):
 Rt 172 [.agg (gr A a b),.agg (wk H J C K S U V L)] [cB u]:=
 h.of
def qdA(A:LL)(a:Int)(C E F G H J K L:LL):St:=
 { env:=envOf 121 [(3,vP 3),(100,vF 2 A),(101,vI (A.length:Int)),(102,vI a)],boxes:=[(3,[.sl .free 5 C,.sl .free 5 E,.sl .free 5 F,.sl .free 4 G,.sl .free 1 H,.sl .free 1 J,.sl .free 1 K,.sl .free 2 L])] }
def qjS(q:Bool):St:=
 { env:=envOf 121 [(4,.al (.one (.sb q)))],boxes:=[] }
theorem qGR(h:Oo [.i A a [I b,B r],.r 158 [cI b,cI 0,cI 3] [cB q],.n q true]):
 Tp (qaa Tryz.f172 2) (qdA A a C E F G H J K L) .ret (qjS false):=
 h.lp [4] []
def y26(A:LL)(a b:Int)(q r:Bool)(C:LL)(s:Bool)(l:List O):List O:=.i A a [I b,B q]::.r 158 [cI b,cI 0,cI 3] [cB r]::.n r false::.p ((0:Int)≤none.getD 0)::.p (none.getD 0≤(some a).getD (C.length:Int))::.p ((some a).getD (C.length:Int)≤(C.length:Int))::.r 271 [.one (.sl 2 (List.take (((some a).getD (C.length:Int)).toNat-0) (List.drop 0 C))),cI b] [cB s]::l
theorem qGS(h:Oo (y26 C a b s q A r [.b r true])):
 Tp (qaa Tryz.f172 2) (qdA C a E F G H J K L A) .ret (qjS false):=
 h.lp [4] []
theorem qGT(h:Oo (y26 C a b s q A r [.b r false,.u a])):
 Tp (qaa Tryz.f172 2) (qdA C a E F G H J K L A) .normal (qdA C (a+1) E F G H J K L A):=
 h.lp [102,101,100,3] [3]
def qmX:St:=
 { env:=envOf 121 [],boxes:=[] }
theorem qGU(h:Oo [.f A a false]):
 Tp (qaa Tryz.f172 2) (qdA A a C E F G H J K L) (.exit 4) qmX:=
 h.lp [] []
theorem qGV(h:Oo (y25 G a b N q P r M s Q t (qaa Tryz.f172 0) S U V R H J K L A C E F [.b ((E.length:Int) != 4) false,.l [] [91,90,89,3] [3] (qaa Tryz.f172 1) (qew H J K L A C E F 0) (.exit 2) (qmW H J K L A C E F),.l [] [102,101,100,3] [3] (qaa Tryz.f172 2) (qdA F 0 H J K L A C E F) .ret (qjS u)])):
 Rt 172 [.agg (gr G a b),.agg (wk N P M Q S U V R)] [cB u]:=
 h.of
theorem qGW(h:Oo (y25 G a b N q P r M s Q t (qaa Tryz.f172 0) S U V R H J K L A C E F [.b ((E.length:Int) != 4) false,.l [] [91,90,89,3] [3] (qaa Tryz.f172 1) (qew H J K L A C E F 0) (.exit 2) (qmW H J K L A C E F),.l [] [102,101,100,3] [3] (qaa Tryz.f172 2) (qdA F 0 H J K L A C E F) (.exit 4) qmX])):
 Rt 172 [.agg (gr G a b),.agg (wk N P M Q S U V R)] [cB true]:=
 h.of
def y27(a:Int)(q:Bool)(l:List O):List O:=.r 158 [cI a,cI 1,cI 4] [cB q]::l
theorem qG8(h:Oo (y27 a q [.n q true])):
 Rt 173 [.agg (lk a A b c d e)] [cB false]:=
 h.of
def y28(a:Int)(q:Bool)(b:Int)(r:Bool)(l:List O):List O:=y27 a q (.n q false::.r 158 [cI b,cI 0,cI a] [cB r]::l)
theorem qG9(h:Oo (y28 a q b r [.n r true])):
 Rt 173 [.agg (lk a A b c d e)] [cB false]:=
 h.of
def y29(a:Int)(q:Bool)(b:Int)(r:Bool)(c:Int)(s:Bool)(l:List O):List O:=y28 a q b r (.n r false::.r 158 [cI c,cI 0,cI a] [cB s]::l)
theorem qHa(h:Oo (y29 a q b r c s [.n s true])):
 Rt 173 [.agg (lk a A b c d e)] [cB false]:=
 h.of
def y2a(a:Int)(q:Bool)(b:Int)(r:Bool)(c:Int)(s:Bool)(A:LL)(l:List O):List O:=y29 a q b r c s (.n s false::.v (b+c)::.v (b+c+(A.length:Int))::l)
theorem qHb(h:Oo (y2a a q b r c s A [.b (b+c+(A.length:Int) != a) true])):
 Rt 173 [.agg (lk a A b c d e)] [cB false]:=
 h.of
def y2b(a:Int)(q:Bool)(b:Int)(r:Bool)(c:Int)(s:Bool)(A:LL)(d:Int)(t:Bool)(l:List O):List O:=y2a a q b r c s A (.b (b+c+(A.length:Int) != a) false::.r 158 [cI d,cI 0,cI 1000000000] [cB t]::l)
theorem qHc(h:Oo (y2b a q b r c s A d t [.n t true])):
 Rt 173 [.agg (lk a A b c d e)] [cB false]:=
 h.of
theorem qHd(h:Oo (y2b a q b r c s A d t [.n t false,.b (decide (e<0)) true])):
 Rt 173 [.agg (lk a A b c d e)] [cB false]:=
 h.of
theorem qHe(h:Oo (y2b a q b r c s A d t [.n t false,.b (decide (e<0)) false,.v (d-e),.b (d-e != (A.length:Int)) true])):
 Rt 173 [.agg (lk a A b c d e)] [cB false]:=
 h.of
theorem qHf(h:Oo (y2b a r b s c t A d u [.n u false,.b (decide (e<0)) false,.v (d-e),.b (d-e != (A.length:Int)) false,.r 279 [cS 5 A] [cB q]])):
 Rt 173 [.agg (lk a A b c d e)] [cB q]:=
 h.of
def qfy(A:LL)(a:Int):St:=
 { env:=envOf 15 [(5,vF 5 A),(6,vI (A.length:Int)),(7,vI a)],boxes:=[] }
def qmZ(q:Bool):St:=
 { env:=envOf 15 [(2,.al (.one (.sb q)))],boxes:=[] }
theorem qHg(h:Oo (y1Y A a b c d e f q [.n q true])):
 Tp (qaa Tryz.f279 0) (qfy A a) .ret (qmZ false):=
 h.lp [2] []
theorem qHh(h:Oo (y1Y A a b c d e f q [.n q false,.u a])):
 Tp (qaa Tryz.f279 0) (qfy A a) .normal (qfy A (a+1)):=
 h.lp [7,6,5] []
def qrO:St:=
 { env:=envOf 15 [],boxes:=[] }
theorem qHi(h:Oo [.f A a false]):
 Tp (qaa Tryz.f279 0) (qfy A a) (.exit 0) qrO:=
 h.lp [] []
theorem qHj(h:Oo [.l [] [7,6,5] [] (qaa Tryz.f279 0) (qfy A 0) .ret (qmZ q)]):
 Rt 279 [cS 5 A] [cB q]:=
 h.of
theorem qHk(h:Oo [.l [] [7,6,5] [] (qaa Tryz.f279 0) (qfy A 0) (.exit 0) qrO]):
 Rt 279 [cS 5 A] [cB true]:=
 h.of
def y2c(A:LL)(a b:Int)(q:Bool)(l:List O):List O:=.r 144 [.agg (gr A a b)] [cB q]::l
theorem qHP(h:Oo (y2c A a b q [.n q true])):
 Rt 55 [.agg (cl A a b C E F G)] [cB false]:=
 h.of
theorem qHQ(h:Oo (y2c A a b q [.n q false,.b ((C.length:Int) != a) true])):
 Rt 55 [.agg (cl A a b C E F G)] [cB false]:=
 h.of
def y2d(A:LL)(a b:Int)(q:Bool)(C:LL)(l:List O):List O:=y2c A a b q (.n q false::.b ((C.length:Int) != a) false::.v (a*a)::l)
theorem qHR(h:Oo (y2d A a b q C [.b ((E.length:Int) != a*a) true])):
 Rt 55 [.agg (cl A a b C E F G)] [cB false]:=
 h.of
def y2e(A:LL)(a b:Int)(q:Bool)(C E:LL)(l:List O):List O:=y2d A a b q C (.b ((E.length:Int) != a*a) false::l)
theorem qHS(h:Oo (y2e A a b q C E [.b ((F.length:Int) != 4) true])):
 Rt 55 [.agg (cl A a b C E F G)] [cB false]:=
 h.of
def qcW(a:Int)(A:LL)(b:Int)(C:LL)(c d:Int)(E F G H:LL):St:=
 { env:=envOf 147 [(1,vP 1),(3,vI a),(42,vF 8 A),(43,vI (A.length:Int)),(44,vI b)],boxes:=[(1,[.sl .free 4 C,lI c,lI d,.sl .free 8 E,.sl .free 6 F,.sl .free 5 G,.sl .free 3 H])] }
def qjV(q:Bool):St:=
 { env:=envOf 147 [(2,.al (.one (.sb q)))],boxes:=[] }
theorem qHT(h:Oo [.i L c (wk A C E F G H J K),.r 172 [.agg (gr M a b),.agg (wk A C E F G H J K)] [cB q],.n q true]):
 Tp (qaa Tryz.f55 0) (qcW d L c M a b N P Q R) .ret (qjV false):=
 h.lp [2] []
theorem qHU(h:Oo [.i A a (wk J K L M N P Q R),.r 172 [.agg (gr C b c),.agg (wk J K L M N P Q R)] [cB q],.n q false,.u a]):
 Tp (qaa Tryz.f55 0) (qcW d A a C b c E F G H) .normal (qcW d A (a+1) C b c E F G H):=
 h.lp [44,43,42,1,3] [1]
def qgz(a:Int)(A:LL)(b c:Int)(C E F G:LL):St:=
 { env:=envOf 147 [(1,vP 1),(3,vI a)],boxes:=[(1,[.sl .free 4 A,lI b,lI c,.sl .free 8 C,.sl .free 6 E,.sl .free 5 F,.sl .free 3 G])] }
theorem qHV(h:Oo [.f G d false]):
 Tp (qaa Tryz.f55 0) (qcW a G d H b c A C E F) (.exit 0) (qgz a H b c A C E F):=
 h.lp [1,3] [1]
def y2f(A:LL)(a b:Int)(q:Bool)(C E F:LL)(l:List O):List O:=y2e A a b q C E (.b ((F.length:Int) != 4) false::l)
theorem qHW(h:Oo (y2f C a b q A E F [.l [] [44,43,42,1,3] [1] (qaa Tryz.f55 0) (qcW a A 0 C a b A E F G) .ret (qjV r)])):
 Rt 55 [.agg (cl C a b A E F G)] [cB r]:=
 h.of
def qb9(a:Int)(A:LL)(b:Int)(C:LL)(c d:Int)(E F G H:LL):St:=
 { env:=envOf 147 [(1,vP 1),(3,vI a),(55,vF 6 A),(56,vI (A.length:Int)),(57,vI b)],boxes:=[(1,[.sl .free 4 C,lI c,lI d,.sl .free 8 E,.sl .free 6 F,.sl .free 5 G,.sl .free 3 H])] }
def qgA(q:Bool):St:=
 { env:=envOf 147 [(2,.al (.one (.sb q)))],boxes:=[] }
def y2h(A:LL)(a b:Int)(C:LL)(c d e f:Int)(q:Bool)(l:List O):List O:=.i A a (lk b C c d e f)::.r 173 [.agg (lk b C c d e f)] [cB q]::l
theorem qHX(h:Oo (y2h A a b C c d e f q [.n q true])):
 Tp (qaa Tryz.f55 1) (qb9 g A a E i j F G H J) .ret (qgA false):=
 h.lp [2] []
theorem qHY(h:Oo (y2h A b a C d e f g q [.n q false,.b (a != c) true])):
 Tp (qaa Tryz.f55 1) (qb9 i A b E j c F G H J) .ret (qgA false):=
 h.lp [2] []
def y2i(A:LL)(a b:Int)(C:LL)(c d e f:Int)(q:Bool)(g:Int)(E:LL)(i:Int)(r:Bool)(l:List O):List O:=y2h A a b C c d e f q (.n q false::.b (b != g) false::.r 174 [.agg (gr E i g),cS 5 C] [cB r]::l)
theorem qHZ(h:Oo (y2i C c b A e f g i q a E d r [.n r true])):
 Tp (qaa Tryz.f55 1) (qb9 j C c E d a F G H J) .ret (qgA false):=
 h.lp [2] []
theorem qH0(h:Oo (y2i C b d A f g i j q c E e r [.n r false,.p (a≠0),.v (b.tdiv a),.p (a≠0),.b (b.tdiv a==b.tmod a) true,.b (decide ((A.length:Int)>0)) true])):
 Tp (qaa Tryz.f55 1) (qb9 a C b E e c F G H J) .ret (qgA false):=
 h.lp [2] []
theorem qH1(h:Oo (y2i C b e A f g i j q c E d r [.n r false,.p (a≠0),.v (b.tdiv a),.p (a≠0),.b (b.tdiv a==b.tmod a) true,.b (decide ((A.length:Int)>0)) false,.u b])):
 Tp (qaa Tryz.f55 1) (qb9 a C b E d c F G H J) .normal (qb9 a C (b+1) E d c F G H J):=
 h.lp [57,56,55,1,3] [1]
theorem qH2(h:Oo (y2i A b e E f g i j q c C d r [.n r false,.p (a≠0),.v (b.tdiv a),.p (a≠0),.b (b.tdiv a==b.tmod a) false,.u b])):
 Tp (qaa Tryz.f55 1) (qb9 a A b C d c F G H J) .normal (qb9 a A (b+1) C d c F G H J):=
 h.lp [57,56,55,1,3] [1]
def qhO(a:Int)(A:LL)(b c:Int)(C E F G:LL):St:=
 { env:=envOf 147 [(1,vP 1),(3,vI a)],boxes:=[(1,[.sl .free 4 A,lI b,lI c,.sl .free 8 C,.sl .free 6 E,.sl .free 5 F,.sl .free 3 G])] }
theorem qH3(h:Oo [.f A b false]):
 Tp (qaa Tryz.f55 1) (qb9 a A b C c d E F G H) (.exit 2) (qhO a C c d E F G H):=
 h.lp [1,3] [1]
def y2g(A:LL)(a b:Int)(q:Bool)(C E F:LL)(W:Code)(G H:LL)(c d:Int)(J K L M:LL)(l:List O):List O:=y2f A a b q C E F (.l [] [44,43,42,1,3] [1] W (qcW a C 0 A a b C E F G) (.exit 0) (qgz a H c d J K L M)::l)
theorem qH4(h:Oo (y2g C a b r A F G (qaa Tryz.f55 0) L M d c H E J K [.l [] [57,56,55,1,3] [1] (qaa Tryz.f55 1) (qb9 a E 0 M d c H E J K) .ret (qgA q)])):
 Rt 55 [.agg (cl C a b A F G L)] [cB q]:=
 h.of
def qcm(a:Int)(A:LL)(b:Int)(C:LL)(c d:Int)(E F G H:LL):St:=
 { env:=envOf 147 [(1,vP 1),(3,vI a),(98,vF 5 A),(99,vI (A.length:Int)),(100,vI b)],boxes:=[(1,[.sl .free 4 C,lI c,lI d,.sl .free 8 E,.sl .free 6 F,.sl .free 5 G,.sl .free 3 H])] }
def qfA(q:Bool):St:=
 { env:=envOf 147 [(2,.al (.one (.sb q)))],boxes:=[] }
def y2j(A:LL)(a:Int)(q:Bool)(b c:Int)(r s:Bool)(d:Int)(t:Bool)(l:List O):List O:=.i A a [B q,I b,I c,B r,B s]::.v (d-1)::.r 158 [cI b,cI 0,cI (d-1)] [cB t]::l
theorem qH5(h:Oo (y2j A b r c f s t a q [.n q true])):
 Tp (qaa Tryz.f55 2) (qcm a A b C d e E F G H) .ret (qfA false):=
 h.lp [2] []
theorem qH6(h:Oo (y2j A c q b f s t a r [.n r false,.n q true,.b (b != 0) true])):
 Tp (qaa Tryz.f55 2) (qcm a A c C d e E F G H) .ret (qfA false):=
 h.lp [2] []
theorem qH7(h:Oo (y2j A c q b d t u a r [.n r false,.n q true,.b (b != 0) false,.r 158 [cI d,cI (-1000000),cI 1000000] [cB s],.n s true])):
 Tp (qaa Tryz.f55 2) (qcm a A c C e f E F G H) .ret (qfA false):=
 h.lp [2] []
theorem qH8(h:Oo (y2j A b q c f t u a r [.n r false,.n q true,.b (c != 0) false,.r 158 [cI f,cI (-1000000),cI 1000000] [cB s],.n s false,.u b])):
 Tp (qaa Tryz.f55 2) (qcm a A b C d e E F G H) .normal (qcm a A (b+1) C d e E F G H):=
 h.lp [100,99,98,3,1] [1]
theorem qH9(h:Oo (y2j A b q c d t u a r [.n r false,.n q false,.r 158 [cI d,cI (-1000000),cI 1000000] [cB s],.n s true])):
 Tp (qaa Tryz.f55 2) (qcm a A b C e f E F G H) .ret (qfA false):=
 h.lp [2] []
theorem qIa(h:Oo (y2j A b q e f t u a r [.n r false,.n q false,.r 158 [cI f,cI (-1000000),cI 1000000] [cB s],.n s false,.u b])):
 Tp (qaa Tryz.f55 2) (qcm a A b C c d E F G H) .normal (qcm a A (b+1) C c d E F G H):=
 h.lp [100,99,98,3,1] [1]
def qjW(a:Int)(A:LL)(b c:Int)(C E F G:LL):St:=
 { env:=envOf 147 [(1,vP 1),(3,vI a)],boxes:=[(1,[.sl .free 4 A,lI b,lI c,.sl .free 8 C,.sl .free 6 E,.sl .free 5 F,.sl .free 3 G])] }
theorem qIb(h:Oo [.f A b false]):
 Tp (qaa Tryz.f55 2) (qcm a A b C c d E F G H) (.exit 4) (qjW a C c d E F G H):=
 h.lp [1,3] [1]
theorem qIc(h:Oo (y2g C a b r A G H (qaa Tryz.f55 0) R S f c J E K L [.l [] [57,56,55,1,3] [1] (qaa Tryz.f55 1) (qb9 a E 0 S f c J E K L) (.exit 2) (qhO a M d e N P F Q),.l [] [100,99,98,3,1] [1] (qaa Tryz.f55 2) (qcm a F 0 M d e N P F Q) .ret (qfA q)])):
 Rt 55 [.agg (cl C a b A G H R)] [cB q]:=
 h.of
def qdC(a:Int)(A:LL)(b:Int):St:=
 { env:=envOf 147 [(3,vI a),(128,vF 3 A),(129,vI (A.length:Int)),(130,vI b)],boxes:=[] }
def qhP(q:Bool):St:=
 { env:=envOf 147 [(2,.al (.one (.sb q)))],boxes:=[] }
theorem qId(h:Oo [.i A b [I c,I d,B r],.v (a-1),.r 158 [cI c,cI 0,cI (a-1)] [cB q],.n q true]):
 Tp (qaa Tryz.f55 3) (qdC a A b) .ret (qhP false):=
 h.lp [2] []
theorem qIe(h:Oo [.i A b [I c,I d,B s],.v (a-1),.r 158 [cI c,cI 0,cI (a-1)] [cB q],.n q false,.r 158 [cI d,cI 0,cI 3] [cB r],.n r true]):
 Tp (qaa Tryz.f55 3) (qdC a A b) .ret (qhP false):=
 h.lp [2] []
theorem qIf(h:Oo [.i A b [I c,I d,B s],.v (a-1),.r 158 [cI c,cI 0,cI (a-1)] [cB q],.n q false,.r 158 [cI d,cI 0,cI 3] [cB r],.n r false,.u b]):
 Tp (qaa Tryz.f55 3) (qdC a A b) .normal (qdC a A (b+1)):=
 h.lp [130,129,128,3] []
def qm1:St:=
 { env:=envOf 147 [],boxes:=[] }
theorem qIg(h:Oo [.f A a false]):
 Tp (qaa Tryz.f55 3) (qdC b A a) (.exit 6) qm1:=
 h.lp [] []
theorem qIh(h:Oo (y2g C a b r A G H (qaa Tryz.f55 0) S U f c J E K L [.l [] [57,56,55,1,3] [1] (qaa Tryz.f55 1) (qb9 a E 0 U f c J E K L) (.exit 2) (qhO a M d e N P F Q),.l [] [100,99,98,3,1] [1] (qaa Tryz.f55 2) (qcm a F 0 M d e N P F Q) (.exit 4) (qjW a V g i W X Y R),.l [] [130,129,128,3] [] (qaa Tryz.f55 3) (qdC a R 0) .ret (qhP q)])):
 Rt 55 [.agg (cl C a b A G H S)] [cB q]:=
 h.of
theorem qIi(h:Oo (y2g C a b q A G H (qaa Tryz.f55 0) S U f c J E K L [.l [] [57,56,55,1,3] [1] (qaa Tryz.f55 1) (qb9 a E 0 U f c J E K L) (.exit 2) (qhO a M d e N P F Q),.l [] [100,99,98,3,1] [1] (qaa Tryz.f55 2) (qcm a F 0 M d e N P F Q) (.exit 4) (qjW a V g i W X Y R),.l [] [130,129,128,3] [] (qaa Tryz.f55 3) (qdC a R 0) (.exit 6) qm1])):
 Rt 55 [.agg (cl C a b A G H S)] [cB true]:=
 h.of
end Go.Proofs.YtdkobdhckkjmeaaGreat
