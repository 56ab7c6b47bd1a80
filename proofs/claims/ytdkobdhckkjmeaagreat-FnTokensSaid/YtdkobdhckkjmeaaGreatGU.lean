import Derived.Test.YtdkobdhckkjmeaaGreatRows
import Derived.Test.YtdkobdhckkjmeaaGreatGE
set_option linter.unusedVariables false
set_option linter.unusedSimpArgs false
namespace Go.Proofs.YtdkobdhckkjmeaaGreat
open Go.Sx Go.RowKit
variable {a b c d e f g i j k l m n o p a0 b0 c0 d0 e0 f0 : Int} {A C E F G H J K L M N P Q R S U V W X Y Z : LL} {q r s t u v w x y z q0 r0 s0 t0 : Bool}
def qfl(A:LL)(a b:Int)(C E F G:LL)(c d e:Int):St:=
 { env:=envOf 36 [(1,vI c),(2,vP 2),(5,vI e),(6,vI d)],boxes:=[(2,[.sl .free 4 A,lI a,lI b,.sl .free 8 C,.sl .free 6 E,.sl .free 5 F,.sl .free 3 G])] }
theorem qEy(h:Oo [.i A a (wk K L M N E P Q R),.a .wr,.r 167 [cI b,cI 0,cI (IntKind.i64.wrap ((E.length:Int)-1))] [cB q],.b q true,.x A a (wk S U V W F X Y Z),.x F b [I e],.a .wr,.u a]):
 Tp (qaa Tryz.f48 0) (qfl C c d A G H J b a f) .normal (qfl C c d A G H J b (a+1) (IntKind.i64.wrap (f+e))):=
 h.lp [6,2,1,5] [2]
theorem qEz(h:Oo [.i A a (wk J K L M E N P Q),.a .wr,.r 167 [cI b,cI 0,cI (IntKind.i64.wrap ((E.length:Int)-1))] [cB q],.b q false,.u a]):
 Tp (qaa Tryz.f48 0) (qfl C c d A F G H b a e) .normal (qfl C c d A F G H b (a+1) e):=
 h.lp [6,2,1,5] [2]
def qrn(a:Int):St:=
 { env:=envOf 36 [(5,vI a)],boxes:=[] }
theorem qEA(h:Oo [.f A a false]):
 Tp (qaa Tryz.f48 0) (qfl C c d A E F G e a b) (.exit 0) (qrn b):=
 h.lp [5] []
theorem qEB(h:Oo [.l [] [6,2,1,5] [2] (qaa Tryz.f48 0) (qfl A a b C E F G c 0 0) (.exit 0) (qrn d)]):
 Rt 48 [.agg (cl A a b C E F G),cI c] [cI d]:=
 h.of
def qfm(A:LL)(a b c:Int):St:=
 { env:=envOf 30 [(1,vI a),(5,vI c),(9,vF 8 A),(10,vI (A.length:Int)),(11,vI b)],boxes:=[] }
theorem qEC(h:Oo [.i C b (wk E F G H A J K L),.a .wr,.r 158 [cI a,cI 0,cI (IntKind.i64.wrap ((A.length:Int)-1))] [cB q],.b q true,.x A a [I c],.a .wr,.u b]):
 Tp (qaa Tryz.f47 0) (qfm C a b d) .normal (qfm C a (b+1) (IntKind.i64.wrap (d+c))):=
 h.lp [11,10,9,1,5] []
theorem qED(h:Oo [.i A a (wk E F G H C J K L),.a .wr,.r 158 [cI b,cI 0,cI (IntKind.i64.wrap ((C.length:Int)-1))] [cB q],.b q false,.u a]):
 Tp (qaa Tryz.f47 0) (qfm A b a c) .normal (qfm A b (a+1) c):=
 h.lp [11,10,9,1,5] []
def qro(a:Int):St:=
 { env:=envOf 30 [(5,vI a)],boxes:=[] }
theorem qEE(h:Oo [.f A a false]):
 Tp (qaa Tryz.f47 0) (qfm A c a b) (.exit 0) (qro b):=
 h.lp [5] []
theorem qEF(h:Oo [.l [] [11,10,9,1,5] [] (qaa Tryz.f47 0) (qfm A a 0 0) (.exit 0) (qro b)]):
 Rt 47 [.agg (cl C c d A E F G),cI a] [cI b]:=
 h.of
def spec_TokensGoing_L0(A:LL)(a b:Int)(C E F G:LL)(c d:Int):St:=
 { env:=envOf 21 [(1,vP 1),(3,vI d),(4,vI c)],boxes:=[(1,[.sl .free 4 A,lI a,lI b,.sl .free 8 C,.sl .free 6 E,.sl .free 5 F,.sl .free 3 G])] }
def y2x(A:LL)(a:Int)(q:Bool)(b c:Int)(r s:Bool)(l:List O):List O:=.i A a [B q,I b,I c,B r,B s]::l
theorem spec_TokensGoing_L0_s0(h:Oo (y2x A a q e f r s [.b q true,.u b,.u a])):
 Tp (qaa Tryz.f46 0) (spec_TokensGoing_L0 C c d E F A G a b) .normal (spec_TokensGoing_L0 C c d E F A G (a+1) (b+1)):=
 h.lp [4,1,3] [1]
theorem spec_TokensGoing_L0_s1(h:Oo (y2x A a q e f r s [.b q false,.u a])):
 Tp (qaa Tryz.f46 0) (spec_TokensGoing_L0 C b c E F A G a d) .normal (spec_TokensGoing_L0 C b c E F A G (a+1) d):=
 h.lp [4,1,3] [1]
def spec_TokensGoing_X0(a:Int):St:=
 { env:=envOf 21 [(3,vI a)],boxes:=[] }
theorem spec_TokensGoing_L0_x2(h:Oo [.f A a false]):
 Tp (qaa Tryz.f46 0) (spec_TokensGoing_L0 C c d E F A G a b) (.exit 0) (spec_TokensGoing_X0 b):=
 h.lp [3] []
theorem spec_TokensGoing_p0(h:Oo [.l [] [4,1,3] [1] (qaa Tryz.f46 0) (spec_TokensGoing_L0 A a b C E F G 0 0) (.exit 0) (spec_TokensGoing_X0 c)]):
 Rt 46 [.agg (cl A a b C E F G)] [cI c]:=
 h.of
def impl_TokensGoing_L0(A:LL)(a b:Int):St:=
 { env:=envOf 19 [(3,vI b),(7,vF 5 A),(8,vI (A.length:Int)),(9,vI a)],boxes:=[] }
theorem impl_TokensGoing_L0_s0(h:Oo (y2x A a q c d r s [.b q true,.u b,.u a])):
 Tp (qaa Tryz.f45 0) (impl_TokensGoing_L0 A a b) .normal (impl_TokensGoing_L0 A (a+1) (b+1)):=
 h.lp [9,8,7,3] []
theorem impl_TokensGoing_L0_s1(h:Oo (y2x A a q c d r s [.b q false,.u a])):
 Tp (qaa Tryz.f45 0) (impl_TokensGoing_L0 A a b) .normal (impl_TokensGoing_L0 A (a+1) b):=
 h.lp [9,8,7,3] []
def impl_TokensGoing_X0(a:Int):St:=
 { env:=envOf 19 [(3,vI a)],boxes:=[] }
theorem impl_TokensGoing_L0_x2(h:Oo [.f A a false]):
 Tp (qaa Tryz.f45 0) (impl_TokensGoing_L0 A a b) (.exit 0) (impl_TokensGoing_X0 b):=
 h.lp [3] []
theorem impl_TokensGoing_p0(h:Oo [.l [] [9,8,7,3] [] (qaa Tryz.f45 0) (impl_TokensGoing_L0 A 0 0) (.exit 0) (impl_TokensGoing_X0 a)]):
 Rt 45 [.agg (cl C b c E F A G)] [cI a]:=
 h.of
theorem qEJ(h:Oo [.b (decide (a<1)) true]):
 Rt 245 [cI b,cI a] [cI 0]:=
 h.of
theorem qEK(h:Oo [.b (decide (a<1)) false,.p (a≠0),.b (decide (b.tmod a<0)) true,.v (b.tmod a+a)]):
 Rt 245 [cI b,cI a] [cI (b.tmod a+a)]:=
 h.of
theorem qEL(h:Oo [.b (decide (a<1)) false,.p (a≠0),.b (decide (b.tmod a<0)) false]):
 Rt 245 [cI b,cI a] [cI (b.tmod a)]:=
 h.of
def qej(A:LL)(a:Int):St:=
 { env:=envOf 21 [(0,vF 4 A),(3,vI a)],boxes:=[] }
def qmL(q:Bool):St:=
 { env:=envOf 21 [(2,.al (.one (.sb q)))],boxes:=[] }
def y2B(A:LL)(a b c d e f g i j:Int)(l:List O):List O:=.f A a true::.v (a-1)::.p (0≤a-1)::.p (a-1<(A.length:Int))::.e A ((a-1).toNat) [I b,I c,I d,I e]::.x A a [I f,I g,I i,I j]::l
theorem qE3(h:Oo (y2B A a c d e f g i j k [.r 306 [.agg [I c,I d,I e,I f],.agg [I g,I i,I j,I k]] [cI b],.b (decide (b≥0)) true])):
 Tp (qaa Tryz.f280 0) (qej A a) .ret (qmL false):=
 h.lp [2] []
theorem qE4(h:Oo (y2B A a c d e f g i j k [.r 306 [.agg [I c,I d,I e,I f],.agg [I g,I i,I j,I k]] [cI b],.b (decide (b≥0)) false,.u a])):
 Tp (qaa Tryz.f280 0) (qej A a) .normal (qej A (a+1)):=
 h.lp [3,0] []
def qrr:St:=
 { env:=envOf 21 [],boxes:=[] }
theorem qE5(h:Oo [.f A a false]):
 Tp (qaa Tryz.f280 0) (qej A a) (.exit 0) qrr:=
 h.lp [] []
theorem qE6(h:Oo [.l [] [3,0] [] (qaa Tryz.f280 0) (qej A 1) .ret (qmL q)]):
 Rt 280 [cS 4 A] [cB q]:=
 h.of
theorem qE7(h:Oo [.l [] [3,0] [] (qaa Tryz.f280 0) (qej A 1) (.exit 0) qrr]):
 Rt 280 [cS 4 A] [cB true]:=
 h.of
def qek(A:LL)(a:Int):St:=
 { env:=envOf 21 [(0,vF 4 A),(3,vI a)],boxes:=[] }
def qmM(q:Bool):St:=
 { env:=envOf 21 [(2,.al (.one (.sb q)))],boxes:=[] }
theorem qE8(h:Oo (y2B A a c d e f g i j k [.r 313 [.agg [I c,I d,I e,I f],.agg [I g,I i,I j,I k]] [cI b],.b (decide (b≥0)) true])):
 Tp (qaa Tryz.f278 0) (qek A a) .ret (qmM false):=
 h.lp [2] []
theorem qE9(h:Oo (y2B A a c d e f g i j k [.r 313 [.agg [I c,I d,I e,I f],.agg [I g,I i,I j,I k]] [cI b],.b (decide (b≥0)) false,.u a])):
 Tp (qaa Tryz.f278 0) (qek A a) .normal (qek A (a+1)):=
 h.lp [3,0] []
def qrs:St:=
 { env:=envOf 21 [],boxes:=[] }
theorem qFa(h:Oo [.f A a false]):
 Tp (qaa Tryz.f278 0) (qek A a) (.exit 0) qrs:=
 h.lp [] []
theorem qFb(h:Oo [.l [] [3,0] [] (qaa Tryz.f278 0) (qek A 1) .ret (qmM q)]):
 Rt 278 [cS 4 A] [cB q]:=
 h.of
theorem qFc(h:Oo [.l [] [3,0] [] (qaa Tryz.f278 0) (qek A 1) (.exit 0) qrs]):
 Rt 278 [cS 4 A] [cB true]:=
 h.of
def qel(A:LL)(a b:Int)(C:LL)(c:Int):St:=
 { env:=envOf 29 [(1,vF 5 C),(2,vP 2),(5,vI c)],boxes:=[(2,[.sl .free 4 A,lI a,lI b])] }
def qjI(q:Bool):St:=
 { env:=envOf 29 [(4,.al (.one (.sb q)))],boxes:=[] }
def y2C(A:LL)(a b c d e f:Int)(q:Bool)(l:List O):List O:=.i A a (ri b c d e f)::.r 122 [.agg (ri b c d e f)] [cB q]::l
theorem qFd(h:Oo (y2C A a b c d e f q [.n q true])):
 Tp (qaa Tryz.f177 0) (qel C g i A a) .ret (qjI false):=
 h.lp [4] []
theorem qFe(h:Oo (y2C A a c d e f g q [.n q false,.x A a (ri b j k l m),.b (decide (b≥(C.length:Int))) true])):
 Tp (qaa Tryz.f177 0) (qel C i n A a) .ret (qjI false):=
 h.lp [4] []
theorem qFf(h:Oo (y2C A a e f g i j q [.n q false,.x A a (ri c k l m n),.b (decide (c≥(C.length:Int))) false,.u a])):
 Tp (qaa Tryz.f177 0) (qel C b d A a) .normal (qel C b d A (a+1)):=
 h.lp [5,1,2] [2]
def qrt:St:=
 { env:=envOf 29 [],boxes:=[] }
theorem qFg(h:Oo [.f A a false]):
 Tp (qaa Tryz.f177 0) (qel C b c A a) (.exit 0) qrt:=
 h.lp [] []
theorem qFh(h:Oo [.l [] [5,1,2] [2] (qaa Tryz.f177 0) (qel A a b C 0) .ret (qjI q)]):
 Rt 177 [.agg (gr A a b),cS 5 C] [cB q]:=
 h.of
theorem qFi(h:Oo [.l [] [5,1,2] [2] (qaa Tryz.f177 0) (qel A a b C 0) (.exit 0) qrt]):
 Rt 177 [.agg (gr A a b),cS 5 C] [cB true]:=
 h.of
def qem(A:LL)(a:Int)(C:LL)(b c:Int):St:=
 { env:=envOf 24 [(2,vP 2),(7,vF 5 A),(8,vI (A.length:Int)),(9,vI a)],boxes:=[(2,[.sl .free 4 C,lI b,lI c])] }
def qjJ(q:Bool):St:=
 { env:=envOf 24 [(4,.al (.one (.sb q)))],boxes:=[] }
def y2D(A:LL)(a b c d e f:Int)(q:Bool)(l:List O):List O:=.i A a (ri b c d e f)::.r 145 [.agg (ri b c d e f)] [cB q]::l
theorem qFj(h:Oo (y2D A d e f a b c q [.n q true])):
 Tp (qaa Tryz.f174 0) (qem A d C g i) .ret (qjJ false):=
 h.lp [4] []
theorem qFk(h:Oo (y2D A e a i b c d q [.n q false,.r 250 [.agg (gr C f g),cI a] [cB r],.n r true])):
 Tp (qaa Tryz.f174 0) (qem A e C f g) .ret (qjJ false):=
 h.lp [4] []
theorem qFl(h:Oo (y2D A a d i e f g q [.n q false,.r 250 [.agg (gr C b c),cI d] [cB r],.n r false,.u a])):
 Tp (qaa Tryz.f174 0) (qem A a C b c) .normal (qem A (a+1) C b c):=
 h.lp [9,8,7,2] [2]
def qru:St:=
 { env:=envOf 24 [],boxes:=[] }
theorem qFm(h:Oo [.f A a false]):
 Tp (qaa Tryz.f174 0) (qem A a C b c) (.exit 0) qru:=
 h.lp [] []
theorem qFn(h:Oo [.l [] [9,8,7,2] [2] (qaa Tryz.f174 0) (qem C 0 A a b) .ret (qjJ q)]):
 Rt 174 [.agg (gr A a b),cS 5 C] [cB q]:=
 h.of
theorem qFo(h:Oo [.l [] [9,8,7,2] [2] (qaa Tryz.f174 0) (qem C 0 A a b) (.exit 0) qru]):
 Rt 174 [.agg (gr A a b),cS 5 C] [cB true]:=
 h.of
def y2F(A:LL)(a b:Int)(C:LL)(q:Bool)(l:List O):List O:=.r 177 [.agg (gr A a b),cS 5 C] [cB q]::l
theorem qFp(h:Oo (y2F A a b C q [.n q true])):
 Rt 175 [.agg (gr A a b),.agg (wk C F G H J K L E)] [cB false]:=
 h.of
def y2G(A:LL)(a b:Int)(C:LL)(q:Bool)(E:LL)(r:Bool)(l:List O):List O:=y2F A a b C q (.n q false::.r 177 [.agg (gr A a b),cS 5 E] [cB r]::l)
theorem qFq(h:Oo (y2G A a b C q E r [.n r true])):
 Rt 175 [.agg (gr A a b),.agg (wk C E G H J K L F)] [cB false]:=
 h.of
def y2H(A:LL)(a b:Int)(C:LL)(q:Bool)(E:LL)(r:Bool)(F:LL)(s:Bool)(l:List O):List O:=y2G A a b C q E r (.n r false::.r 177 [.agg (gr A a b),cS 5 F] [cB s]::l)
theorem qFr(h:Oo (y2H A a b C q E r F s [.n s true])):
 Rt 175 [.agg (gr A a b),.agg (wk C E F H J K L G)] [cB false]:=
 h.of
def y2I(A:LL)(a b:Int)(C:LL)(q:Bool)(E:LL)(r:Bool)(F:LL)(s:Bool)(G:LL)(t:Bool)(l:List O):List O:=y2H A a b C q E r F s (.n s false::.r 280 [cS 4 G] [cB t]::l)
theorem qFs(h:Oo (y2I A a b C q E r F s G t [.n t true])):
 Rt 175 [.agg (gr A a b),.agg (wk C E F G J K L H)] [cB false]:=
 h.of
theorem qFt(h:Oo (y2I A a b C q E r F s G t [.n t false,.b ((H.length:Int) != 4) true])):
 Rt 175 [.agg (gr A a b),.agg (wk C E F G H K L J)] [cB false]:=
 h.of
def y2J(A:LL)(a b:Int)(C:LL)(q:Bool)(E:LL)(r:Bool)(F:LL)(s:Bool)(G:LL)(t:Bool)(H:LL)(l:List O):List O:=y2I A a b C q E r F s G t (.n t false::.b ((H.length:Int) != 4) false::l)
theorem qFu(h:Oo (y2J A a b C q E r F s G t H [.b ((J.length:Int) != 4) true])):
 Rt 175 [.agg (gr A a b),.agg (wk C E F G H J L K)] [cB false]:=
 h.of
def y2K(A:LL)(a b:Int)(C:LL)(q:Bool)(E:LL)(r:Bool)(F:LL)(s:Bool)(G:LL)(t:Bool)(H J:LL)(l:List O):List O:=y2J A a b C q E r F s G t H (.b ((J.length:Int) != 4) false::l)
theorem qFv(h:Oo (y2K A a b C q E r F s G t H J [.b ((K.length:Int) != 4) true])):
 Rt 175 [.agg (gr A a b),.agg (wk C E F G H J K L)] [cB false]:=
 h.of
def qcj(A C E F G H J K:LL)(a:Int):St:=
 { env:=envOf 147 [(3,vP 3),(5,vI 4),(6,vI a)],boxes:=[(3,[.sl .free 5 A,.sl .free 5 C,.sl .free 5 E,.sl .free 4 F,.sl .free 1 G,.sl .free 1 H,.sl .free 1 J,.sl .free 2 K])] }
def qhG(q:Bool):St:=
 { env:=envOf 147 [(4,.al (.one (.sb q)))],boxes:=[] }
theorem qFw(h:Oo [.i A a (ri b c d e f),.b (b != 0) true]):
 Tp (qaa Tryz.f175 0) (qcj E F A G H J K C a) .ret (qhG false):=
 h.lp [4] []
def y2E(A:LL)(a b c d e f:Int)(l:List O):List O:=.i A a (ri b c d e f)::.b (b != 0) false::l
theorem qFx(h:Oo (y2E A a b d e f g [.x A a (ri i j c k l),.b (c != 0) true])):
 Tp (qaa Tryz.f175 0) (qcj E F A G H J K C a) .ret (qhG false):=
 h.lp [4] []
theorem qFy(h:Oo (y2E A a b f g i j [.x A a (ri k l c m n),.b (c != 0) false,.b (decide (a>0)) true,.v (a-1),.p (0≤a-1),.p (a-1<(A.length:Int)),.e A ((a-1).toNat) (ri o d p a0 b0),.x A a (ri c0 e d0 e0 f0),.b (decide (d>e)) true])):
 Tp (qaa Tryz.f175 0) (qcj E F A G H J K C a) .ret (qhG false):=
 h.lp [4] []
theorem qFz(h:Oo (y2E A a b f g i j [.x A a (ri k l c m n),.b (c != 0) false,.b (decide (a>0)) true,.v (a-1),.p (0≤a-1),.p (a-1<(A.length:Int)),.e A ((a-1).toNat) (ri o d p a0 b0),.x A a (ri c0 e d0 e0 f0),.b (decide (d>e)) false,.u a])):
 Tp (qaa Tryz.f175 0) (qcj E F A G H J K C a) .normal (qcj E F A G H J K C (a+1)):=
 h.lp [6,3,5] [3]
theorem qFA(h:Oo (y2E A a b d e f g [.x A a (ri i j c k l),.b (c != 0) false,.b (decide (a>0)) false,.u a])):
 Tp (qaa Tryz.f175 0) (qcj E F A G H J K C a) .normal (qcj E F A G H J K C (a+1)):=
 h.lp [6,3,5] [3]
def qhH(A C E F G H J K:LL):St:=
 { env:=envOf 147 [(3,vP 3),(5,vI 4)],boxes:=[(3,[.sl .free 5 A,.sl .free 5 C,.sl .free 5 E,.sl .free 4 F,.sl .free 1 G,.sl .free 1 H,.sl .free 1 J,.sl .free 2 K])] }
theorem qFB(h:Oo [.f A a false]):
 Tp (qaa Tryz.f175 0) (qcj E F A G H J K C a) (.exit 0) (qhH E F A G H J K C):=
 h.lp [5,3] [3]
theorem qFC(h:Oo (y2K A a b C q E r F s G t H J [.b ((K.length:Int) != 4) false,.l [] [6,3,5] [3] (qaa Tryz.f175 0) (qcj C E F G H J K L 0) .ret (qhG u)])):
 Rt 175 [.agg (gr A a b),.agg (wk C E F G H J K L)] [cB u]:=
 h.of
def qen(A C E F G H J K:LL)(a:Int):St:=
 { env:=envOf 147 [(3,vP 3),(5,vI 4),(7,vI a)],boxes:=[(3,[.sl .free 5 A,.sl .free 5 C,.sl .free 5 E,.sl .free 4 F,.sl .free 1 G,.sl .free 1 H,.sl .free 1 J,.sl .free 2 K])] }
def qmN(q:Bool):St:=
 { env:=envOf 147 [(4,.al (.one (.sb q)))],boxes:=[] }
theorem qFD(h:Oo [.b (decide (a<4)) true,.x A a [I b],.r 167 [cI b,cI (-1000000),cI 1000000] [cB q],.n q true]):
 Tp (qaa Tryz.f175 1) (qen E F G H A J K C a) .ret (qmN false):=
 h.lp [4] []
theorem qFE(h:Oo [.b (decide (a<4)) true,.x A a [I b],.r 167 [cI b,cI (-1000000),cI 1000000] [cB q],.n q false,.u a]):
 Tp (qaa Tryz.f175 1) (qen E F G H A J K C a) .normal (qen E F G H A J K C (a+1)):=
 h.lp [7,5,3] [3]
def qmO(A C E F G H J K:LL):St:=
 { env:=envOf 147 [(3,vP 3)],boxes:=[(3,[.sl .free 5 A,.sl .free 5 C,.sl .free 5 E,.sl .free 4 F,.sl .free 1 G,.sl .free 1 H,.sl .free 1 J,.sl .free 2 K])] }
theorem qFF(h:Oo [.b (decide (a<4)) false]):
 Tp (qaa Tryz.f175 1) (qen C E F G H J K A a) (.exit 2) (qmO C E F G H J K A):=
 h.lp [3] [3]
def y2L(A:LL)(a b:Int)(C:LL)(q:Bool)(E:LL)(r:Bool)(F:LL)(s:Bool)(G:LL)(t:Bool)(H J K:LL)(W:Code)(L:LL)(l:List O):List O:=y2K A a b C q E r F s G t H J (.b ((K.length:Int) != 4) false::.l [] [6,3,5] [3] W (qcj C E F G H J K L 0) (.exit 0) (qhH C E F G H J K L)::l)
theorem qFG(h:Oo (y2L K a b A q C r E s F t G H J (qaa Tryz.f175 0) L [.l [] [7,5,3] [3] (qaa Tryz.f175 1) (qen A C E F G H J L 0) .ret (qmN u)])):
 Rt 175 [.agg (gr K a b),.agg (wk A C E F G H J L)] [cB u]:=
 h.of
def qdw(A C E F G H J K:LL)(a:Int):St:=
 { env:=envOf 147 [(3,vP 3),(8,vI a)],boxes:=[(3,[.sl .free 5 A,.sl .free 5 C,.sl .free 5 E,.sl .free 4 F,.sl .free 1 G,.sl .free 1 H,.sl .free 1 J,.sl .free 2 K])] }
def qjK(q:Bool):St:=
 { env:=envOf 147 [(4,.al (.one (.sb q)))],boxes:=[] }
theorem qFH(h:Oo [.i A a [I b,B r],.r 167 [cI b,cI 0,cI 3] [cB q],.n q true]):
 Tp (qaa Tryz.f175 2) (qdw C E F G H J K A a) .ret (qjK false):=
 h.lp [4] []
def qdU(A C E F G H J K:LL)(a b:Int):St:=
 { env:=envOf 147 [(3,vP 3),(8,vI a),(9,vI b)],boxes:=[(3,[.sl .free 5 A,.sl .free 5 C,.sl .free 5 E,.sl .free 4 F,.sl .free 1 G,.sl .free 1 H,.sl .free 1 J,.sl .free 2 K])] }
def qjL(q:Bool):St:=
 { env:=envOf 147 [(4,.al (.one (.sb q)))],boxes:=[] }
theorem qFI(h:Oo [.b (decide (b<a)) true,.x A b [I c,B q],.x A a [I d,B r],.b (c==d) true]):
 Tp (qaa Tryz.f175 3) (qdU C E F G H J K A a b) .ret (qjL false):=
 h.lp [4] []
theorem qFJ(h:Oo [.b (decide (a<b)) true,.x A a [I c,B q],.x A b [I d,B r],.b (c==d) false,.u a]):
 Tp (qaa Tryz.f175 3) (qdU C E F G H J K A b a) .normal (qdU C E F G H J K A b (a+1)):=
 h.lp [9,8,3] [3]
def qmP(A C E F G H J K:LL)(a:Int):St:=
 { env:=envOf 147 [(3,vP 3),(8,vI a)],boxes:=[(3,[.sl .free 5 A,.sl .free 5 C,.sl .free 5 E,.sl .free 4 F,.sl .free 1 G,.sl .free 1 H,.sl .free 1 J,.sl .free 2 K])] }
theorem qFK(h:Oo [.b (decide (b<a)) false]):
 Tp (qaa Tryz.f175 3) (qdU C E F G H J K A a b) (.exit 6) (qmP C E F G H J K A a):=
 h.lp [8,3] [3]
theorem qFL(h:Oo [.i A a [I b,B s],.r 167 [cI b,cI 0,cI 3] [cB q],.n q false,.l [] [9,8,3] [3] (qaa Tryz.f175 3) (qdU C E F G H J K A a 0) .ret (qjL r)]):
 Tp (qaa Tryz.f175 2) (qdw C E F G H J K A a) .ret (qjK r):=
 h.lp [4] []
theorem qFM(h:Oo [.i A a [I b,B r],.r 167 [cI b,cI 0,cI 3] [cB q],.n q false,.l [] [9,8,3] [3] (qaa Tryz.f175 3) (qdU C E F G H J K A a 0) (.exit 6) (qmP C E F G H J K A a),.u a]):
 Tp (qaa Tryz.f175 2) (qdw C E F G H J K A a) .normal (qdw C E F G H J K A (a+1)):=
 h.lp [8,3] [3]
def qmQ:St:=
 { env:=envOf 147 [],boxes:=[] }
theorem qFN(h:Oo [.f A a false]):
 Tp (qaa Tryz.f175 2) (qdw C E F G H J K A a) (.exit 4) qmQ:=
 h.lp [] []
theorem qFO(h:Oo (y2L L a b A q C r E s F t G H J (qaa Tryz.f175 0) K [.l [] [7,5,3] [3] (qaa Tryz.f175 1) (qen A C E F G H J K 0) (.exit 2) (qmO A C E F G H J K),.l [] [8,3] [3] (qaa Tryz.f175 2) (qdw A C E F G H J K 0) .ret (qjK u)])):
 Rt 175 [.agg (gr L a b),.agg (wk A C E F G H J K)] [cB u]:=
 h.of
theorem qFP(h:Oo (y2L L a b A q C r E s F t G H J (qaa Tryz.f175 0) K [.l [] [7,5,3] [3] (qaa Tryz.f175 1) (qen A C E F G H J K 0) (.exit 2) (qmO A C E F G H J K),.l [] [8,3] [3] (qaa Tryz.f175 2) (qdw A C E F G H J K 0) (.exit 4) qmQ])):
 Rt 175 [.agg (gr L a b),.agg (wk A C E F G H J K)] [cB true]:=
 h.of
def y2N(A:LL)(a b:Int)(C:LL)(q:Bool)(l:List O):List O:=.r 174 [.agg (gr A a b),cS 5 C] [cB q]::l
theorem qFQ(h:Oo (y2N A a b C q [.n q true])):
 Rt 172 [.agg (gr A a b),.agg (wk C F G H J K L E)] [cB false]:=
 h.of
def y2O(A:LL)(a b:Int)(C:LL)(q:Bool)(E:LL)(r:Bool)(l:List O):List O:=y2N A a b C q (.n q false::.r 174 [.agg (gr A a b),cS 5 E] [cB r]::l)
theorem qFR(h:Oo (y2O A a b C q E r [.n r true])):
 Rt 172 [.agg (gr A a b),.agg (wk C E G H J K L F)] [cB false]:=
 h.of
def y2P(A:LL)(a b:Int)(C:LL)(q:Bool)(E:LL)(r:Bool)(F:LL)(s:Bool)(l:List O):List O:=y2O A a b C q E r (.n r false::.r 174 [.agg (gr A a b),cS 5 F] [cB s]::l)
theorem qFS(h:Oo (y2P A a b C q E r F s [.n s true])):
 Rt 172 [.agg (gr A a b),.agg (wk C E F H J K L G)] [cB false]:=
 h.of
def y2Q(A:LL)(a b:Int)(C:LL)(q:Bool)(E:LL)(r:Bool)(F:LL)(s:Bool)(G:LL)(t:Bool)(l:List O):List O:=y2P A a b C q E r F s (.n s false::.r 278 [cS 4 G] [cB t]::l)
theorem qFT(h:Oo (y2Q A a b C q E r F s G t [.n t true])):
 Rt 172 [.agg (gr A a b),.agg (wk C E F G J K L H)] [cB false]:=
 h.of
def qbS(A:LL)(a:Int)(C E F G H J K L:LL):St:=
 { env:=envOf 121 [(3,vP 3),(37,vF 5 A),(38,vI (A.length:Int)),(39,vI a)],boxes:=[(3,[.sl .free 5 C,.sl .free 5 E,.sl .free 5 F,.sl .free 4 G,.sl .free 1 H,.sl .free 1 J,.sl .free 1 K,.sl .free 2 L])] }
def qhI(q:Bool):St:=
 { env:=envOf 121 [(4,.al (.one (.sb q)))],boxes:=[] }
theorem qFU(h:Oo [.i A a (ri b c d e f),.b (b != 0) true]):
 Tp (qaa Tryz.f172 0) (qbS A a C E F G H J K L) .ret (qhI false):=
 h.lp [4] []
theorem qFV(h:Oo (y2E A a b d c e f [.b (c != 0) true])):
 Tp (qaa Tryz.f172 0) (qbS A a C E F G H J K L) .ret (qhI false):=
 h.lp [4] []
theorem qFW(h:Oo (y2E C a b c d f g [.b (d != 0) false,.b (decide (a>0)) true,.v (a-1),.p (0≤a-1),.p (a-1<(A.length:Int)),.e A ((a-1).toNat) (ri i e j k l),.b (decide (e>c)) true])):
 Tp (qaa Tryz.f172 0) (qbS C a E F A G H J K L) .ret (qhI false):=
 h.lp [4] []
theorem qFX(h:Oo (y2E C a b c d f g [.b (d != 0) false,.b (decide (a>0)) true,.v (a-1),.p (0≤a-1),.p (a-1<(A.length:Int)),.e A ((a-1).toNat) (ri i e j k l),.b (decide (e>c)) false,.u a])):
 Tp (qaa Tryz.f172 0) (qbS C a E F A G H J K L) .normal (qbS C (a+1) E F A G H J K L):=
 h.lp [39,38,37,3] [3]
theorem qFY(h:Oo (y2E A a b d c e f [.b (c != 0) false,.b (decide (a>0)) false,.u a])):
 Tp (qaa Tryz.f172 0) (qbS A a C E F G H J K L) .normal (qbS A (a+1) C E F G H J K L):=
 h.lp [39,38,37,3] [3]
def qeo(A C E F G H J K:LL):St:=
 { env:=envOf 121 [(3,vP 3)],boxes:=[(3,[.sl .free 5 A,.sl .free 5 C,.sl .free 5 E,.sl .free 4 F,.sl .free 1 G,.sl .free 1 H,.sl .free 1 J,.sl .free 2 K])] }
theorem qFZ(h:Oo [.f L a false]):
 Tp (qaa Tryz.f172 0) (qbS L a A C E F G H J K) (.exit 0) (qeo A C E F G H J K):=
 h.lp [3] [3]
theorem qF0(h:Oo (y2Q A a b E q F r C s G t [.n t false,.l [] [39,38,37,3] [3] (qaa Tryz.f172 0) (qbS C 0 E F C G J K L H) .ret (qhI u)])):
 Rt 172 [.agg (gr A a b),.agg (wk E F C G J K L H)] [cB u]:=
 h.of
def y2R(A:LL)(a b:Int)(C:LL)(q:Bool)(E:LL)(r:Bool)(F:LL)(s:Bool)(G:LL)(t:Bool)(W:Code)(H J K L M N P Q R S U V:LL)(l:List O):List O:=y2Q A a b C q E r F s G t (.n t false::.l [] [39,38,37,3] [3] W (qbS F 0 C E F G H J K L) (.exit 0) (qeo M N P Q R S U V)::l)
theorem qF1(h:Oo (y2R A a b E q F r C s G t (qaa Tryz.f172 0) K L M H N P Q R J S U V [.b ((J.length:Int) != 4) true])):
 Rt 172 [.agg (gr A a b),.agg (wk E F C G K L M H)] [cB false]:=
 h.of
theorem qF2(h:Oo (y2R A a b E q F r C s G t (qaa Tryz.f172 0) L M N H P Q R S J K U V [.b ((J.length:Int) != 4) false,.b ((K.length:Int) != 4) true])):
 Rt 172 [.agg (gr A a b),.agg (wk E F C G L M N H)] [cB false]:=
 h.of
def y2S(A:LL)(a b:Int)(C:LL)(q:Bool)(E:LL)(r:Bool)(F:LL)(s:Bool)(G:LL)(t:Bool)(W:Code)(H J K L M N P Q R S U V:LL)(l:List O):List O:=y2R A a b C q E r F s G t W H J K L M N P Q R S U V (.b ((R.length:Int) != 4) false::.b ((S.length:Int) != 4) false::l)
theorem qF3(h:Oo (y2S A a b E q F r C s G t (qaa Tryz.f172 0) M N P H Q R S U J K L V [.b ((L.length:Int) != 4) true])):
 Rt 172 [.agg (gr A a b),.agg (wk E F C G M N P H)] [cB false]:=
 h.of
def qep(C E F G A H J K:LL)(a:Int):St:=
 { env:=envOf 121 [(3,vP 3),(89,vF 1 A),(90,vI (A.length:Int)),(91,vI a)],boxes:=[(3,[.sl .free 5 C,.sl .free 5 E,.sl .free 5 F,.sl .free 4 G,.sl .free 1 A,.sl .free 1 H,.sl .free 1 J,.sl .free 2 K])] }
def qmR(q:Bool):St:=
 { env:=envOf 121 [(4,.al (.one (.sb q)))],boxes:=[] }
theorem qF4(h:Oo [.i A a [I b],.r 158 [cI b,cI (-1000000),cI 1000000] [cB q],.n q true]):
 Tp (qaa Tryz.f172 1) (qep C E F G A H J K a) .ret (qmR false):=
 h.lp [4] []
theorem qF5(h:Oo [.i A a [I b],.r 158 [cI b,cI (-1000000),cI 1000000] [cB q],.n q false,.u a]):
 Tp (qaa Tryz.f172 1) (qep C E F G A H J K a) .normal (qep C E F G A H J K (a+1)):=
 h.lp [91,90,89,3] [3]
def qmS(A C E F G H J K:LL):St:=
 { env:=envOf 121 [(3,vP 3)],boxes:=[(3,[.sl .free 5 A,.sl .free 5 C,.sl .free 5 E,.sl .free 4 F,.sl .free 1 G,.sl .free 1 H,.sl .free 1 J,.sl .free 2 K])] }
theorem qF6(h:Oo [.f A a false]):
 Tp (qaa Tryz.f172 1) (qep C E F G A H J K a) (.exit 2) (qmS C E F G A H J K):=
 h.lp [3] [3]
theorem qF7(h:Oo (y2S A a b H q J r C s K t (qaa Tryz.f172 0) S U V L M N P Q E F G R [.b ((G.length:Int) != 4) false,.l [] [91,90,89,3] [3] (qaa Tryz.f172 1) (qep M N P Q E F G R 0) .ret (qmR u)])):
 Rt 172 [.agg (gr A a b),.agg (wk H J C K S U V L)] [cB u]:=
 h.of
def qdx(A:LL)(a:Int)(C E F G H J K L:LL):St:=
 { env:=envOf 121 [(3,vP 3),(100,vF 2 A),(101,vI (A.length:Int)),(102,vI a)],boxes:=[(3,[.sl .free 5 C,.sl .free 5 E,.sl .free 5 F,.sl .free 4 G,.sl .free 1 H,.sl .free 1 J,.sl .free 1 K,.sl .free 2 L])] }
def qjM(q:Bool):St:=
 { env:=envOf 121 [(4,.al (.one (.sb q)))],boxes:=[] }
theorem qF8(h:Oo [.i A a [I b,B r],.r 158 [cI b,cI 0,cI 3] [cB q],.n q true]):
 Tp (qaa Tryz.f172 2) (qdx A a C E F G H J K L) .ret (qjM false):=
 h.lp [4] []
def y2M(A:LL)(a b:Int)(q r:Bool)(C:LL)(s:Bool)(l:List O):List O:=.i A a [I b,B q]::.r 158 [cI b,cI 0,cI 3] [cB r]::.n r false::.p ((0:Int)≤none.getD 0)::.p (none.getD 0≤(some a).getD (C.length:Int))::.p ((some a).getD (C.length:Int)≤(C.length:Int))::.r 271 [.one (.sl 2 (List.take (((some a).getD (C.length:Int)).toNat-0) (List.drop 0 C))),cI b] [cB s]::l
theorem qF9(h:Oo (y2M C a b s q A r [.b r true])):
 Tp (qaa Tryz.f172 2) (qdx C a E F G H J K L A) .ret (qjM false):=
 h.lp [4] []
theorem qGa(h:Oo (y2M C a b s q A r [.b r false,.u a])):
 Tp (qaa Tryz.f172 2) (qdx C a E F G H J K L A) .normal (qdx C (a+1) E F G H J K L A):=
 h.lp [102,101,100,3] [3]
def qmT:St:=
 { env:=envOf 121 [],boxes:=[] }
theorem qGb(h:Oo [.f A a false]):
 Tp (qaa Tryz.f172 2) (qdx A a C E F G H J K L) (.exit 4) qmT:=
 h.lp [] []
theorem qGc(h:Oo (y2S G a b N q P r M s Q t (qaa Tryz.f172 0) S U V R H J K L A C E F [.b ((E.length:Int) != 4) false,.l [] [91,90,89,3] [3] (qaa Tryz.f172 1) (qep H J K L A C E F 0) (.exit 2) (qmS H J K L A C E F),.l [] [102,101,100,3] [3] (qaa Tryz.f172 2) (qdx F 0 H J K L A C E F) .ret (qjM u)])):
 Rt 172 [.agg (gr G a b),.agg (wk N P M Q S U V R)] [cB u]:=
 h.of
theorem qGd(h:Oo (y2S G a b N q P r M s Q t (qaa Tryz.f172 0) S U V R H J K L A C E F [.b ((E.length:Int) != 4) false,.l [] [91,90,89,3] [3] (qaa Tryz.f172 1) (qep H J K L A C E F 0) (.exit 2) (qmS H J K L A C E F),.l [] [102,101,100,3] [3] (qaa Tryz.f172 2) (qdx F 0 H J K L A C E F) (.exit 4) qmT])):
 Rt 172 [.agg (gr G a b),.agg (wk N P M Q S U V R)] [cB true]:=
 h.of
def qcK(a:Int)(A:LL)(b c d e f:Int):St:=
 { env:=envOf 70 [(1,vP 1),(3,vI f)],boxes:=[(1,[lI a,.sl .free 5 A,lI b,lI c,lI d,lI e])] }
def qmU(q:Bool):St:=
 { env:=envOf 70 [(2,.al (.one (.sb q)))],boxes:=[] }
theorem qGe(h:Oo (y2C A c d e f a b q [.n q true])):
 Tp (qaa Tryz.f176 0) (qcK g A i j k l c) .ret (qmU false):=
 h.lp [2] []
theorem qGf(h:Oo (y2C A a j k l c d q [.n q false,.u a])):
 Tp (qaa Tryz.f176 0) (qcK b A e f g i a) .normal (qcK b A e f g i (a+1)):=
 h.lp [3,1] [1]
def qeq(a:Int)(A:LL)(b c d e:Int):St:=
 { env:=envOf 70 [(1,vP 1)],boxes:=[(1,[lI a,.sl .free 5 A,lI b,lI c,lI d,lI e])] }
theorem qGg(h:Oo [.f A f false]):
 Tp (qaa Tryz.f176 0) (qcK a A b c d e f) (.exit 0) (qeq a A b c d e):=
 h.lp [1] [1]
theorem qGh(h:Oo [.l [] [3,1] [1] (qaa Tryz.f176 0) (qcK a A b c d e 0) .ret (qmU q)]):
 Rt 176 [.agg (lk a A b c d e)] [cB q]:=
 h.of
def y2T(W:Code)(a:Int)(A:LL)(b c d e:Int)(q:Bool)(l:List O):List O:=.l [] [3,1] [1] W (qcK a A b c d e 0) (.exit 0) (qeq a A b c d e)::.r 167 [cI a,cI 1,cI 4] [cB q]::l
def y2U(W:Code)(a:Int)(A:LL)(b c d e:Int)(q r:Bool)(l:List O):List O:=y2T W a A b c d e q (.b q true::.r 167 [cI b,cI 0,cI a] [cB r]::l)
def y2V(W:Code)(a:Int)(A:LL)(b c d e:Int)(q r s:Bool)(l:List O):List O:=y2U W a A b c d e q r (.b r true::.r 167 [cI c,cI 0,cI a] [cB s]::l)
def y2W(W:Code)(a:Int)(A:LL)(b c d e:Int)(q r s:Bool)(l:List O):List O:=y2V W a A b c d e q r s (.b s true::.v (b+c)::.v (b+c+(A.length:Int))::l)
def y2X(W:Code)(a:Int)(A:LL)(b c d e:Int)(q r s t:Bool)(l:List O):List O:=y2W W a A b c d e q r s (.b (b+c+(A.length:Int)==a) true::.r 167 [cI d,cI 0,cI 1000000000] [cB t]::l)
theorem qGi(h:Oo (y2X (qaa Tryz.f176 0) a A b c d e q r s t [.b t true,.v (d-(A.length:Int)),.b (e==d-(A.length:Int)) true])):
 Rt 176 [.agg (lk a A b c d e)] [cB (decide (e≥0))]:=
 h.of
theorem qGj(h:Oo (y2X (qaa Tryz.f176 0) a A b c d e q r s t [.b t true,.v (d-(A.length:Int)),.b (e==d-(A.length:Int)) false])):
 Rt 176 [.agg (lk a A b c d e)] [cB false]:=
 h.of
theorem qGk(h:Oo (y2X (qaa Tryz.f176 0) a A b c d e q r s t [.b t false])):
 Rt 176 [.agg (lk a A b c d e)] [cB false]:=
 h.of
theorem qGl(h:Oo (y2W (qaa Tryz.f176 0) a A b c d e q r s [.b (b+c+(A.length:Int)==a) false])):
 Rt 176 [.agg (lk a A b c d e)] [cB false]:=
 h.of
theorem qGm(h:Oo (y2V (qaa Tryz.f176 0) a A b c d e q r s [.b s false])):
 Rt 176 [.agg (lk a A b c d e)] [cB false]:=
 h.of
theorem qGn(h:Oo (y2U (qaa Tryz.f176 0) a A b c d e q r [.b r false])):
 Rt 176 [.agg (lk a A b c d e)] [cB false]:=
 h.of
theorem qGo(h:Oo (y2T (qaa Tryz.f176 0) a A b c d e q [.b q false])):
 Rt 176 [.agg (lk a A b c d e)] [cB false]:=
 h.of
def y2Y(a:Int)(q:Bool)(l:List O):List O:=.r 158 [cI a,cI 1,cI 4] [cB q]::l
theorem qGp(h:Oo (y2Y a q [.n q true])):
 Rt 173 [.agg (lk a A b c d e)] [cB false]:=
 h.of
def y2Z(a:Int)(q:Bool)(b:Int)(r:Bool)(l:List O):List O:=y2Y a q (.n q false::.r 158 [cI b,cI 0,cI a] [cB r]::l)
theorem qGq(h:Oo (y2Z a q b r [.n r true])):
 Rt 173 [.agg (lk a A b c d e)] [cB false]:=
 h.of
def y30(a:Int)(q:Bool)(b:Int)(r:Bool)(c:Int)(s:Bool)(l:List O):List O:=y2Z a q b r (.n r false::.r 158 [cI c,cI 0,cI a] [cB s]::l)
theorem qGr(h:Oo (y30 a q b r c s [.n s true])):
 Rt 173 [.agg (lk a A b c d e)] [cB false]:=
 h.of
def y31(a:Int)(q:Bool)(b:Int)(r:Bool)(c:Int)(s:Bool)(A:LL)(l:List O):List O:=y30 a q b r c s (.n s false::.v (b+c)::.v (b+c+(A.length:Int))::l)
theorem qGs(h:Oo (y31 a q b r c s A [.b (b+c+(A.length:Int) != a) true])):
 Rt 173 [.agg (lk a A b c d e)] [cB false]:=
 h.of
def y32(a:Int)(q:Bool)(b:Int)(r:Bool)(c:Int)(s:Bool)(A:LL)(d:Int)(t:Bool)(l:List O):List O:=y31 a q b r c s A (.b (b+c+(A.length:Int) != a) false::.r 158 [cI d,cI 0,cI 1000000000] [cB t]::l)
theorem qGt(h:Oo (y32 a q b r c s A d t [.n t true])):
 Rt 173 [.agg (lk a A b c d e)] [cB false]:=
 h.of
theorem qGu(h:Oo (y32 a q b r c s A d t [.n t false,.b (decide (e<0)) true])):
 Rt 173 [.agg (lk a A b c d e)] [cB false]:=
 h.of
theorem qGv(h:Oo (y32 a q b r c s A d t [.n t false,.b (decide (e<0)) false,.v (d-e),.b (d-e != (A.length:Int)) true])):
 Rt 173 [.agg (lk a A b c d e)] [cB false]:=
 h.of
theorem qGw(h:Oo (y32 a r b s c t A d u [.n u false,.b (decide (e<0)) false,.v (d-e),.b (d-e != (A.length:Int)) false,.r 279 [cS 5 A] [cB q]])):
 Rt 173 [.agg (lk a A b c d e)] [cB q]:=
 h.of
def qfn(A:LL)(a:Int):St:=
 { env:=envOf 15 [(5,vF 5 A),(6,vI (A.length:Int)),(7,vI a)],boxes:=[] }
def qmV(q:Bool):St:=
 { env:=envOf 15 [(2,.al (.one (.sb q)))],boxes:=[] }
theorem qGx(h:Oo (y2D A a b c d e f q [.n q true])):
 Tp (qaa Tryz.f279 0) (qfn A a) .ret (qmV false):=
 h.lp [2] []
theorem qGy(h:Oo (y2D A a b c d e f q [.n q false,.u a])):
 Tp (qaa Tryz.f279 0) (qfn A a) .normal (qfn A (a+1)):=
 h.lp [7,6,5] []
def qrv:St:=
 { env:=envOf 15 [],boxes:=[] }
theorem qGz(h:Oo [.f A a false]):
 Tp (qaa Tryz.f279 0) (qfn A a) (.exit 0) qrv:=
 h.lp [] []
theorem qGA(h:Oo [.l [] [7,6,5] [] (qaa Tryz.f279 0) (qfn A 0) .ret (qmV q)]):
 Rt 279 [cS 5 A] [cB q]:=
 h.of
theorem qGB(h:Oo [.l [] [7,6,5] [] (qaa Tryz.f279 0) (qfn A 0) (.exit 0) qrv]):
 Rt 279 [cS 5 A] [cB true]:=
 h.of
def y33(A:LL)(a b:Int)(q:Bool)(l:List O):List O:=.r 121 [.agg (gr A a b)] [cB q]::l
theorem qGC(h:Oo (y33 A a b q [.n q true])):
 Rt 56 [.agg (cl A a b C E F G)] [cB false]:=
 h.of
theorem qGD(h:Oo (y33 A a b q [.n q false,.b ((C.length:Int) != a) true])):
 Rt 56 [.agg (cl A a b C E F G)] [cB false]:=
 h.of
def y34(A:LL)(a b:Int)(q:Bool)(C:LL)(l:List O):List O:=y33 A a b q (.n q false::.b ((C.length:Int) != a) false::.v (a*a)::l)
theorem qGE(h:Oo (y34 A a b q C [.b ((E.length:Int) != a*a) true])):
 Rt 56 [.agg (cl A a b C E F G)] [cB false]:=
 h.of
def y35(A:LL)(a b:Int)(q:Bool)(C E:LL)(l:List O):List O:=y34 A a b q C (.b ((E.length:Int) != a*a) false::l)
theorem qGF(h:Oo (y35 A a b q C E [.b ((F.length:Int) != 4) true])):
 Rt 56 [.agg (cl A a b C E F G)] [cB false]:=
 h.of
def qcU(A:LL)(a b:Int)(C E F G:LL)(c:Int):St:=
 { env:=envOf 170 [(1,vP 1),(3,vI a),(4,vI c)],boxes:=[(1,[.sl .free 4 A,lI a,lI b,.sl .free 8 C,.sl .free 6 E,.sl .free 5 F,.sl .free 3 G])] }
def qjN(q:Bool):St:=
 { env:=envOf 170 [(2,.al (.one (.sb q)))],boxes:=[] }
theorem qGG(h:Oo [.b (decide (b<a)) true,.x L b (wk M C E F G H J K),.r 175 [.agg (gr A a c),.agg (wk M C E F G H J K)] [cB q],.n q true]):
 Tp (qaa Tryz.f56 0) (qcU A a c L N P Q b) .ret (qjN false):=
 h.lp [2] []
theorem qGH(h:Oo [.b (decide (a<b)) true,.x C a (wk Q E F G H J K L),.r 175 [.agg (gr A b c),.agg (wk Q E F G H J K L)] [cB q],.n q false,.u a]):
 Tp (qaa Tryz.f56 0) (qcU A b c C M N P a) .normal (qcU A b c C M N P (a+1)):=
 h.lp [4,3,1] [1]
def qgt(A:LL)(a b:Int)(C E F G:LL):St:=
 { env:=envOf 170 [(1,vP 1),(3,vI a)],boxes:=[(1,[.sl .free 4 A,lI a,lI b,.sl .free 8 C,.sl .free 6 E,.sl .free 5 F,.sl .free 3 G])] }
theorem qGI(h:Oo [.b (decide (c<a)) false]):
 Tp (qaa Tryz.f56 0) (qcU A a b C E F G c) (.exit 0) (qgt A a b C E F G):=
 h.lp [1,3] [1]
def y36(A:LL)(a b:Int)(q:Bool)(C E F:LL)(l:List O):List O:=y35 A a b q C E (.b ((F.length:Int) != 4) false::l)
theorem qGJ(h:Oo (y36 A a b q C E F [.l [] [4,3,1] [1] (qaa Tryz.f56 0) (qcU A a b C E F G 0) .ret (qjN r)])):
 Rt 56 [.agg (cl A a b C E F G)] [cB r]:=
 h.of
def qb7(a b:Int)(A:LL)(c d:Int)(C E F G:LL):St:=
 { env:=envOf 170 [(1,vP 1),(3,vI a),(5,vI b)],boxes:=[(1,[.sl .free 4 A,lI c,lI d,.sl .free 8 C,.sl .free 6 E,.sl .free 5 F,.sl .free 3 G])] }
def qgu(q:Bool):St:=
 { env:=envOf 170 [(2,.al (.one (.sb q)))],boxes:=[] }
def y38(A:LL)(a b:Int)(C:LL)(c d e f:Int)(q:Bool)(l:List O):List O:=.i A a (lk b C c d e f)::.r 176 [.agg (lk b C c d e f)] [cB q]::l
theorem qGK(h:Oo (y38 A f a C b c d e q [.n q true])):
 Tp (qaa Tryz.f56 1) (qb7 g f H i j E A F G) .ret (qgu false):=
 h.lp [2] []
theorem qGL(h:Oo (y38 A g a C c d e f q [.n q false,.b (a != b) true])):
 Tp (qaa Tryz.f56 1) (qb7 i g H j b E A F G) .ret (qgu false):=
 h.lp [2] []
def y39(A:LL)(a b:Int)(C:LL)(c d e f:Int)(q:Bool)(g:Int)(E:LL)(i:Int)(r:Bool)(l:List O):List O:=y38 A a b C c d e f q (.n q false::.b (b != g) false::.r 177 [.agg (gr E i g),cS 5 C] [cB r]::l)
theorem qGM(h:Oo (y39 C i b A d e f g q a E c r [.n r true])):
 Tp (qaa Tryz.f56 1) (qb7 j i E c a F C G H) .ret (qgu false):=
 h.lp [2] []
theorem qGN(h:Oo (y39 C b d A f g i j q c E e r [.n r false,.p (a≠0),.v (b.tdiv a),.p (a≠0),.b (b.tdiv a==b.tmod a) true,.b (decide ((A.length:Int)>0)) true])):
 Tp (qaa Tryz.f56 1) (qb7 a b E e c F C G H) .ret (qgu false):=
 h.lp [2] []
theorem qGO(h:Oo (y39 C b e A f g i j q c E d r [.n r false,.p (a≠0),.v (b.tdiv a),.p (a≠0),.b (b.tdiv a==b.tmod a) true,.b (decide ((A.length:Int)>0)) false,.u b])):
 Tp (qaa Tryz.f56 1) (qb7 a b E d c F C G H) .normal (qb7 a (b+1) E d c F C G H):=
 h.lp [5,1,3] [1]
theorem qGP(h:Oo (y39 A b e C f g i j q c E d r [.n r false,.p (a≠0),.v (b.tdiv a),.p (a≠0),.b (b.tdiv a==b.tmod a) false,.u b])):
 Tp (qaa Tryz.f56 1) (qb7 a b E d c F A G H) .normal (qb7 a (b+1) E d c F A G H):=
 h.lp [5,1,3] [1]
def qhJ(a:Int)(A:LL)(b c:Int)(C E F G:LL):St:=
 { env:=envOf 170 [(1,vP 1),(3,vI a)],boxes:=[(1,[.sl .free 4 A,lI b,lI c,.sl .free 8 C,.sl .free 6 E,.sl .free 5 F,.sl .free 3 G])] }
theorem qGQ(h:Oo [.f A d false]):
 Tp (qaa Tryz.f56 1) (qb7 a d G b c C A E F) (.exit 2) (qhJ a G b c C A E F):=
 h.lp [1,3] [1]
def y37(A:LL)(a b:Int)(q:Bool)(C E F:LL)(W:Code)(G:LL)(l:List O):List O:=y36 A a b q C E F (.l [] [4,3,1] [1] W (qcU A a b C E F G 0) (.exit 0) (qgt A a b C E F G)::l)
theorem qGR(h:Oo (y37 A a b q C E F (qaa Tryz.f56 0) G [.l [] [5,1,3] [1] (qaa Tryz.f56 1) (qb7 a 0 A a b C E F G) .ret (qgu r)])):
 Rt 56 [.agg (cl A a b C E F G)] [cB r]:=
 h.of
def qck(a:Int)(A:LL)(b c:Int)(C E F G:LL)(d:Int):St:=
 { env:=envOf 170 [(1,vP 1),(3,vI a),(7,vI d)],boxes:=[(1,[.sl .free 4 A,lI b,lI c,.sl .free 8 C,.sl .free 6 E,.sl .free 5 F,.sl .free 3 G])] }
def qfo(q:Bool):St:=
 { env:=envOf 170 [(2,.al (.one (.sb q)))],boxes:=[] }
def y2y(A:LL)(a:Int)(q:Bool)(b c:Int)(r s:Bool)(d:Int)(t:Bool)(l:List O):List O:=y2x A a q b c r s (.v (d-1)::.r 167 [cI b,cI 0,cI (d-1)] [cB t]::l)
theorem qGS(h:Oo (y2y A b r c e s t a q [.n q true])):
 Tp (qaa Tryz.f56 2) (qck a G f d C E A F b) .ret (qfo false):=
 h.lp [2] []
def y2z(A:LL)(a:Int)(q:Bool)(b c:Int)(r s:Bool)(d:Int)(t u:Bool)(e f:Int)(v w:Bool)(l:List O):List O:=y2y A a q b c r s d t (.n t false::.x A a [B u,I e,I f,B v,B w]::l)
theorem qGT(h:Oo (y2z A a s c f t u b q r g i v w [.n r true,.x A a [B x,I d,I j,B y,B z],.b (d != 0) true])):
 Tp (qaa Tryz.f56 2) (qck b G k e C E A F a) .ret (qfo false):=
 h.lp [2] []
theorem qGU(h:Oo (y2z A a t c g u v b q r i j w x [.n r true,.x A a [B y,I d,I k,B z,B q0],.b (d != 0) false,.x A a [B r0,I l,I e,B s0,B t0],.r 167 [cI e,cI (-1000000),cI 1000000] [cB s],.n s true])):
 Tp (qaa Tryz.f56 2) (qck b G m f C E A F a) .ret (qfo false):=
 h.lp [2] []
theorem qGV(h:Oo (y2z A a t d i u v b q r j k w x [.n r true,.x A a [B y,I e,I l,B z,B q0],.b (e != 0) false,.x A a [B r0,I m,I f,B s0,B t0],.r 167 [cI f,cI (-1000000),cI 1000000] [cB s],.n s false,.u a])):
 Tp (qaa Tryz.f56 2) (qck b G g c C E A F a) .normal (qck b G g c C E A F (a+1)):=
 h.lp [7,1,3] [1]
theorem qGW(h:Oo (y2z A a t c f u v b q r g i w x [.n r false,.x A a [B y,I j,I d,B z,B q0],.r 167 [cI d,cI (-1000000),cI 1000000] [cB s],.n s true])):
 Tp (qaa Tryz.f56 2) (qck b G k e C E A F a) .ret (qfo false):=
 h.lp [2] []
theorem qGX(h:Oo (y2z A a t d g u v b q r i j w x [.n r false,.x A a [B y,I k,I e,B z,B q0],.r 167 [cI e,cI (-1000000),cI 1000000] [cB s],.n s false,.u a])):
 Tp (qaa Tryz.f56 2) (qck b G f c C E A F a) .normal (qck b G f c C E A F (a+1)):=
 h.lp [7,1,3] [1]
def qjO(a:Int)(A:LL)(b c:Int)(C E F G:LL):St:=
 { env:=envOf 170 [(1,vP 1),(3,vI a)],boxes:=[(1,[.sl .free 4 A,lI b,lI c,.sl .free 8 C,.sl .free 6 E,.sl .free 5 F,.sl .free 3 G])] }
theorem qGY(h:Oo [.f A c false]):
 Tp (qaa Tryz.f56 2) (qck a G d b C E A F c) (.exit 4) (qjO a G d b C E A F):=
 h.lp [1,3] [1]
theorem qGZ(h:Oo (y37 A a b r C E F (qaa Tryz.f56 0) G [.l [] [5,1,3] [1] (qaa Tryz.f56 1) (qb7 a 0 A a b C E F G) (.exit 2) (qhJ a M d c H J K L),.l [] [7,1,3] [1] (qaa Tryz.f56 2) (qck a M d c H J K L 0) .ret (qfo q)])):
 Rt 56 [.agg (cl A a b C E F G)] [cB q]:=
 h.of
def qdy(a:Int)(A:LL)(b c:Int)(C E F G:LL)(d:Int):St:=
 { env:=envOf 170 [(1,vP 1),(3,vI a),(8,vI d)],boxes:=[(1,[.sl .free 4 A,lI b,lI c,.sl .free 8 C,.sl .free 6 E,.sl .free 5 F,.sl .free 3 G])] }
def qhK(q:Bool):St:=
 { env:=envOf 170 [(2,.al (.one (.sb q)))],boxes:=[] }
theorem qG0(h:Oo [.i A b [I c,I e,B r],.v (a-1),.r 167 [cI c,cI 0,cI (a-1)] [cB q],.n q true]):
 Tp (qaa Tryz.f56 3) (qdy a G f d C E F A b) .ret (qhK false):=
 h.lp [2] []
theorem qG1(h:Oo [.i A b [I c,I f,B s],.v (a-1),.r 167 [cI c,cI 0,cI (a-1)] [cB q],.n q false,.x A b [I g,I d,B t],.r 167 [cI d,cI 0,cI 3] [cB r],.n r true]):
 Tp (qaa Tryz.f56 3) (qdy a G i e C E F A b) .ret (qhK false):=
 h.lp [2] []
theorem qG2(h:Oo [.i A a [I d,I g,B s],.v (b-1),.r 167 [cI d,cI 0,cI (b-1)] [cB q],.n q false,.x A a [I i,I e,B t],.r 167 [cI e,cI 0,cI 3] [cB r],.n r false,.u a]):
 Tp (qaa Tryz.f56 3) (qdy b G f c C E F A a) .normal (qdy b G f c C E F A (a+1)):=
 h.lp [8,1,3] [1]
def qmW:St:=
 { env:=envOf 170 [],boxes:=[] }
theorem qG3(h:Oo [.f A a false]):
 Tp (qaa Tryz.f56 3) (qdy b G d c C E F A a) (.exit 6) qmW:=
 h.lp [] []
theorem qG4(h:Oo (y37 A a b r C E F (qaa Tryz.f56 0) L [.l [] [5,1,3] [1] (qaa Tryz.f56 1) (qb7 a 0 A a b C E F L) (.exit 2) (qhJ a M d c G H J K),.l [] [7,1,3] [1] (qaa Tryz.f56 2) (qck a M d c G H J K 0) (.exit 4) (qjO a M d c G H J K),.l [] [8,1,3] [1] (qaa Tryz.f56 3) (qdy a M d c G H J K 0) .ret (qhK q)])):
 Rt 56 [.agg (cl A a b C E F L)] [cB q]:=
 h.of
theorem qG5(h:Oo (y37 A a b q C E F (qaa Tryz.f56 0) L [.l [] [5,1,3] [1] (qaa Tryz.f56 1) (qb7 a 0 A a b C E F L) (.exit 2) (qhJ a M d c G H J K),.l [] [7,1,3] [1] (qaa Tryz.f56 2) (qck a M d c G H J K 0) (.exit 4) (qjO a M d c G H J K),.l [] [8,1,3] [1] (qaa Tryz.f56 3) (qdy a M d c G H J K 0) (.exit 6) qmW])):
 Rt 56 [.agg (cl A a b C E F L)] [cB true]:=
 h.of
def y3c(A:LL)(a b:Int)(q:Bool)(l:List O):List O:=.r 144 [.agg (gr A a b)] [cB q]::l
theorem qG6(h:Oo (y3c A a b q [.n q true])):
 Rt 55 [.agg (cl A a b C E F G)] [cB false]:=
 h.of
theorem qG7(h:Oo (y3c A a b q [.n q false,.b ((C.length:Int) != a) true])):
 Rt 55 [.agg (cl A a b C E F G)] [cB false]:=
 h.of
def y3d(A:LL)(a b:Int)(q:Bool)(C:LL)(l:List O):List O:=y3c A a b q (.n q false::.b ((C.length:Int) != a) false::.v (a*a)::l)
theorem qG8(h:Oo (y3d A a b q C [.b ((E.length:Int) != a*a) true])):
 Rt 55 [.agg (cl A a b C E F G)] [cB false]:=
 h.of
def y3e(A:LL)(a b:Int)(q:Bool)(C E:LL)(l:List O):List O:=y3d A a b q C (.b ((E.length:Int) != a*a) false::l)
theorem qG9(h:Oo (y3e A a b q C E [.b ((F.length:Int) != 4) true])):
 Rt 55 [.agg (cl A a b C E F G)] [cB false]:=
 h.of
def qcV(a:Int)(A:LL)(b:Int)(C:LL)(c d:Int)(E F G H:LL):St:=
 { env:=envOf 147 [(1,vP 1),(3,vI a),(42,vF 8 A),(43,vI (A.length:Int)),(44,vI b)],boxes:=[(1,[.sl .free 4 C,lI c,lI d,.sl .free 8 E,.sl .free 6 F,.sl .free 5 G,.sl .free 3 H])] }
def qjP(q:Bool):St:=
 { env:=envOf 147 [(2,.al (.one (.sb q)))],boxes:=[] }
theorem qHa(h:Oo [.i L c (wk A C E F G H J K),.r 172 [.agg (gr M a b),.agg (wk A C E F G H J K)] [cB q],.n q true]):
 Tp (qaa Tryz.f55 0) (qcV d L c M a b N P Q R) .ret (qjP false):=
 h.lp [2] []
theorem qHb(h:Oo [.i A a (wk J K L M N P Q R),.r 172 [.agg (gr C b c),.agg (wk J K L M N P Q R)] [cB q],.n q false,.u a]):
 Tp (qaa Tryz.f55 0) (qcV d A a C b c E F G H) .normal (qcV d A (a+1) C b c E F G H):=
 h.lp [44,43,42,1,3] [1]
def qgv(a:Int)(A:LL)(b c:Int)(C E F G:LL):St:=
 { env:=envOf 147 [(1,vP 1),(3,vI a)],boxes:=[(1,[.sl .free 4 A,lI b,lI c,.sl .free 8 C,.sl .free 6 E,.sl .free 5 F,.sl .free 3 G])] }
theorem qHc(h:Oo [.f G d false]):
 Tp (qaa Tryz.f55 0) (qcV a G d H b c A C E F) (.exit 0) (qgv a H b c A C E F):=
 h.lp [1,3] [1]
def y3f(A:LL)(a b:Int)(q:Bool)(C E F:LL)(l:List O):List O:=y3e A a b q C E (.b ((F.length:Int) != 4) false::l)
theorem qHd(h:Oo (y3f C a b q A E F [.l [] [44,43,42,1,3] [1] (qaa Tryz.f55 0) (qcV a A 0 C a b A E F G) .ret (qjP r)])):
 Rt 55 [.agg (cl C a b A E F G)] [cB r]:=
 h.of
def qb8(a:Int)(A:LL)(b:Int)(C:LL)(c d:Int)(E F G H:LL):St:=
 { env:=envOf 147 [(1,vP 1),(3,vI a),(55,vF 6 A),(56,vI (A.length:Int)),(57,vI b)],boxes:=[(1,[.sl .free 4 C,lI c,lI d,.sl .free 8 E,.sl .free 6 F,.sl .free 5 G,.sl .free 3 H])] }
def qgw(q:Bool):St:=
 { env:=envOf 147 [(2,.al (.one (.sb q)))],boxes:=[] }
def y3a(A:LL)(a b:Int)(C:LL)(c d e f:Int)(q:Bool)(l:List O):List O:=.i A a (lk b C c d e f)::.r 173 [.agg (lk b C c d e f)] [cB q]::l
theorem qHe(h:Oo (y3a A a b C c d e f q [.n q true])):
 Tp (qaa Tryz.f55 1) (qb8 g A a E i j F G H J) .ret (qgw false):=
 h.lp [2] []
theorem qHf(h:Oo (y3a A b a C d e f g q [.n q false,.b (a != c) true])):
 Tp (qaa Tryz.f55 1) (qb8 i A b E j c F G H J) .ret (qgw false):=
 h.lp [2] []
def y3b(A:LL)(a b:Int)(C:LL)(c d e f:Int)(q:Bool)(g:Int)(E:LL)(i:Int)(r:Bool)(l:List O):List O:=y3a A a b C c d e f q (.n q false::.b (b != g) false::.r 174 [.agg (gr E i g),cS 5 C] [cB r]::l)
theorem qHg(h:Oo (y3b C c b A e f g i q a E d r [.n r true])):
 Tp (qaa Tryz.f55 1) (qb8 j C c E d a F G H J) .ret (qgw false):=
 h.lp [2] []
theorem qHh(h:Oo (y3b C b d A f g i j q c E e r [.n r false,.p (a≠0),.v (b.tdiv a),.p (a≠0),.b (b.tdiv a==b.tmod a) true,.b (decide ((A.length:Int)>0)) true])):
 Tp (qaa Tryz.f55 1) (qb8 a C b E e c F G H J) .ret (qgw false):=
 h.lp [2] []
theorem qHi(h:Oo (y3b C b e A f g i j q c E d r [.n r false,.p (a≠0),.v (b.tdiv a),.p (a≠0),.b (b.tdiv a==b.tmod a) true,.b (decide ((A.length:Int)>0)) false,.u b])):
 Tp (qaa Tryz.f55 1) (qb8 a C b E d c F G H J) .normal (qb8 a C (b+1) E d c F G H J):=
 h.lp [57,56,55,1,3] [1]
theorem qHj(h:Oo (y3b A b e E f g i j q c C d r [.n r false,.p (a≠0),.v (b.tdiv a),.p (a≠0),.b (b.tdiv a==b.tmod a) false,.u b])):
 Tp (qaa Tryz.f55 1) (qb8 a A b C d c F G H J) .normal (qb8 a A (b+1) C d c F G H J):=
 h.lp [57,56,55,1,3] [1]
def qhL(a:Int)(A:LL)(b c:Int)(C E F G:LL):St:=
 { env:=envOf 147 [(1,vP 1),(3,vI a)],boxes:=[(1,[.sl .free 4 A,lI b,lI c,.sl .free 8 C,.sl .free 6 E,.sl .free 5 F,.sl .free 3 G])] }
theorem qHk(h:Oo [.f A b false]):
 Tp (qaa Tryz.f55 1) (qb8 a A b C c d E F G H) (.exit 2) (qhL a C c d E F G H):=
 h.lp [1,3] [1]
def y3g(A:LL)(a b:Int)(q:Bool)(C E F:LL)(W:Code)(G H:LL)(c d:Int)(J K L M:LL)(l:List O):List O:=y3f A a b q C E F (.l [] [44,43,42,1,3] [1] W (qcV a C 0 A a b C E F G) (.exit 0) (qgv a H c d J K L M)::l)
theorem qHl(h:Oo (y3g C a b r A F G (qaa Tryz.f55 0) L M d c H E J K [.l [] [57,56,55,1,3] [1] (qaa Tryz.f55 1) (qb8 a E 0 M d c H E J K) .ret (qgw q)])):
 Rt 55 [.agg (cl C a b A F G L)] [cB q]:=
 h.of
def qcl(a:Int)(A:LL)(b:Int)(C:LL)(c d:Int)(E F G H:LL):St:=
 { env:=envOf 147 [(1,vP 1),(3,vI a),(98,vF 5 A),(99,vI (A.length:Int)),(100,vI b)],boxes:=[(1,[.sl .free 4 C,lI c,lI d,.sl .free 8 E,.sl .free 6 F,.sl .free 5 G,.sl .free 3 H])] }
def qfp(q:Bool):St:=
 { env:=envOf 147 [(2,.al (.one (.sb q)))],boxes:=[] }
def y2A(A:LL)(a:Int)(q:Bool)(b c:Int)(r s:Bool)(d:Int)(t:Bool)(l:List O):List O:=y2x A a q b c r s (.v (d-1)::.r 158 [cI b,cI 0,cI (d-1)] [cB t]::l)
theorem qHm(h:Oo (y2A A b r c f s t a q [.n q true])):
 Tp (qaa Tryz.f55 2) (qcl a A b C d e E F G H) .ret (qfp false):=
 h.lp [2] []
theorem qHn(h:Oo (y2A A c q b f s t a r [.n r false,.n q true,.b (b != 0) true])):
 Tp (qaa Tryz.f55 2) (qcl a A c C d e E F G H) .ret (qfp false):=
 h.lp [2] []
theorem qHo(h:Oo (y2A A c q b d t u a r [.n r false,.n q true,.b (b != 0) false,.r 158 [cI d,cI (-1000000),cI 1000000] [cB s],.n s true])):
 Tp (qaa Tryz.f55 2) (qcl a A c C e f E F G H) .ret (qfp false):=
 h.lp [2] []
theorem qHp(h:Oo (y2A A b q c f t u a r [.n r false,.n q true,.b (c != 0) false,.r 158 [cI f,cI (-1000000),cI 1000000] [cB s],.n s false,.u b])):
 Tp (qaa Tryz.f55 2) (qcl a A b C d e E F G H) .normal (qcl a A (b+1) C d e E F G H):=
 h.lp [100,99,98,3,1] [1]
theorem qHq(h:Oo (y2A A b q c d t u a r [.n r false,.n q false,.r 158 [cI d,cI (-1000000),cI 1000000] [cB s],.n s true])):
 Tp (qaa Tryz.f55 2) (qcl a A b C e f E F G H) .ret (qfp false):=
 h.lp [2] []
theorem qHr(h:Oo (y2A A b q e f t u a r [.n r false,.n q false,.r 158 [cI f,cI (-1000000),cI 1000000] [cB s],.n s false,.u b])):
 Tp (qaa Tryz.f55 2) (qcl a A b C c d E F G H) .normal (qcl a A (b+1) C c d E F G H):=
 h.lp [100,99,98,3,1] [1]
def qjQ(a:Int)(A:LL)(b c:Int)(C E F G:LL):St:=
 { env:=envOf 147 [(1,vP 1),(3,vI a)],boxes:=[(1,[.sl .free 4 A,lI b,lI c,.sl .free 8 C,.sl .free 6 E,.sl .free 5 F,.sl .free 3 G])] }
theorem qHs(h:Oo [.f A b false]):
 Tp (qaa Tryz.f55 2) (qcl a A b C c d E F G H) (.exit 4) (qjQ a C c d E F G H):=
 h.lp [1,3] [1]
theorem qHt(h:Oo (y3g C a b r A G H (qaa Tryz.f55 0) R S f c J E K L [.l [] [57,56,55,1,3] [1] (qaa Tryz.f55 1) (qb8 a E 0 S f c J E K L) (.exit 2) (qhL a M d e N P F Q),.l [] [100,99,98,3,1] [1] (qaa Tryz.f55 2) (qcl a F 0 M d e N P F Q) .ret (qfp q)])):
 Rt 55 [.agg (cl C a b A G H R)] [cB q]:=
 h.of
def qdz(a:Int)(A:LL)(b:Int):St:=
 { env:=envOf 147 [(3,vI a),(128,vF 3 A),(129,vI (A.length:Int)),(130,vI b)],boxes:=[] }
def qhM(q:Bool):St:=
 { env:=envOf 147 [(2,.al (.one (.sb q)))],boxes:=[] }
theorem qHu(h:Oo [.i A b [I c,I d,B r],.v (a-1),.r 158 [cI c,cI 0,cI (a-1)] [cB q],.n q true]):
 Tp (qaa Tryz.f55 3) (qdz a A b) .ret (qhM false):=
 h.lp [2] []
theorem qHv(h:Oo [.i A b [I c,I d,B s],.v (a-1),.r 158 [cI c,cI 0,cI (a-1)] [cB q],.n q false,.r 158 [cI d,cI 0,cI 3] [cB r],.n r true]):
 Tp (qaa Tryz.f55 3) (qdz a A b) .ret (qhM false):=
 h.lp [2] []
theorem qHw(h:Oo [.i A b [I c,I d,B s],.v (a-1),.r 158 [cI c,cI 0,cI (a-1)] [cB q],.n q false,.r 158 [cI d,cI 0,cI 3] [cB r],.n r false,.u b]):
 Tp (qaa Tryz.f55 3) (qdz a A b) .normal (qdz a A (b+1)):=
 h.lp [130,129,128,3] []
def qmX:St:=
 { env:=envOf 147 [],boxes:=[] }
theorem qHx(h:Oo [.f A a false]):
 Tp (qaa Tryz.f55 3) (qdz b A a) (.exit 6) qmX:=
 h.lp [] []
theorem qHy(h:Oo (y3g C a b r A G H (qaa Tryz.f55 0) S U f c J E K L [.l [] [57,56,55,1,3] [1] (qaa Tryz.f55 1) (qb8 a E 0 U f c J E K L) (.exit 2) (qhL a M d e N P F Q),.l [] [100,99,98,3,1] [1] (qaa Tryz.f55 2) (qcl a F 0 M d e N P F Q) (.exit 4) (qjQ a V g i W X Y R),.l [] [130,129,128,3] [] (qaa Tryz.f55 3) (qdz a R 0) .ret (qhM q)])):
 Rt 55 [.agg (cl C a b A G H S)] [cB q]:=
 h.of
theorem qHz(h:Oo (y3g C a b q A G H (qaa Tryz.f55 0) S U f c J E K L [.l [] [57,56,55,1,3] [1] (qaa Tryz.f55 1) (qb8 a E 0 U f c J E K L) (.exit 2) (qhL a M d e N P F Q),.l [] [100,99,98,3,1] [1] (qaa Tryz.f55 2) (qcl a F 0 M d e N P F Q) (.exit 4) (qjQ a V g i W X Y R),.l [] [130,129,128,3] [] (qaa Tryz.f55 3) (qdz a R 0) (.exit 6) qmX])):
 Rt 55 [.agg (cl C a b A G H S)] [cB true]:=
 h.of
