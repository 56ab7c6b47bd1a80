import Derived.Test.YtdchjefneblpgaaGE
set_option linter.unusedVariables false
set_option linter.unusedSimpArgs false
namespace Go.Proofs.Ytdchjefneblpgaa
open Go.Sx Go.RowKit
variable {a b c d e f g : Int} {A : aE} {q r s t : Bool}
def NC(a:Int)(l:List O):List O:=.b (a==2) true::l
def ND(a b:Int)(q r:Bool)(l:List O):List O:=NC a (.r 56 [ao b,ao 0,ao 999] [au q]::.r 56 [ao a,ao 1,ao 8] [au r]::l)
theorem WZ(h:al (ND a b r q [.n q true])):
 aA 57 [.agg (aX a b c A)] [au false]:=
 h.of
def F1(a b:Int)(q r:Bool)(l:List O):List O:=ND a b q r (.n r false::l)
theorem W0(h:al (F1 a b q r [.n q true])):
 aA 57 [.agg (aX a b c A)] [au false]:=
 h.of
theorem W1(h:al (F1 a b q r [.n q false,.b (!c==0) true])):
 aA 57 [.agg (aX a b c A)] [au false]:=
 h.of
def NE(a b:Int)(q r:Bool)(c:Int)(l:List O):List O:=F1 a b q r (.n q false::.b (!c==0) false::l)
theorem W2(h:al (NE a b q r c [.b (decide ((A.length:Int)>2)) true])):
 aA 57 [.agg (aX a b c A)] [au false]:=
 h.of
def w8(a b:Int)(q r:Bool)(c:Int)(A:aE)(l:List O):List O:=NE a b q r c (.b (decide ((A.length:Int)>2)) false::l)
theorem W3(h:al (w8 a b q r c A [.b (a==8) true,.b (decide ((A.length:Int)>0)) true])):
 aA 57 [.agg (aX a b c A)] [au false]:=
 h.of
def gg(a b c:Int)(A:aE)(d:Int):aG:=bR 93 [(1,bC 1),(5,bB d)] [(1,[aS a,aS b,aS c,.aa .free 1 A])]
def nK(q:Bool):aG:=bR 93 [(2,.aN (.one (.bP q)))] []
def F5(A:aE)(a b:Int)(q:Bool)(l:List O):List O:=.i A a [I b]::.r 56 [ao b,ao 0,ao 7] [au q]::l
theorem DZ(h:al (F5 A a b q [.n q true])):
 bp (aF Try.f57 0) (gg c d e A a) .ret (nK false):=
 h.bu [2] []
def NI(A:aE)(a b:Int)(q:Bool)(c d:Int)(l:List O):List O:=F5 A a b q (.n q false::.b (decide (a>0)) true::.p ((0:Int)<=0)::.p (0<(A.length:Int))::.e A 0 [I c]::.p ((0:Int)<=1)::.p (1<(A.length:Int))::.e A 1 [I d]::l)
theorem W4(h:al (NI A a c q d b [.b (d==b) true])):
 bp (aF Try.f57 0) (gg e f g A a) .ret (nK false):=
 h.bu [2] []
theorem W5(h:al (NI A a f q g d [.b (g==d) false,.u a])):
 bp (aF Try.f57 0) (gg b c e A a) .normal (gg b c e A (a+1)):=
 h.bu [5,1] [1]
theorem LJ(h:al (F5 A a e q [.n q false,.b (decide (a>0)) false,.u a])):
 bp (aF Try.f57 0) (gg b c d A a) .normal (gg b c d A (a+1)):=
 h.bu [5,1] [1]
def oH:aG:=bR 93 [] []
theorem D0(h:al [.f A a false]):
 bp (aF Try.f57 0) (gg b c d A a) (.exit 1) oH:=
 h.bu [] []
theorem W6(h:al (w8 a b q r c A [.b (a==8) true,.b (decide ((A.length:Int)>0)) false,.l [] [5,1] [1] (aF Try.f57 0) (gg a b c A 0) .ret (nK s)])):
 aA 57 [.agg (aX a b c A)] [au s]:=
 h.of
theorem W7(h:al (w8 a b q r c A [.b (a==8) true,.b (decide ((A.length:Int)>0)) false,.l [] [5,1] [1] (aF Try.f57 0) (gg a b c A 0) (.exit 1) oH])):
 aA 57 [.agg (aX a b c A)] [au true]:=
 h.of
theorem Wg(h:al (w8 a b q r c A [.b (a==8) false,.l [] [5,1] [1] (aF Try.f57 0) (gg a b c A 0) .ret (nK s)])):
 aA 57 [.agg (aX a b c A)] [au s]:=
 h.of
theorem Wh(h:al (w8 a b q r c A [.b (a==8) false,.l [] [5,1] [1] (aF Try.f57 0) (gg a b c A 0) (.exit 1) oH])):
 aA 57 [.agg (aX a b c A)] [au true]:=
 h.of
def NJ(a:Int)(l:List O):List O:=.b (a==2) false::l
def NK(a:Int)(l:List O):List O:=NJ a (.b (a==3) true::l)
def F6(a b:Int)(q:Bool)(c:Int)(r s:Bool)(l:List O):List O:=NK a (.r 56 [ao b,ao 1,ao 10] [au q]::.a .wr::.r 56 [ao c,ao 0,ao (IntKind.i64.wrap (b-1))] [au r]::.r 56 [ao a,ao 1,ao 8] [au s]::l)
theorem Wi(h:al (F6 a b r c s q [.n q true])):
 aA 57 [.agg (aX a b c A)] [au false]:=
 h.of
theorem Wj(h:al (F6 a b q c s r [.n r false,.n q true])):
 aA 57 [.agg (aX a b c A)] [au false]:=
 h.of
def F7(a b:Int)(q:Bool)(c:Int)(r s:Bool)(l:List O):List O:=F6 a b q c r s (.n s false::.n q false::l)
theorem Wk(h:al (F7 a b q c r s [.n r true])):
 aA 57 [.agg (aX a b c A)] [au false]:=
 h.of
theorem Wl(h:al (F7 a b q c r s [.n r false,.b (decide ((A.length:Int)>2)) true])):
 aA 57 [.agg (aX a b c A)] [au false]:=
 h.of
def w'(a b:Int)(q:Bool)(c:Int)(r s:Bool)(A:aE)(l:List O):List O:=F7 a b q c r s (.n r false::.b (decide ((A.length:Int)>2)) false::l)
theorem Wm(h:al (w' a b q c r s A [.b (a==8) true,.b (decide ((A.length:Int)>0)) true])):
 aA 57 [.agg (aX a b c A)] [au false]:=
 h.of
theorem Wn(h:al (w' a b q c r s A [.b (a==8) true,.b (decide ((A.length:Int)>0)) false,.l [] [5,1] [1] (aF Try.f57 0) (gg a b c A 0) .ret (nK t)])):
 aA 57 [.agg (aX a b c A)] [au t]:=
 h.of
theorem Wo(h:al (w' a b q c r s A [.b (a==8) true,.b (decide ((A.length:Int)>0)) false,.l [] [5,1] [1] (aF Try.f57 0) (gg a b c A 0) (.exit 1) oH])):
 aA 57 [.agg (aX a b c A)] [au true]:=
 h.of
theorem Wp(h:al (w' a b q c r s A [.b (a==8) false,.l [] [5,1] [1] (aF Try.f57 0) (gg a b c A 0) .ret (nK t)])):
 aA 57 [.agg (aX a b c A)] [au t]:=
 h.of
theorem Wq(h:al (w' a b q c r s A [.b (a==8) false,.l [] [5,1] [1] (aF Try.f57 0) (gg a b c A 0) (.exit 1) oH])):
 aA 57 [.agg (aX a b c A)] [au true]:=
 h.of
def Af(a:Int)(l:List O):List O:=NJ a (.b (a==3) false::l)
def Ag(a:Int)(l:List O):List O:=Af a (.b (a==4) true::l)
def NR(a b:Int)(q r:Bool)(l:List O):List O:=Ag a (.r 56 [ao b,ao 0,ao 99] [au q]::.r 56 [ao a,ao 1,ao 8] [au r]::l)
theorem Wr(h:al (NR a b r q [.n q true])):
 aA 57 [.agg (aX a b c A)] [au false]:=
 h.of
def Gg(a b:Int)(q r:Bool)(l:List O):List O:=NR a b q r (.n r false::l)
theorem Ws(h:al (Gg a b q r [.n q true])):
 aA 57 [.agg (aX a b c A)] [au false]:=
 h.of
theorem Wt(h:al (Gg a b q r [.n q false,.b (!c==0) true])):
 aA 57 [.agg (aX a b c A)] [au false]:=
 h.of
def NS(a b:Int)(q r:Bool)(c:Int)(l:List O):List O:=Gg a b q r (.n q false::.b (!c==0) false::l)
theorem Wu(h:al (NS a b q r c [.b (decide ((A.length:Int)>2)) true])):
 aA 57 [.agg (aX a b c A)] [au false]:=
 h.of
def xj(a b:Int)(q r:Bool)(c:Int)(A:aE)(l:List O):List O:=NS a b q r c (.b (decide ((A.length:Int)>2)) false::l)
theorem Wv(h:al (xj a b q r c A [.b (a==8) true,.b (decide ((A.length:Int)>0)) true])):
 aA 57 [.agg (aX a b c A)] [au false]:=
 h.of
theorem Ww(h:al (xj a b q r c A [.b (a==8) true,.b (decide ((A.length:Int)>0)) false,.l [] [5,1] [1] (aF Try.f57 0) (gg a b c A 0) .ret (nK s)])):
 aA 57 [.agg (aX a b c A)] [au s]:=
 h.of
theorem Wx(h:al (xj a b q r c A [.b (a==8) true,.b (decide ((A.length:Int)>0)) false,.l [] [5,1] [1] (aF Try.f57 0) (gg a b c A 0) (.exit 1) oH])):
 aA 57 [.agg (aX a b c A)] [au true]:=
 h.of
theorem Wy(h:al (xj a b q r c A [.b (a==8) false,.l [] [5,1] [1] (aF Try.f57 0) (gg a b c A 0) .ret (nK s)])):
 aA 57 [.agg (aX a b c A)] [au s]:=
 h.of
theorem Wz(h:al (xj a b q r c A [.b (a==8) false,.l [] [5,1] [1] (aF Try.f57 0) (gg a b c A 0) (.exit 1) oH])):
 aA 57 [.agg (aX a b c A)] [au true]:=
 h.of
def Gu(a:Int)(l:List O):List O:=Af a (.b (a==4) false::l)
def Ob(a:Int)(q:Bool)(l:List O):List O:=Gu a (.r 56 [ao a,ao 1,ao 8] [au q]::l)
theorem WA(h:al (Ob a q [.n q true])):
 aA 57 [.agg (aX a b c A)] [au false]:=
 h.of
def Oc(a:Int)(q:Bool)(l:List O):List O:=Ob a q (.n q false::l)
theorem WB(h:al (Oc a q [.b (!b==0) true])):
 aA 57 [.agg (aX a b c A)] [au false]:=
 h.of
def Od(a:Int)(q:Bool)(b:Int)(l:List O):List O:=Oc a q (.b (!b==0) false::l)
theorem WC(h:al (Od a q b [.b (!c==0) true])):
 aA 57 [.agg (aX a b c A)] [au false]:=
 h.of
def Oe(a:Int)(q:Bool)(b c:Int)(l:List O):List O:=Od a q b (.b (!c==0) false::l)
theorem WD(h:al (Oe a q b c [.b (decide ((A.length:Int)>2)) true])):
 aA 57 [.agg (aX a b c A)] [au false]:=
 h.of
def xl(a:Int)(q:Bool)(b c:Int)(A:aE)(l:List O):List O:=Oe a q b c (.b (decide ((A.length:Int)>2)) false::l)
theorem WE(h:al (xl a q b c A [.b (a==8) true,.b (decide ((A.length:Int)>0)) true])):
 aA 57 [.agg (aX a b c A)] [au false]:=
 h.of
theorem WG(h:al (xl a q b c A [.b (a==8) true,.b (decide ((A.length:Int)>0)) false,.l [] [5,1] [1] (aF Try.f57 0) (gg a b c A 0) .ret (nK r)])):
 aA 57 [.agg (aX a b c A)] [au r]:=
 h.of
theorem V7(h:al (xl a q b c A [.b (a==8) true,.b (decide ((A.length:Int)>0)) false,.l [] [5,1] [1] (aF Try.f57 0) (gg a b c A 0) (.exit 1) oH])):
 aA 57 [.agg (aX a b c A)] [au true]:=
 h.of
theorem V8(h:al (xl a q b c A [.b (a==8) false,.l [] [5,1] [1] (aF Try.f57 0) (gg a b c A 0) .ret (nK r)])):
 aA 57 [.agg (aX a b c A)] [au r]:=
 h.of
theorem V9(h:al (xl a q b c A [.b (a==8) false,.l [] [5,1] [1] (aF Try.f57 0) (gg a b c A 0) (.exit 1) oH])):
 aA 57 [.agg (aX a b c A)] [au true]:=
 h.of
def NF(a b:Int)(q:Bool)(l:List O):List O:=NC a (.r 49 [ao b,ao 0,ao 999] [au q]::l)
theorem V'(h:al (NF a b q [.n q true])):
 aA 50 [.agg (aX a b c A)] [au false]:=
 h.of
def NG(a b:Int)(q:Bool)(l:List O):List O:=NF a b q (.n q false::l)
theorem Wa(h:al (NG a b q [.b (c != 0) true])):
 aA 50 [.agg (aX a b c A)] [au false]:=
 h.of
def NH(a b:Int)(q:Bool)(c:Int)(l:List O):List O:=NG a b q (.b (c != 0) false::l)
theorem Wb(h:al (NH a b q c [.b (decide ((A.length:Int)>2)) true])):
 aA 50 [.agg (aX a b c A)] [au false]:=
 h.of
def w9(a b:Int)(q:Bool)(c:Int)(A:aE)(l:List O):List O:=NH a b q c (.b (decide ((A.length:Int)>2)) false::l)
theorem Wc(h:al (w9 a b q c A [.b (a==8) true,.b (decide ((A.length:Int)>0)) true])):
 aA 50 [.agg (aX a b c A)] [au false]:=
 h.of
def F2(a b:Int)(q:Bool)(c:Int)(A:aE)(l:List O):List O:=w9 a b q c A (.b (a==8) true::.b (decide ((A.length:Int)>0)) false::l)
def F3(a b:Int)(q:Bool)(c:Int)(A:aE)(d e:Int)(l:List O):List O:=F2 a b q c A (.b ((A.length:Int)==2) true::.p ((0:Int)<=0)::.p (0<(A.length:Int))::.e A 0 [I d]::.p ((0:Int)<=1)::.p (1<(A.length:Int))::.e A 1 [I e]::l)
theorem Wd(h:al (F3 a b q c A d e [.b (d==e) true])):
 aA 50 [.agg (aX a b c A)] [au false]:=
 h.of
def cR(A:aE)(a:Int):aG:=bR 101 [(91,eB 1 A),(92,bB (A.length:Int)),(93,bB a)] []
def e6(q:Bool):aG:=bR 101 [(2,.aN (.one (.bP q)))] []
theorem We(h:al [.i A a [I b],.r 49 [ao b,ao 0,ao 7] [au q],.n q true]):
 bp (aF Try.f50 0) (cR A a) .ret (e6 false):=
 h.bu [2] []
theorem Wf(h:al [.i A a [I b],.r 49 [ao b,ao 0,ao 7] [au q],.n q false,.u a]):
 bp (aF Try.f50 0) (cR A a) .normal (cR A (a+1)):=
 h.bu [93,92,91] []
def fh:aG:=bR 101 [] []
theorem XH(h:al [.f A a false]):
 bp (aF Try.f50 0) (cR A a) (.exit 1) fh:=
 h.bu [] []
theorem XI(h:al (F3 a b q c A d e [.b (d==e) false,.l [] [93,92,91] [] (aF Try.f50 0) (cR A 0) .ret (e6 r)])):
 aA 50 [.agg (aX a b c A)] [au r]:=
 h.of
theorem XJ(h:al (F3 a b q c A d e [.b (d==e) false,.l [] [93,92,91] [] (aF Try.f50 0) (cR A 0) (.exit 1) fh])):
 aA 50 [.agg (aX a b c A)] [au true]:=
 h.of
theorem XK(h:al (F2 a b q c A [.b ((A.length:Int)==2) false,.l [] [93,92,91] [] (aF Try.f50 0) (cR A 0) .ret (e6 r)])):
 aA 50 [.agg (aX a b c A)] [au r]:=
 h.of
theorem XL(h:al (F2 a b q c A [.b ((A.length:Int)==2) false,.l [] [93,92,91] [] (aF Try.f50 0) (cR A 0) (.exit 1) fh])):
 aA 50 [.agg (aX a b c A)] [au true]:=
 h.of
def F4(a b:Int)(q:Bool)(c:Int)(A:aE)(d e:Int)(l:List O):List O:=w9 a b q c A (.b (a==8) false::.b ((A.length:Int)==2) true::.p ((0:Int)<=0)::.p (0<(A.length:Int))::.e A 0 [I d]::.p ((0:Int)<=1)::.p (1<(A.length:Int))::.e A 1 [I e]::l)
theorem XM(h:al (F4 a b q c A d e [.b (d==e) true])):
 aA 50 [.agg (aX a b c A)] [au false]:=
 h.of
theorem XN(h:al (F4 a b q c A d e [.b (d==e) false,.l [] [93,92,91] [] (aF Try.f50 0) (cR A 0) .ret (e6 r)])):
 aA 50 [.agg (aX a b c A)] [au r]:=
 h.of
theorem XO(h:al (F4 a b q c A d e [.b (d==e) false,.l [] [93,92,91] [] (aF Try.f50 0) (cR A 0) (.exit 1) fh])):
 aA 50 [.agg (aX a b c A)] [au true]:=
 h.of
theorem XP(h:al (w9 a b q c A [.b (a==8) false,.b ((A.length:Int)==2) false,.l [] [93,92,91] [] (aF Try.f50 0) (cR A 0) .ret (e6 r)])):
 aA 50 [.agg (aX a b c A)] [au r]:=
 h.of
theorem XQ(h:al (w9 a b q c A [.b (a==8) false,.b ((A.length:Int)==2) false,.l [] [93,92,91] [] (aF Try.f50 0) (cR A 0) (.exit 1) fh])):
 aA 50 [.agg (aX a b c A)] [au true]:=
 h.of
def NL(a b:Int)(q:Bool)(l:List O):List O:=NK a (.r 49 [ao b,ao 1,ao 10] [au q]::l)
theorem XR(h:al (NL a b q [.n q true])):
 aA 50 [.agg (aX a b c A)] [au false]:=
 h.of
def NM(a b:Int)(q:Bool)(c:Int)(r:Bool)(l:List O):List O:=NL a b q (.n q false::.a .wr::.r 49 [ao c,ao 0,ao (IntKind.i64.wrap (b-1))] [au r]::l)
theorem XS(h:al (NM a b q c r [.n r true])):
 aA 50 [.agg (aX a b c A)] [au false]:=
 h.of
def NN(a b:Int)(q:Bool)(c:Int)(r:Bool)(l:List O):List O:=NM a b q c r (.n r false::l)
theorem XT(h:al (NN a b q c r [.b (decide ((A.length:Int)>2)) true])):
 aA 50 [.agg (aX a b c A)] [au false]:=
 h.of
def xa(a b:Int)(q:Bool)(c:Int)(r:Bool)(A:aE)(l:List O):List O:=NN a b q c r (.b (decide ((A.length:Int)>2)) false::l)
theorem XU(h:al (xa a b q c r A [.b (a==8) true,.b (decide ((A.length:Int)>0)) true])):
 aA 50 [.agg (aX a b c A)] [au false]:=
 h.of
def xi(a b:Int)(q:Bool)(c:Int)(r:Bool)(A:aE)(l:List O):List O:=xa a b q c r A (.b (a==8) true::.b (decide ((A.length:Int)>0)) false::l)
def Ge(a b:Int)(q:Bool)(c:Int)(r:Bool)(A:aE)(d e:Int)(l:List O):List O:=xi a b q c r A (.b ((A.length:Int)==2) true::.p ((0:Int)<=0)::.p (0<(A.length:Int))::.e A 0 [I d]::.p ((0:Int)<=1)::.p (1<(A.length:Int))::.e A 1 [I e]::l)
theorem XV(h:al (Ge a b q c r A d e [.b (d==e) true])):
 aA 50 [.agg (aX a b c A)] [au false]:=
 h.of
theorem XW(h:al (Ge a b q c r A d e [.b (d==e) false,.l [] [93,92,91] [] (aF Try.f50 0) (cR A 0) .ret (e6 s)])):
 aA 50 [.agg (aX a b c A)] [au s]:=
 h.of
theorem XX(h:al (Ge a b q c r A d e [.b (d==e) false,.l [] [93,92,91] [] (aF Try.f50 0) (cR A 0) (.exit 1) fh])):
 aA 50 [.agg (aX a b c A)] [au true]:=
 h.of
theorem XY(h:al (xi a b q c r A [.b ((A.length:Int)==2) false,.l [] [93,92,91] [] (aF Try.f50 0) (cR A 0) .ret (e6 s)])):
 aA 50 [.agg (aX a b c A)] [au s]:=
 h.of
theorem XZ(h:al (xi a b q c r A [.b ((A.length:Int)==2) false,.l [] [93,92,91] [] (aF Try.f50 0) (cR A 0) (.exit 1) fh])):
 aA 50 [.agg (aX a b c A)] [au true]:=
 h.of
def Gf(a b:Int)(q:Bool)(c:Int)(r:Bool)(A:aE)(d e:Int)(l:List O):List O:=xa a b q c r A (.b (a==8) false::.b ((A.length:Int)==2) true::.p ((0:Int)<=0)::.p (0<(A.length:Int))::.e A 0 [I d]::.p ((0:Int)<=1)::.p (1<(A.length:Int))::.e A 1 [I e]::l)
theorem X0(h:al (Gf a b q c r A d e [.b (d==e) true])):
 aA 50 [.agg (aX a b c A)] [au false]:=
 h.of
theorem X1(h:al (Gf a b q c r A d e [.b (d==e) false,.l [] [93,92,91] [] (aF Try.f50 0) (cR A 0) .ret (e6 s)])):
 aA 50 [.agg (aX a b c A)] [au s]:=
 h.of
theorem X2(h:al (Gf a b q c r A d e [.b (d==e) false,.l [] [93,92,91] [] (aF Try.f50 0) (cR A 0) (.exit 1) fh])):
 aA 50 [.agg (aX a b c A)] [au true]:=
 h.of
theorem X3(h:al (xa a b q c r A [.b (a==8) false,.b ((A.length:Int)==2) false,.l [] [93,92,91] [] (aF Try.f50 0) (cR A 0) .ret (e6 s)])):
 aA 50 [.agg (aX a b c A)] [au s]:=
 h.of
theorem X4(h:al (xa a b q c r A [.b (a==8) false,.b ((A.length:Int)==2) false,.l [] [93,92,91] [] (aF Try.f50 0) (cR A 0) (.exit 1) fh])):
 aA 50 [.agg (aX a b c A)] [au true]:=
 h.of
def NT(a b:Int)(q:Bool)(l:List O):List O:=Ag a (.r 49 [ao b,ao 0,ao 99] [au q]::l)
theorem X5(h:al (NT a b q [.n q true])):
 aA 50 [.agg (aX a b c A)] [au false]:=
 h.of
def N'(a b:Int)(q:Bool)(l:List O):List O:=NT a b q (.n q false::l)
theorem X6(h:al (N' a b q [.b (c != 0) true])):
 aA 50 [.agg (aX a b c A)] [au false]:=
 h.of
def Oa(a b:Int)(q:Bool)(c:Int)(l:List O):List O:=N' a b q (.b (c != 0) false::l)
theorem Xh(h:al (Oa a b q c [.b (decide ((A.length:Int)>2)) true])):
 aA 50 [.agg (aX a b c A)] [au false]:=
 h.of
def xk(a b:Int)(q:Bool)(c:Int)(A:aE)(l:List O):List O:=Oa a b q c (.b (decide ((A.length:Int)>2)) false::l)
theorem Xi(h:al (xk a b q c A [.b (a==8) true,.b (decide ((A.length:Int)>0)) true])):
 aA 50 [.agg (aX a b c A)] [au false]:=
 h.of
def Gr(a b:Int)(q:Bool)(c:Int)(A:aE)(l:List O):List O:=xk a b q c A (.b (a==8) true::.b (decide ((A.length:Int)>0)) false::l)
def Gs(a b:Int)(q:Bool)(c:Int)(A:aE)(d e:Int)(l:List O):List O:=Gr a b q c A (.b ((A.length:Int)==2) true::.p ((0:Int)<=0)::.p (0<(A.length:Int))::.e A 0 [I d]::.p ((0:Int)<=1)::.p (1<(A.length:Int))::.e A 1 [I e]::l)
theorem Xj(h:al (Gs a b q c A d e [.b (d==e) true])):
 aA 50 [.agg (aX a b c A)] [au false]:=
 h.of
theorem Xk(h:al (Gs a b q c A d e [.b (d==e) false,.l [] [93,92,91] [] (aF Try.f50 0) (cR A 0) .ret (e6 r)])):
 aA 50 [.agg (aX a b c A)] [au r]:=
 h.of
theorem Xl(h:al (Gs a b q c A d e [.b (d==e) false,.l [] [93,92,91] [] (aF Try.f50 0) (cR A 0) (.exit 1) fh])):
 aA 50 [.agg (aX a b c A)] [au true]:=
 h.of
theorem Xm(h:al (Gr a b q c A [.b ((A.length:Int)==2) false,.l [] [93,92,91] [] (aF Try.f50 0) (cR A 0) .ret (e6 r)])):
 aA 50 [.agg (aX a b c A)] [au r]:=
 h.of
theorem Xn(h:al (Gr a b q c A [.b ((A.length:Int)==2) false,.l [] [93,92,91] [] (aF Try.f50 0) (cR A 0) (.exit 1) fh])):
 aA 50 [.agg (aX a b c A)] [au true]:=
 h.of
def Gt(a b:Int)(q:Bool)(c:Int)(A:aE)(d e:Int)(l:List O):List O:=xk a b q c A (.b (a==8) false::.b ((A.length:Int)==2) true::.p ((0:Int)<=0)::.p (0<(A.length:Int))::.e A 0 [I d]::.p ((0:Int)<=1)::.p (1<(A.length:Int))::.e A 1 [I e]::l)
theorem Xo(h:al (Gt a b q c A d e [.b (d==e) true])):
 aA 50 [.agg (aX a b c A)] [au false]:=
 h.of
theorem Xp(h:al (Gt a b q c A d e [.b (d==e) false,.l [] [93,92,91] [] (aF Try.f50 0) (cR A 0) .ret (e6 r)])):
 aA 50 [.agg (aX a b c A)] [au r]:=
 h.of
theorem Xq(h:al (Gt a b q c A d e [.b (d==e) false,.l [] [93,92,91] [] (aF Try.f50 0) (cR A 0) (.exit 1) fh])):
 aA 50 [.agg (aX a b c A)] [au true]:=
 h.of
theorem Xr(h:al (xk a b q c A [.b (a==8) false,.b ((A.length:Int)==2) false,.l [] [93,92,91] [] (aF Try.f50 0) (cR A 0) .ret (e6 r)])):
 aA 50 [.agg (aX a b c A)] [au r]:=
 h.of
theorem Xs(h:al (xk a b q c A [.b (a==8) false,.b ((A.length:Int)==2) false,.l [] [93,92,91] [] (aF Try.f50 0) (cR A 0) (.exit 1) fh])):
 aA 50 [.agg (aX a b c A)] [au true]:=
 h.of
def Of(a:Int)(l:List O):List O:=Gu a (.b (a==1) true::.b (a==1) true::l)
theorem Xt(h:al (Of a [.b (b != 0) true])):
 aA 50 [.agg (aX a b c A)] [au false]:=
 h.of
def Og(a b:Int)(l:List O):List O:=Of a (.b (b != 0) false::l)
theorem Xu(h:al (Og a b [.b (c != 0) true])):
 aA 50 [.agg (aX a b c A)] [au false]:=
 h.of
def Oh(a b c:Int)(l:List O):List O:=Og a b (.b (c != 0) false::l)
theorem Xv(h:al (Oh a b c [.b (decide ((A.length:Int)>2)) true])):
 aA 50 [.agg (aX a b c A)] [au false]:=
 h.of
def Aj(a b c:Int)(A:aE)(l:List O):List O:=Oh a b c (.b (decide ((A.length:Int)>2)) false::l)
def Oi(a b c:Int)(A:aE)(l:List O):List O:=Aj a b c A (.b (a==8) true::l)
theorem Xw(h:al (Oi a b c A [.b (decide ((A.length:Int)>0)) true])):
 aA 50 [.agg (aX a b c A)] [au false]:=
 h.of
def Gv(a b c:Int)(A:aE)(l:List O):List O:=Oi a b c A (.b (decide ((A.length:Int)>0)) false::l)
def Gw(a b c:Int)(A:aE)(d e:Int)(l:List O):List O:=Gv a b c A (.b ((A.length:Int)==2) true::.p ((0:Int)<=0)::.p (0<(A.length:Int))::.e A 0 [I d]::.p ((0:Int)<=1)::.p (1<(A.length:Int))::.e A 1 [I e]::l)
theorem Xx(h:al (Gw a b c A d e [.b (d==e) true])):
 aA 50 [.agg (aX a b c A)] [au false]:=
 h.of
theorem Xy(h:al (Gw a b c A d e [.b (d==e) false,.l [] [93,92,91] [] (aF Try.f50 0) (cR A 0) .ret (e6 q)])):
 aA 50 [.agg (aX a b c A)] [au q]:=
 h.of
theorem Xz(h:al (Gw a b c A d e [.b (d==e) false,.l [] [93,92,91] [] (aF Try.f50 0) (cR A 0) (.exit 1) fh])):
 aA 50 [.agg (aX a b c A)] [au true]:=
 h.of
theorem XA(h:al (Gv a b c A [.b ((A.length:Int)==2) false,.l [] [93,92,91] [] (aF Try.f50 0) (cR A 0) .ret (e6 q)])):
 aA 50 [.agg (aX a b c A)] [au q]:=
 h.of
theorem XB(h:al (Gv a b c A [.b ((A.length:Int)==2) false,.l [] [93,92,91] [] (aF Try.f50 0) (cR A 0) (.exit 1) fh])):
 aA 50 [.agg (aX a b c A)] [au true]:=
 h.of
def Gx(a b c:Int)(A:aE)(d e:Int)(l:List O):List O:=Aj a b c A (.b (a==8) false::.b ((A.length:Int)==2) true::.p ((0:Int)<=0)::.p (0<(A.length:Int))::.e A 0 [I d]::.p ((0:Int)<=1)::.p (1<(A.length:Int))::.e A 1 [I e]::l)
theorem XC(h:al (Gx a b c A d e [.b (d==e) true])):
 aA 50 [.agg (aX a b c A)] [au false]:=
 h.of
theorem XD(h:al (Gx a b c A d e [.b (d==e) false,.l [] [93,92,91] [] (aF Try.f50 0) (cR A 0) .ret (e6 q)])):
 aA 50 [.agg (aX a b c A)] [au q]:=
 h.of
theorem XE(h:al (Gx a b c A d e [.b (d==e) false,.l [] [93,92,91] [] (aF Try.f50 0) (cR A 0) (.exit 1) fh])):
 aA 50 [.agg (aX a b c A)] [au true]:=
 h.of
theorem XF(h:al (Aj a b c A [.b (a==8) false,.b ((A.length:Int)==2) false,.l [] [93,92,91] [] (aF Try.f50 0) (cR A 0) .ret (e6 q)])):
 aA 50 [.agg (aX a b c A)] [au q]:=
 h.of
theorem XG(h:al (Aj a b c A [.b (a==8) false,.b ((A.length:Int)==2) false,.l [] [93,92,91] [] (aF Try.f50 0) (cR A 0) (.exit 1) fh])):
 aA 50 [.agg (aX a b c A)] [au true]:=
 h.of
def Oj(a:Int)(l:List O):List O:=Gu a (.b (a==1) false::l)
def Ok(a:Int)(l:List O):List O:=Oj a (.b (a==5) true::.b (a==5) true::l)
theorem W8(h:al (Ok a [.b (b != 0) true])):
 aA 50 [.agg (aX a b c A)] [au false]:=
 h.of
def Ol(a b:Int)(l:List O):List O:=Ok a (.b (b != 0) false::l)
theorem W9(h:al (Ol a b [.b (c != 0) true])):
 aA 50 [.agg (aX a b c A)] [au false]:=
 h.of
def Om(a b c:Int)(l:List O):List O:=Ol a b (.b (c != 0) false::l)
theorem W'(h:al (Om a b c [.b (decide ((A.length:Int)>2)) true])):
 aA 50 [.agg (aX a b c A)] [au false]:=
 h.of
def Ak(a b c:Int)(A:aE)(l:List O):List O:=Om a b c (.b (decide ((A.length:Int)>2)) false::l)
def On(a b c:Int)(A:aE)(l:List O):List O:=Ak a b c A (.b (a==8) true::l)
theorem Xa(h:al (On a b c A [.b (decide ((A.length:Int)>0)) true])):
 aA 50 [.agg (aX a b c A)] [au false]:=
 h.of
def Gh(a b c:Int)(A:aE)(l:List O):List O:=On a b c A (.b (decide ((A.length:Int)>0)) false::l)
def Gi(a b c:Int)(A:aE)(d e:Int)(l:List O):List O:=Gh a b c A (.b ((A.length:Int)==2) true::.p ((0:Int)<=0)::.p (0<(A.length:Int))::.e A 0 [I d]::.p ((0:Int)<=1)::.p (1<(A.length:Int))::.e A 1 [I e]::l)
theorem Xb(h:al (Gi a b c A d e [.b (d==e) true])):
 aA 50 [.agg (aX a b c A)] [au false]:=
 h.of
theorem Xc(h:al (Gi a b c A d e [.b (d==e) false,.l [] [93,92,91] [] (aF Try.f50 0) (cR A 0) .ret (e6 q)])):
 aA 50 [.agg (aX a b c A)] [au q]:=
 h.of
theorem Xd(h:al (Gi a b c A d e [.b (d==e) false,.l [] [93,92,91] [] (aF Try.f50 0) (cR A 0) (.exit 1) fh])):
 aA 50 [.agg (aX a b c A)] [au true]:=
 h.of
theorem Xe(h:al (Gh a b c A [.b ((A.length:Int)==2) false,.l [] [93,92,91] [] (aF Try.f50 0) (cR A 0) .ret (e6 q)])):
 aA 50 [.agg (aX a b c A)] [au q]:=
 h.of
theorem Xf(h:al (Gh a b c A [.b ((A.length:Int)==2) false,.l [] [93,92,91] [] (aF Try.f50 0) (cR A 0) (.exit 1) fh])):
 aA 50 [.agg (aX a b c A)] [au true]:=
 h.of
def Gj(a b c:Int)(A:aE)(d e:Int)(l:List O):List O:=Ak a b c A (.b (a==8) false::.b ((A.length:Int)==2) true::.p ((0:Int)<=0)::.p (0<(A.length:Int))::.e A 0 [I d]::.p ((0:Int)<=1)::.p (1<(A.length:Int))::.e A 1 [I e]::l)
theorem Xg(h:al (Gj a b c A d e [.b (d==e) true])):
 aA 50 [.agg (aX a b c A)] [au false]:=
 h.of
theorem YG(h:al (Gj a b c A d e [.b (d==e) false,.l [] [93,92,91] [] (aF Try.f50 0) (cR A 0) .ret (e6 q)])):
 aA 50 [.agg (aX a b c A)] [au q]:=
 h.of
theorem YH(h:al (Gj a b c A d e [.b (d==e) false,.l [] [93,92,91] [] (aF Try.f50 0) (cR A 0) (.exit 1) fh])):
 aA 50 [.agg (aX a b c A)] [au true]:=
 h.of
theorem YI(h:al (Ak a b c A [.b (a==8) false,.b ((A.length:Int)==2) false,.l [] [93,92,91] [] (aF Try.f50 0) (cR A 0) .ret (e6 q)])):
 aA 50 [.agg (aX a b c A)] [au q]:=
 h.of
theorem YJ(h:al (Ak a b c A [.b (a==8) false,.b ((A.length:Int)==2) false,.l [] [93,92,91] [] (aF Try.f50 0) (cR A 0) (.exit 1) fh])):
 aA 50 [.agg (aX a b c A)] [au true]:=
 h.of
def NU(a:Int)(l:List O):List O:=Oj a (.b (a==5) false::l)
def NV(a:Int)(l:List O):List O:=NU a (.b (a==6) true::.b (a==6) true::l)
theorem YK(h:al (NV a [.b (b != 0) true])):
 aA 50 [.agg (aX a b c A)] [au false]:=
 h.of
def NW(a b:Int)(l:List O):List O:=NV a (.b (b != 0) false::l)
theorem YM(h:al (NW a b [.b (c != 0) true])):
 aA 50 [.agg (aX a b c A)] [au false]:=
 h.of
def NY(a b c:Int)(l:List O):List O:=NW a b (.b (c != 0) false::l)
theorem YN(h:al (NY a b c [.b (decide ((A.length:Int)>2)) true])):
 aA 50 [.agg (aX a b c A)] [au false]:=
 h.of
def Ah(a b c:Int)(A:aE)(l:List O):List O:=NY a b c (.b (decide ((A.length:Int)>2)) false::l)
def NZ(a b c:Int)(A:aE)(l:List O):List O:=Ah a b c A (.b (a==8) true::l)
theorem YO(h:al (NZ a b c A [.b (decide ((A.length:Int)>0)) true])):
 aA 50 [.agg (aX a b c A)] [au false]:=
 h.of
def Gk(a b c:Int)(A:aE)(l:List O):List O:=NZ a b c A (.b (decide ((A.length:Int)>0)) false::l)
def Gl(a b c:Int)(A:aE)(d e:Int)(l:List O):List O:=Gk a b c A (.b ((A.length:Int)==2) true::.p ((0:Int)<=0)::.p (0<(A.length:Int))::.e A 0 [I d]::.p ((0:Int)<=1)::.p (1<(A.length:Int))::.e A 1 [I e]::l)
theorem YP(h:al (Gl a b c A d e [.b (d==e) true])):
 aA 50 [.agg (aX a b c A)] [au false]:=
 h.of
theorem YQ(h:al (Gl a b c A d e [.b (d==e) false,.l [] [93,92,91] [] (aF Try.f50 0) (cR A 0) .ret (e6 q)])):
 aA 50 [.agg (aX a b c A)] [au q]:=
 h.of
theorem YR(h:al (Gl a b c A d e [.b (d==e) false,.l [] [93,92,91] [] (aF Try.f50 0) (cR A 0) (.exit 1) fh])):
 aA 50 [.agg (aX a b c A)] [au true]:=
 h.of
theorem YS(h:al (Gk a b c A [.b ((A.length:Int)==2) false,.l [] [93,92,91] [] (aF Try.f50 0) (cR A 0) .ret (e6 q)])):
 aA 50 [.agg (aX a b c A)] [au q]:=
 h.of
theorem YT(h:al (Gk a b c A [.b ((A.length:Int)==2) false,.l [] [93,92,91] [] (aF Try.f50 0) (cR A 0) (.exit 1) fh])):
 aA 50 [.agg (aX a b c A)] [au true]:=
 h.of
def Gm(a b c:Int)(A:aE)(d e:Int)(l:List O):List O:=Ah a b c A (.b (a==8) false::.b ((A.length:Int)==2) true::.p ((0:Int)<=0)::.p (0<(A.length:Int))::.e A 0 [I d]::.p ((0:Int)<=1)::.p (1<(A.length:Int))::.e A 1 [I e]::l)
theorem YU(h:al (Gm a b c A d e [.b (d==e) true])):
 aA 50 [.agg (aX a b c A)] [au false]:=
 h.of
theorem YV(h:al (Gm a b c A d e [.b (d==e) false,.l [] [93,92,91] [] (aF Try.f50 0) (cR A 0) .ret (e6 q)])):
 aA 50 [.agg (aX a b c A)] [au q]:=
 h.of
theorem YW(h:al (Gm a b c A d e [.b (d==e) false,.l [] [93,92,91] [] (aF Try.f50 0) (cR A 0) (.exit 1) fh])):
 aA 50 [.agg (aX a b c A)] [au true]:=
 h.of
theorem YX(h:al (Ah a b c A [.b (a==8) false,.b ((A.length:Int)==2) false,.l [] [93,92,91] [] (aF Try.f50 0) (cR A 0) .ret (e6 q)])):
 aA 50 [.agg (aX a b c A)] [au q]:=
 h.of
theorem YY(h:al (Ah a b c A [.b (a==8) false,.b ((A.length:Int)==2) false,.l [] [93,92,91] [] (aF Try.f50 0) (cR A 0) (.exit 1) fh])):
 aA 50 [.agg (aX a b c A)] [au true]:=
 h.of
def N0(a:Int)(l:List O):List O:=NU a (.b (a==6) false::l)
def N1(a:Int)(l:List O):List O:=N0 a (.b (a==7) true::.b (a==7) true::l)
theorem YZ(h:al (N1 a [.b (b != 0) true])):
 aA 50 [.agg (aX a b c A)] [au false]:=
 h.of
def N2(a b:Int)(l:List O):List O:=N1 a (.b (b != 0) false::l)
theorem Y0(h:al (N2 a b [.b (c != 0) true])):
 aA 50 [.agg (aX a b c A)] [au false]:=
 h.of
def N3(a b c:Int)(l:List O):List O:=N2 a b (.b (c != 0) false::l)
theorem Y1(h:al (N3 a b c [.b (decide ((A.length:Int)>2)) true])):
 aA 50 [.agg (aX a b c A)] [au false]:=
 h.of
def Ai(a b c:Int)(A:aE)(l:List O):List O:=N3 a b c (.b (decide ((A.length:Int)>2)) false::l)
def N4(a b c:Int)(A:aE)(l:List O):List O:=Ai a b c A (.b (a==8) true::l)
theorem Y2(h:al (N4 a b c A [.b (decide ((A.length:Int)>0)) true])):
 aA 50 [.agg (aX a b c A)] [au false]:=
 h.of
def Gn(a b c:Int)(A:aE)(l:List O):List O:=N4 a b c A (.b (decide ((A.length:Int)>0)) false::l)
def Gp(a b c:Int)(A:aE)(d e:Int)(l:List O):List O:=Gn a b c A (.b ((A.length:Int)==2) true::.p ((0:Int)<=0)::.p (0<(A.length:Int))::.e A 0 [I d]::.p ((0:Int)<=1)::.p (1<(A.length:Int))::.e A 1 [I e]::l)
theorem Y3(h:al (Gp a b c A d e [.b (d==e) true])):
 aA 50 [.agg (aX a b c A)] [au false]:=
 h.of
theorem Y4(h:al (Gp a b c A d e [.b (d==e) false,.l [] [93,92,91] [] (aF Try.f50 0) (cR A 0) .ret (e6 q)])):
 aA 50 [.agg (aX a b c A)] [au q]:=
 h.of
theorem Y5(h:al (Gp a b c A d e [.b (d==e) false,.l [] [93,92,91] [] (aF Try.f50 0) (cR A 0) (.exit 1) fh])):
 aA 50 [.agg (aX a b c A)] [au true]:=
 h.of
theorem Yg(h:al (Gn a b c A [.b ((A.length:Int)==2) false,.l [] [93,92,91] [] (aF Try.f50 0) (cR A 0) .ret (e6 q)])):
 aA 50 [.agg (aX a b c A)] [au q]:=
 h.of
theorem Yh(h:al (Gn a b c A [.b ((A.length:Int)==2) false,.l [] [93,92,91] [] (aF Try.f50 0) (cR A 0) (.exit 1) fh])):
 aA 50 [.agg (aX a b c A)] [au true]:=
 h.of
def Gq(a b c:Int)(A:aE)(d e:Int)(l:List O):List O:=Ai a b c A (.b (a==8) false::.b ((A.length:Int)==2) true::.p ((0:Int)<=0)::.p (0<(A.length:Int))::.e A 0 [I d]::.p ((0:Int)<=1)::.p (1<(A.length:Int))::.e A 1 [I e]::l)
theorem Yi(h:al (Gq a b c A d e [.b (d==e) true])):
 aA 50 [.agg (aX a b c A)] [au false]:=
 h.of
theorem Yj(h:al (Gq a b c A d e [.b (d==e) false,.l [] [93,92,91] [] (aF Try.f50 0) (cR A 0) .ret (e6 q)])):
 aA 50 [.agg (aX a b c A)] [au q]:=
 h.of
theorem Yk(h:al (Gq a b c A d e [.b (d==e) false,.l [] [93,92,91] [] (aF Try.f50 0) (cR A 0) (.exit 1) fh])):
 aA 50 [.agg (aX a b c A)] [au true]:=
 h.of
theorem Yl(h:al (Ai a b c A [.b (a==8) false,.b ((A.length:Int)==2) false,.l [] [93,92,91] [] (aF Try.f50 0) (cR A 0) .ret (e6 q)])):
 aA 50 [.agg (aX a b c A)] [au q]:=
 h.of
theorem Ym(h:al (Ai a b c A [.b (a==8) false,.b ((A.length:Int)==2) false,.l [] [93,92,91] [] (aF Try.f50 0) (cR A 0) (.exit 1) fh])):
 aA 50 [.agg (aX a b c A)] [au true]:=
 h.of
def N5(a:Int)(l:List O):List O:=N0 a (.b (a==7) false::l)
def N6(a:Int)(l:List O):List O:=N5 a (.b (a==8) true::l)
theorem Yn(h:al (N6 a [.b (b != 0) true])):
 aA 50 [.agg (aX a b c A)] [au false]:=
 h.of
def N7(a b:Int)(l:List O):List O:=N6 a (.b (b != 0) false::l)
theorem Yo(h:al (N7 a b [.b (c != 0) true])):
 aA 50 [.agg (aX a b c A)] [au false]:=
 h.of
def N8(a b c:Int)(l:List O):List O:=N7 a b (.b (c != 0) false::l)
theorem Yp(h:al (N8 a b c [.b (decide ((A.length:Int)>2)) true])):
 aA 50 [.agg (aX a b c A)] [au false]:=
 h.of
def N9(a b c:Int)(A:aE)(l:List O):List O:=N8 a b c (.b (decide ((A.length:Int)>2)) false::.b (a==8) true::l)
theorem Yq(h:al (N9 a b c A [.b (decide ((A.length:Int)>0)) true])):
 aA 50 [.agg (aX a b c A)] [au false]:=
 h.of
def Gy(a b c:Int)(A:aE)(l:List O):List O:=N9 a b c A (.b (decide ((A.length:Int)>0)) false::l)
def Gz(a b c:Int)(A:aE)(d e:Int)(l:List O):List O:=Gy a b c A (.b ((A.length:Int)==2) true::.p ((0:Int)<=0)::.p (0<(A.length:Int))::.e A 0 [I d]::.p ((0:Int)<=1)::.p (1<(A.length:Int))::.e A 1 [I e]::l)
theorem Yr(h:al (Gz a b c A d e [.b (d==e) true])):
 aA 50 [.agg (aX a b c A)] [au false]:=
 h.of
theorem Ys(h:al (Gz a b c A d e [.b (d==e) false,.l [] [93,92,91] [] (aF Try.f50 0) (cR A 0) .ret (e6 q)])):
 aA 50 [.agg (aX a b c A)] [au q]:=
 h.of
theorem Yt(h:al (Gz a b c A d e [.b (d==e) false,.l [] [93,92,91] [] (aF Try.f50 0) (cR A 0) (.exit 1) fh])):
 aA 50 [.agg (aX a b c A)] [au true]:=
 h.of
theorem Yu(h:al (Gy a b c A [.b ((A.length:Int)==2) false,.l [] [93,92,91] [] (aF Try.f50 0) (cR A 0) .ret (e6 q)])):
 aA 50 [.agg (aX a b c A)] [au q]:=
 h.of
theorem Yv(h:al (Gy a b c A [.b ((A.length:Int)==2) false,.l [] [93,92,91] [] (aF Try.f50 0) (cR A 0) (.exit 1) fh])):
 aA 50 [.agg (aX a b c A)] [au true]:=
 h.of
theorem Yw(h:al (N5 a [.b (a==8) false])):
 aA 50 [.agg (aX a b c A)] [au false]:=
 h.of
