import Derived.Test.YtdchjefneblpgaaGreatGE
set_option linter.unusedVariables false
set_option linter.unusedSimpArgs false
namespace Go.Proofs.YtdchjefneblpgaaGreat
open Go.Sx Go.RowKit
variable {a b c d e f g i j k l : Int} {A C E F : af} {q r s t : Bool}
def Us(A:af)(q:Bool)(l:List O):List O:=.r 168 [ae (A.length:Int),ae 1,ae 8] [ao q]::l
theorem aoL(h:ad (Us A q [.n q true])):
 av 121 [.agg (bD A a b)] [ao false]:=
 h.of
def EI(A:af)(q:Bool)(a:Int)(r:Bool)(l:List O):List O:=Us A q (.n q false::.r 168 [ae a,ae 1,ae 4] [ao r]::l)
theorem aoM(h:ad (EI A q a r [.n r true])):
 av 121 [.agg (bD A a b)] [ao false]:=
 h.of
theorem aoN(h:ad (EI A q a r [.n r false,.r 168 [ae b,ae 1,ae 4] [ao s],.n s true])):
 av 121 [.agg (bD A a b)] [ao false]:=
 h.of
def nR(a:Int)(A:af)(b c:Int):aH:=bj 97 [(1,aR 1),(3,aZ a)] [(1,[.J .free 4 A,aw b,aw c])]
def vh(q:Bool):aH:=bj 97 [(2,.aJ (.one (.bc q)))] []
def EJ(A:af)(a b c d:Int)(C:af)(q:Bool)(l:List O):List O:=.i A a (bk b c d C)::.r 243 [.agg (bk b c d C)] [ao q]::l
theorem aoO(h:ad (EJ C d a b c A q [.n q true])):
 a1 (ar Tryz.f121 0) (nR d C e f) .ret (vh false):=
 h.aW [2] []
theorem aoP(h:ad (EJ C b a c d A q [.n q false,.b (!(a==1)==(b==0)) true])):
 a1 (ar Tryz.f121 0) (nR b C e f) .ret (vh false):=
 h.aW [2] []
def hU(a:Int)(A:af)(b c d e f:Int)(C:af)(g:Int):aH:=bj 97 [(1,aR 1),(3,aZ a),(4,aR 4),(5,aZ g)] [(4,[aw d,aw e,aw f,.J .free 1 C]),(1,[.J .free 4 A,aw b,aw c])]
def qO(q:Bool):aH:=bj 97 [(2,.aJ (.one (.bc q)))] []
theorem aoQ(h:ad [.i A a [I b],.b (decide (b>=(C.length:Int))) true]):
 a1 (ar Tryz.f121 1) (hU f C g i c d e A a) .ret (qO false):=
 h.aW [2] []
def EL(A:af)(a b:Int)(C:af)(l:List O):List O:=.i A a [I b]::.b (decide (b>=(C.length:Int))) false::l
theorem aoR(h:ad (EL A c a C [.b (b != 7) true,.b (decide (a<=d)) true])):
 a1 (ar Tryz.f121 1) (hU d C g i b e f A c) .ret (qO false):=
 h.aW [2] []
def AW(A:af)(a b:Int)(C:af)(c d e f g:Int)(E:af)(l:List O):List O:=EL A a b C (.b (c != 7) true::.b (decide (b<=d)) false::.x C b (bk e f g E)::l)
theorem aoS(h:ad (AW C d a A b c g i j E [.b (b==7) true,.b (decide (a>c)) true])):
 a1 (ar Tryz.f121 1) (hU c A k l b e f C d) .ret (qO false):=
 h.aW [2] []
theorem aoT(h:ad (AW C e a A b d c i j E [.b (b==7) true,.b (decide (a>d)) false,.b (c != 5) true,.b (c != 6) true])):
 a1 (ar Tryz.f121 1) (hU d A k l b f g C e) .ret (qO false):=
 h.aW [2] []
theorem aoU(h:ad (AW C c a A b d e k l E [.b (b==7) true,.b (decide (a>d)) false,.b (e != 5) true,.b (e != 6) false,.u c])):
 a1 (ar Tryz.f121 1) (hU d A i j b f g C c) .normal (hU d A i j b f g C (c+1)):=
 h.aW [5,4,1,3] [4,1]
theorem aoV(h:ad (AW C c a A b d g k l E [.b (b==7) true,.b (decide (a>d)) false,.b (g != 5) false,.u c])):
 a1 (ar Tryz.f121 1) (hU d A i j b e f C c) .normal (hU d A i j b e f C (c+1)):=
 h.aW [5,4,1,3] [4,1]
theorem aoW(h:ad (AW C b c A a d j k l E [.b (a==7) false,.u b])):
 a1 (ar Tryz.f121 1) (hU d A g i a e f C b) .normal (hU d A g i a e f C (b+1)):=
 h.aW [5,4,1,3] [4,1]
def AX(A:af)(a b:Int)(C:af)(c d e f:Int)(E:af)(l:List O):List O:=EL A a b C (.b (c != 7) false::.x C b (bk d e f E)::l)
theorem aoX(h:ad (AX C c a A b g i j E [.b (b==7) true,.b (decide (a>d)) true])):
 a1 (ar Tryz.f121 1) (hU d A k l b e f C c) .ret (qO false):=
 h.aW [2] []
theorem aoY(h:ad (AX C d a A b c i j E [.b (b==7) true,.b (decide (a>e)) false,.b (c != 5) true,.b (c != 6) true])):
 a1 (ar Tryz.f121 1) (hU e A k l b f g C d) .ret (qO false):=
 h.aW [2] []
theorem aoZ(h:ad (AX C b c A a d k l E [.b (a==7) true,.b (decide (c>e)) false,.b (d != 5) true,.b (d != 6) false,.u b])):
 a1 (ar Tryz.f121 1) (hU e A i j a f g C b) .normal (hU e A i j a f g C (b+1)):=
 h.aW [5,4,1,3] [4,1]
theorem aoa(h:ad (AX C b c A a g k l E [.b (a==7) true,.b (decide (c>d)) false,.b (g != 5) false,.u b])):
 a1 (ar Tryz.f121 1) (hU d A i j a e f C b) .normal (hU d A i j a e f C (b+1)):=
 h.aW [5,4,1,3] [4,1]
theorem aob(h:ad (AX C b c A a j k l E [.b (a==7) false,.u b])):
 a1 (ar Tryz.f121 1) (hU f A g i a d e C b) .normal (hU f A g i a d e C (b+1)):=
 h.aW [5,4,1,3] [4,1]
def JA(a:Int)(A:af)(b c:Int):aH:=bj 97 [(1,aR 1),(3,aZ a)] [(1,[.J .free 4 A,aw b,aw c])]
theorem aoc(h:ad [.f A a false]):
 a1 (ar Tryz.f121 1) (hU b C c d e f g A a) (.exit 2) (JA b C c d):=
 h.aW [3,1] [1]
theorem aod(h:ad (EJ C b a c d A q [.n q false,.b (!(a==1)==(b==0)) false,.l [] [5,4,1,3] [4,1] (ar Tryz.f121 1) (hU b C e f a c d A 0) .ret (qO r)])):
 a1 (ar Tryz.f121 0) (nR b C e f) .ret (vh r):=
 h.aW [2] []
theorem aoe(h:ad (EJ A a b e f C q [.n q false,.b (!(b==1)==(a==0)) false,.l [] [5,4,1,3] [4,1] (ar Tryz.f121 1) (hU a A c d b e f C 0) (.exit 2) (JA a A c d),.u a])):
 a1 (ar Tryz.f121 0) (nR a A c d) .normal (nR (a+1) A c d):=
 h.aW [3,1] [1]
def JB:aH:=bj 97 [] []
theorem aof(h:ad [.f A a false]):
 a1 (ar Tryz.f121 0) (nR a A b c) (.exit 0) JB:=
 h.aW [] []
theorem aog(h:ad (EI A q a r [.n r false,.r 168 [ae b,ae 1,ae 4] [ao s],.n s false,.l [] [3,1] [1] (ar Tryz.f121 0) (nR 0 A a b) .ret (vh t)])):
 av 121 [.agg (bD A a b)] [ao t]:=
 h.of
theorem aoh(h:ad (EI A q a r [.n r false,.r 168 [ae b,ae 1,ae 4] [ao s],.n s false,.l [] [3,1] [1] (ar Tryz.f121 0) (nR 0 A a b) (.exit 0) JB])):
 av 121 [.agg (bD A a b)] [ao true]:=
 h.of
def Ut(A:af)(q:Bool)(l:List O):List O:=.r 190 [ae (A.length:Int),ae 1,ae 8] [ao q]::l
theorem aoi(h:ad (Ut A q [.n q true])):
 av 179 [.agg (bD A a b)] [ao false]:=
 h.of
def EM(A:af)(q:Bool)(a:Int)(r:Bool)(l:List O):List O:=Ut A q (.n q false::.r 190 [ae a,ae 1,ae 4] [ao r]::l)
theorem aoj(h:ad (EM A q a r [.n r true])):
 av 179 [.agg (bD A a b)] [ao false]:=
 h.of
theorem aok(h:ad (EM A q a r [.n r false,.r 190 [ae b,ae 1,ae 4] [ao s],.n s true])):
 av 179 [.agg (bD A a b)] [ao false]:=
 h.of
def nS(A:af)(a:Int)(C:af)(b c:Int):aH:=bj 90 [(1,aR 1),(26,dJ 4 A),(27,aZ (A.length:Int)),(28,aZ a)] [(1,[.J .free 4 C,aw b,aw c])]
def vi(q:Bool):aH:=bj 90 [(2,.aJ (.one (.bc q)))] []
def EK(A:af)(a b c d:Int)(C:af)(q:Bool)(l:List O):List O:=.i A a (bk b c d C)::.r 273 [.agg (bk b c d C)] [ao q]::l
theorem aol(h:ad (EK A d a b c C q [.n q true])):
 a1 (ar Tryz.f179 0) (nS A d E e f) .ret (vi false):=
 h.aW [2] []
theorem aom(h:ad (EK A b a c d C q [.n q false,.b (!(a==1)==(b==0)) true])):
 a1 (ar Tryz.f179 0) (nS A b E e f) .ret (vi false):=
 h.aW [2] []
def hV(C:af)(a:Int)(E:af)(b c d e f:Int)(A:af)(g:Int):aH:=bj 90 [(1,aR 1),(3,aZ a),(4,aR 4),(26,dJ 4 C),(27,aZ (C.length:Int)),(28,aZ a),(45,dJ 1 A),(46,aZ (A.length:Int)),(47,aZ g)] [(4,[aw d,aw e,aw f,.J .free 1 A]),(1,[.J .free 4 E,aw b,aw c])]
def qP(q:Bool):aH:=bj 90 [(2,.aJ (.one (.bc q)))] []
theorem aon(h:ad [.i A a [I b],.b (decide (b>=(C.length:Int))) true]):
 a1 (ar Tryz.f179 1) (hV E f C g i c d e A a) .ret (qP false):=
 h.aW [2] []
def AY(A:af)(a b:Int)(C:af)(c d e:Int)(E:af)(l:List O):List O:=EL A a b C (.x C b (bk c d e E)::l)
theorem aoo(h:ad (AY C c a A g i j F [.b (b==7) true,.b (decide (a>d)) true])):
 a1 (ar Tryz.f179 1) (hV E d A k l b e f C c) .ret (qP false):=
 h.aW [2] []
def wg(A:af)(a b:Int)(C:af)(c d e:Int)(E:af)(f g:Int)(l:List O):List O:=AY A a b C c d e E (.b (f==7) true::.b (decide (b>g)) false::l)
theorem aop(h:ad (wg C d a A b i j F c e [.b (b != 5) true,.b (b != 6) true])):
 a1 (ar Tryz.f179 1) (hV E e A k l c f g C d) .ret (qP false):=
 h.aW [2] []
theorem aoq(h:ad (wg C e a A c i j F b d [.b (c != 5) true,.b (c != 6) false,.b (b != 7) true,.b (decide (a<=d)) true])):
 a1 (ar Tryz.f179 1) (hV E d A k l b f g C e) .ret (qP false):=
 h.aW [2] []
theorem aor(h:ad (wg C c a A e k l F b d [.b (e != 5) true,.b (e != 6) false,.b (b != 7) true,.b (decide (a<=d)) false,.u c])):
 a1 (ar Tryz.f179 1) (hV E d A i j b f g C c) .normal (hV E d A i j b f g C (c+1)):=
 h.aW [47,46,45,1,4,3,28,27,26] [4,1]
theorem aos(h:ad (wg C b c A d k l F a e [.b (d != 5) true,.b (d != 6) false,.b (a != 7) false,.u b])):
 a1 (ar Tryz.f179 1) (hV E e A i j a f g C b) .normal (hV E e A i j a f g C (b+1)):=
 h.aW [47,46,45,1,4,3,28,27,26] [4,1]
theorem aot(h:ad (wg C d a A e i j F b c [.b (e != 5) false,.b (b != 7) true,.b (decide (a<=c)) true])):
 a1 (ar Tryz.f179 1) (hV E c A k l b f g C d) .ret (qP false):=
 h.aW [2] []
theorem aou(h:ad (wg C c a A g k l F b d [.b (g != 5) false,.b (b != 7) true,.b (decide (a<=d)) false,.u c])):
 a1 (ar Tryz.f179 1) (hV E d A i j b e f C c) .normal (hV E d A i j b e f C (c+1)):=
 h.aW [47,46,45,1,4,3,28,27,26] [4,1]
theorem aov(h:ad (wg C b c A g k l F a d [.b (g != 5) false,.b (a != 7) false,.u b])):
 a1 (ar Tryz.f179 1) (hV E d A i j a e f C b) .normal (hV E d A i j a e f C (b+1)):=
 h.aW [47,46,45,1,4,3,28,27,26] [4,1]
theorem aow(h:ad (AY C c a A g i j F [.b (b==7) false,.b (b != 7) true,.b (decide (a<=d)) true])):
 a1 (ar Tryz.f179 1) (hV E d A k l b e f C c) .ret (qP false):=
 h.aW [2] []
theorem aox(h:ad (AY C b c A j k l F [.b (a==7) false,.b (a != 7) true,.b (decide (c<=d)) false,.u b])):
 a1 (ar Tryz.f179 1) (hV E d A g i a e f C b) .normal (hV E d A g i a e f C (b+1)):=
 h.aW [47,46,45,1,4,3,28,27,26] [4,1]
theorem aoy(h:ad (AY C b c A j k l F [.b (a==7) false,.b (a != 7) false,.u b])):
 a1 (ar Tryz.f179 1) (hV E f A g i a d e C b) .normal (hV E f A g i a d e C (b+1)):=
 h.aW [47,46,45,1,4,3,28,27,26] [4,1]
def JC(A:af)(a:Int)(C:af)(b c:Int):aH:=bj 90 [(1,aR 1),(26,dJ 4 A),(27,aZ (A.length:Int)),(28,aZ a)] [(1,[.J .free 4 C,aw b,aw c])]
theorem aoz(h:ad [.f C a false]):
 a1 (ar Tryz.f179 1) (hV A b E c d e f g C a) (.exit 2) (JC A b E c d):=
 h.aW [28,27,26,1] [1]
theorem an0(h:ad (EK A b a c d C q [.n q false,.b (!(a==1)==(b==0)) false,.l [] [47,46,45,1,4,3,28,27,26] [4,1] (ar Tryz.f179 1) (hV A b E e f a c d C 0) .ret (qP r)])):
 a1 (ar Tryz.f179 0) (nS A b E e f) .ret (vi r):=
 h.aW [2] []
theorem an1(h:ad (EK A a b e f E q [.n q false,.b (!(b==1)==(a==0)) false,.l [] [47,46,45,1,4,3,28,27,26] [4,1] (ar Tryz.f179 1) (hV A a C c d b e f E 0) (.exit 2) (JC A a C c d),.u a])):
 a1 (ar Tryz.f179 0) (nS A a C c d) .normal (nS A (a+1) C c d):=
 h.aW [28,27,26,1] [1]
def JD:aH:=bj 90 [] []
theorem an2(h:ad [.f A a false]):
 a1 (ar Tryz.f179 0) (nS A a C b c) (.exit 0) JD:=
 h.aW [] []
theorem an3(h:ad (EM A q a r [.n r false,.r 190 [ae b,ae 1,ae 4] [ao s],.n s false,.l [] [28,27,26,1] [1] (ar Tryz.f179 0) (nS A 0 A a b) .ret (vi t)])):
 av 179 [.agg (bD A a b)] [ao t]:=
 h.of
theorem an4(h:ad (EM A q a r [.n r false,.r 190 [ae b,ae 1,ae 4] [ao s],.n s false,.l [] [28,27,26,1] [1] (ar Tryz.f179 0) (nS A 0 A a b) (.exit 0) JD])):
 av 179 [.agg (bD A a b)] [ao true]:=
 h.of
def LA(a:Int)(q:Bool)(b c:Int)(r:Bool)(l:List O):List O:=.r 168 [ae a,ae 0,ae 7] [ao q]::.b q true::.r 244 [.agg [I b,I c]] [ao r]::l
theorem an5(h:ad (LA a q b c r [.b r true,.r 168 [ae d,ae 0,ae 99] [ao s],.b s true,.r 168 [ae e,ae 0,ae 999] [ao t]])):
 av 122 [.agg (bi a b c d e)] [ao t]:=
 h.of
theorem an6(h:ad (LA a q b c r [.b r true,.r 168 [ae d,ae 0,ae 99] [ao s],.b s false])):
 av 122 [.agg (bi a b c d e)] [ao false]:=
 h.of
theorem an7(h:ad (LA a q b c r [.b r false])):
 av 122 [.agg (bi a b c d e)] [ao false]:=
 h.of
theorem an8(h:ad [.r 168 [ae a,ae 0,ae 7] [ao q],.b q false]):
 av 122 [.agg (bi a b c d e)] [ao false]:=
 h.of
theorem an9(h:ad [.r 190 [ae a,ae 0,ae 7] [ao q],.b q true,.r 274 [.agg [I b,I c]] [ao r],.b r true,.r 275 [ae d,ae e] [ao s]]):
 av 180 [.agg (bi a b c d e)] [ao s]:=
 h.of
theorem apB(h:ad [.r 190 [ae a,ae 0,ae 7] [ao q],.b q true,.r 274 [.agg [I b,I c]] [ao r],.b r false]):
 av 180 [.agg (bi a b c d e)] [ao false]:=
 h.of
theorem apC(h:ad [.r 190 [ae a,ae 0,ae 7] [ao q],.b q false]):
 av 180 [.agg (bi a b c d e)] [ao false]:=
 h.of
theorem apD(h:ad [.r 168 [ae a,ae 0,ae 3] [ao q],.b q true,.r 168 [ae b,ae 0,ae 6] [ao r]]):
 av 244 [.agg [I a,I b]] [ao r]:=
 h.of
theorem apE(h:ad [.r 168 [ae a,ae 0,ae 3] [ao q],.b q false]):
 av 244 [.agg [I a,I b]] [ao false]:=
 h.of
theorem apF(h:ad [.r 190 [ae a,ae 0,ae 3] [ao q],.b q true,.r 190 [ae b,ae 0,ae 6] [ao r]]):
 av 274 [.agg [I a,I b]] [ao r]:=
 h.of
theorem apG(h:ad [.r 190 [ae a,ae 0,ae 3] [ao q],.b q false]):
 av 274 [.agg [I a,I b]] [ao false]:=
 h.of
theorem apH(h:ad [.r 244 [.agg [I a,I b]] [ao q],.n q true]):
 av 270 [.agg [I a,I b]] [.agg [I a,I b],ao false]:=
 h.of
theorem apI(h:ad [.r 244 [.agg [I b,I a]] [ao q],.n q false,.b (decide (a>=6)) true]):
 av 270 [.agg [I b,I a]] [.agg [I b,I a],ao false]:=
 h.of
theorem apJ(h:ad [.r 244 [.agg [I b,I a]] [ao q],.n q false,.b (decide (a>=6)) false,.u a]):
 av 270 [.agg [I b,I a]] [.agg [I b,I (a+1)],ao true]:=
 h.of
def Uu(a b c:Int)(A:af)(q:Bool)(l:List O):List O:=.r 243 [.agg (bk a b c A)] [ao q]::l
theorem apK(h:ad (Uu a b c A q [.n q true])):
 av 267 [.agg (bk a b c A),ae d,ae e] [ae d,ae e,ao false]:=
 h.of
def Uv(a b c:Int)(A:af)(q:Bool)(d:Int)(r:Bool)(l:List O):List O:=Uu a b c A q (.n q false::.r 168 [ae d,ae 0,ae 99] [ao r]::l)
theorem apL(h:ad (Uv b c d A q a r [.n r true])):
 av 267 [.agg (bk b c d A),ae a,ae e] [ae a,ae e,ao false]:=
 h.of
def AZ(a b c:Int)(A:af)(q:Bool)(d:Int)(r:Bool)(e:Int)(s:Bool)(l:List O):List O:=Uv a b c A q d r (.n r false::.r 168 [ae e,ae 0,ae 999] [ao s]::l)
theorem apM(h:ad (AZ c d e A q a r b s [.n s true])):
 av 267 [.agg (bk c d e A),ae a,ae b] [ae a,ae b,ao false]:=
 h.of
theorem apN(h:ad (AZ c a e A q d r b s [.n s false,.b (c==2) true,.v (b+a),.r 323 [ae (b+a),ae 999] [ae f]])):
 av 267 [.agg (bk c a e A),ae d,ae b] [ae d,ae f,ao true]:=
 h.of
theorem apO(h:ad (AZ a b e A q c r d s [.n s false,.b (a==2) false,.b (a==4) true,.v (c+b),.p ((100:Int)≠0)])):
 av 267 [.agg (bk a b e A),ae c,ae d] [ae ((c+b).tmod 100),ae d,ao true]:=
 h.of
theorem apP(h:ad (AZ a b d A q c r e s [.n s false,.b (a==2) false,.b (a==4) false,.b (a==3) true,.p (b≠0)])):
 av 267 [.agg (bk a b d A),ae c,ae e] [ae c,ae e,ao (c.tmod b==d)]:=
 h.of
theorem apQ(h:ad (AZ a d e A q b r c s [.n s false,.b (a==2) false,.b (a==4) false,.b (a==3) false])):
 av 267 [.agg (bk a d e A),ae b,ae c] [ae b,ae c,ao (a != 8)]:=
 h.of
theorem apR(h:ad [.b (decide (a<b)) true]):
 av 323 [ae b,ae a] [ae a]:=
 h.of
theorem apS(h:ad [.b (decide (b<a)) false]):
 av 323 [ae a,ae b] [ae a]:=
 h.of
theorem apT(h:ad [.r 190 [ae a,ae 0,ae 99] [ao q],.b q true,.r 190 [ae b,ae 0,ae 999] [ao r]]):
 av 275 [ae a,ae b] [ao r]:=
 h.of
theorem apU(h:ad [.r 190 [ae a,ae 0,ae 99] [ao q],.b q false]):
 av 275 [ae a,ae b] [ao false]:=
 h.of
