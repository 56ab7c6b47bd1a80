import Derived.Test.YthfnndblgbjniaaGreatGE
namespace Go.Proofs.YthfnndblgbjniaaGreat
open Go.Sx Go.RowKit
variable {a b c d e f g i j k l : Int} {A C E F : af} {q r s t : Bool}
def aaQ(A:af)(q:Bool)(l:List O):List O:=.r 44 [ae (A.length:Int),ae 1,ae 8] [ak q]::l
theorem aiz(h:ad (aaQ A q [.n q true])):
 ar 55 [.agg (bz A a b)] [ak false]:=
 h.of
def IG(A:af)(q:Bool)(a:Int)(r:Bool)(l:List O):List O:=aaQ A q (.n q false::.r 44 [ae a,ae 1,ae 4] [ak r]::l)
theorem aiA(h:ad (IG A q a r [.n r true])):
 ar 55 [.agg (bz A a b)] [ak false]:=
 h.of
theorem aiB(h:ad (IG A q a r [.n r false,.r 44 [ae b,ae 1,ae 4] [ak s],.n s true])):
 ar 55 [.agg (bz A a b)] [ak false]:=
 h.of
def pU(a:Int)(A:af)(b c:Int):aD:=a' 97 [(1,aS 1),(3,aT a)] [(1,[.J .free 4 A,av b,av c])]
def yF(q:Bool):aD:=a' 97 [(2,.aF (.one (.bg q)))] []
def IH(A:af)(a b c d:Int)(C:af)(q:Bool)(l:List O):List O:=.i A a (br b c d C)::.r 104 [.agg (br b c d C)] [ak q]::l
theorem aiC(h:ad (IH C d a b c A q [.n q true])):
 aV (ap Tryz.f55 0) (pU d C e f) .ret (yF false):=
 h.aQ [2] []
theorem aiD(h:ad (IH C b a c d A q [.n q false,.b (!(a==1)==(b==0)) true])):
 aV (ap Tryz.f55 0) (pU b C e f) .ret (yF false):=
 h.aQ [2] []
def ja(a:Int)(A:af)(b c d e f:Int)(C:af)(g:Int):aD:=a' 97 [(1,aS 1),(3,aT a),(4,aS 4),(5,aT g)] [(4,[av d,av e,av f,.J .free 1 C]),(1,[.J .free 4 A,av b,av c])]
def tn(q:Bool):aD:=a' 97 [(2,.aF (.one (.bg q)))] []
theorem aiE(h:ad [.i A a [I b],.b (decide (b>=(C.length:Int))) true]):
 aV (ap Tryz.f55 1) (ja f C g i c d e A a) .ret (tn false):=
 h.aQ [2] []
def IJ(A:af)(a b:Int)(C:af)(l:List O):List O:=.i A a [I b]::.b (decide (b>=(C.length:Int))) false::l
theorem aiF(h:ad (IJ A c a C [.b (b != 7) true,.b (decide (a<=d)) true])):
 aV (ap Tryz.f55 1) (ja d C g i b e f A c) .ret (tn false):=
 h.aQ [2] []
def Ee(A:af)(a b:Int)(C:af)(c d e f g:Int)(E:af)(l:List O):List O:=IJ A a b C (.b (c != 7) true::.b (decide (b<=d)) false::.x C b (br e f g E)::l)
theorem aiG(h:ad (Ee C d a A b c g i j E [.b (b==7) true,.b (decide (a>c)) true])):
 aV (ap Tryz.f55 1) (ja c A k l b e f C d) .ret (tn false):=
 h.aQ [2] []
theorem aiH(h:ad (Ee C e a A b d c i j E [.b (b==7) true,.b (decide (a>d)) false,.b (c != 5) true,.b (c != 6) true])):
 aV (ap Tryz.f55 1) (ja d A k l b f g C e) .ret (tn false):=
 h.aQ [2] []
theorem aiI(h:ad (Ee C c a A b d e k l E [.b (b==7) true,.b (decide (a>d)) false,.b (e != 5) true,.b (e != 6) false,.u c])):
 aV (ap Tryz.f55 1) (ja d A i j b f g C c) .normal (ja d A i j b f g C (c+1)):=
 h.aQ [5,4,1,3] [4,1]
theorem aiJ(h:ad (Ee C c a A b d g k l E [.b (b==7) true,.b (decide (a>d)) false,.b (g != 5) false,.u c])):
 aV (ap Tryz.f55 1) (ja d A i j b e f C c) .normal (ja d A i j b e f C (c+1)):=
 h.aQ [5,4,1,3] [4,1]
theorem aiK(h:ad (Ee C b c A a d j k l E [.b (a==7) false,.u b])):
 aV (ap Tryz.f55 1) (ja d A g i a e f C b) .normal (ja d A g i a e f C (b+1)):=
 h.aQ [5,4,1,3] [4,1]
def Ef(A:af)(a b:Int)(C:af)(c d e f:Int)(E:af)(l:List O):List O:=IJ A a b C (.b (c != 7) false::.x C b (br d e f E)::l)
theorem ahU(h:ad (Ef C c a A b g i j E [.b (b==7) true,.b (decide (a>d)) true])):
 aV (ap Tryz.f55 1) (ja d A k l b e f C c) .ret (tn false):=
 h.aQ [2] []
theorem ahV(h:ad (Ef C d a A b c i j E [.b (b==7) true,.b (decide (a>e)) false,.b (c != 5) true,.b (c != 6) true])):
 aV (ap Tryz.f55 1) (ja e A k l b f g C d) .ret (tn false):=
 h.aQ [2] []
theorem ahW(h:ad (Ef C b c A a d k l E [.b (a==7) true,.b (decide (c>e)) false,.b (d != 5) true,.b (d != 6) false,.u b])):
 aV (ap Tryz.f55 1) (ja e A i j a f g C b) .normal (ja e A i j a f g C (b+1)):=
 h.aQ [5,4,1,3] [4,1]
theorem ahX(h:ad (Ef C b c A a g k l E [.b (a==7) true,.b (decide (c>d)) false,.b (g != 5) false,.u b])):
 aV (ap Tryz.f55 1) (ja d A i j a e f C b) .normal (ja d A i j a e f C (b+1)):=
 h.aQ [5,4,1,3] [4,1]
theorem ahY(h:ad (Ef C b c A a j k l E [.b (a==7) false,.u b])):
 aV (ap Tryz.f55 1) (ja f A g i a d e C b) .normal (ja f A g i a d e C (b+1)):=
 h.aQ [5,4,1,3] [4,1]
def NS(a:Int)(A:af)(b c:Int):aD:=a' 97 [(1,aS 1),(3,aT a)] [(1,[.J .free 4 A,av b,av c])]
theorem ahZ(h:ad [.f A a false]):
 aV (ap Tryz.f55 1) (ja b C c d e f g A a) (.exit 2) (NS b C c d):=
 h.aQ [3,1] [1]
theorem ah0(h:ad (IH C b a c d A q [.n q false,.b (!(a==1)==(b==0)) false,.l [] [5,4,1,3] [4,1] (ap Tryz.f55 1) (ja b C e f a c d A 0) .ret (tn r)])):
 aV (ap Tryz.f55 0) (pU b C e f) .ret (yF r):=
 h.aQ [2] []
theorem ah1(h:ad (IH A a b e f C q [.n q false,.b (!(b==1)==(a==0)) false,.l [] [5,4,1,3] [4,1] (ap Tryz.f55 1) (ja a A c d b e f C 0) (.exit 2) (NS a A c d),.u a])):
 aV (ap Tryz.f55 0) (pU a A c d) .normal (pU (a+1) A c d):=
 h.aQ [3,1] [1]
def NT:aD:=a' 97 [] []
theorem ah2(h:ad [.f A a false]):
 aV (ap Tryz.f55 0) (pU a A b c) (.exit 0) NT:=
 h.aQ [] []
theorem ah3(h:ad (IG A q a r [.n r false,.r 44 [ae b,ae 1,ae 4] [ak s],.n s false,.l [] [3,1] [1] (ap Tryz.f55 0) (pU 0 A a b) .ret (yF t)])):
 ar 55 [.agg (bz A a b)] [ak t]:=
 h.of
theorem ah4(h:ad (IG A q a r [.n r false,.r 44 [ae b,ae 1,ae 4] [ak s],.n s false,.l [] [3,1] [1] (ap Tryz.f55 0) (pU 0 A a b) (.exit 0) NT])):
 ar 55 [.agg (bz A a b)] [ak true]:=
 h.of
def aaR(A:af)(q:Bool)(l:List O):List O:=.r 43 [ae (A.length:Int),ae 1,ae 8] [ak q]::l
theorem ah5(h:ad (aaR A q [.n q true])):
 ar 69 [.agg (bz A a b)] [ak false]:=
 h.of
def IK(A:af)(q:Bool)(a:Int)(r:Bool)(l:List O):List O:=aaR A q (.n q false::.r 43 [ae a,ae 1,ae 4] [ak r]::l)
theorem ah6(h:ad (IK A q a r [.n r true])):
 ar 69 [.agg (bz A a b)] [ak false]:=
 h.of
theorem ah7(h:ad (IK A q a r [.n r false,.r 43 [ae b,ae 1,ae 4] [ak s],.n s true])):
 ar 69 [.agg (bz A a b)] [ak false]:=
 h.of
def pV(A:af)(a:Int)(C:af)(b c:Int):aD:=a' 90 [(1,aS 1),(26,dW 4 A),(27,aT (A.length:Int)),(28,aT a)] [(1,[.J .free 4 C,av b,av c])]
def yG(q:Bool):aD:=a' 90 [(2,.aF (.one (.bg q)))] []
def II(A:af)(a b c d:Int)(C:af)(q:Bool)(l:List O):List O:=.i A a (br b c d C)::.r 113 [.agg (br b c d C)] [ak q]::l
theorem ah8(h:ad (II A d a b c C q [.n q true])):
 aV (ap Tryz.f69 0) (pV A d E e f) .ret (yG false):=
 h.aQ [2] []
theorem ah9(h:ad (II A b a c d C q [.n q false,.b (!(a==1)==(b==0)) true])):
 aV (ap Tryz.f69 0) (pV A b E e f) .ret (yG false):=
 h.aQ [2] []
def jb(C:af)(a:Int)(E:af)(b c d e f:Int)(A:af)(g:Int):aD:=a' 90 [(1,aS 1),(3,aT a),(4,aS 4),(26,dW 4 C),(27,aT (C.length:Int)),(28,aT a),(45,dW 1 A),(46,aT (A.length:Int)),(47,aT g)] [(4,[av d,av e,av f,.J .free 1 A]),(1,[.J .free 4 E,av b,av c])]
def tp(q:Bool):aD:=a' 90 [(2,.aF (.one (.bg q)))] []
theorem aia(h:ad [.i A a [I b],.b (decide (b>=(C.length:Int))) true]):
 aV (ap Tryz.f69 1) (jb E f C g i c d e A a) .ret (tp false):=
 h.aQ [2] []
def Eg(A:af)(a b:Int)(C:af)(c d e:Int)(E:af)(l:List O):List O:=IJ A a b C (.x C b (br c d e E)::l)
theorem aib(h:ad (Eg C c a A g i j F [.b (b==7) true,.b (decide (a>d)) true])):
 aV (ap Tryz.f69 1) (jb E d A k l b e f C c) .ret (tp false):=
 h.aQ [2] []
def yQ(A:af)(a b:Int)(C:af)(c d e:Int)(E:af)(f g:Int)(l:List O):List O:=Eg A a b C c d e E (.b (f==7) true::.b (decide (b>g)) false::l)
theorem aic(h:ad (yQ C d a A b i j F c e [.b (b != 5) true,.b (b != 6) true])):
 aV (ap Tryz.f69 1) (jb E e A k l c f g C d) .ret (tp false):=
 h.aQ [2] []
theorem aid(h:ad (yQ C e a A c i j F b d [.b (c != 5) true,.b (c != 6) false,.b (b != 7) true,.b (decide (a<=d)) true])):
 aV (ap Tryz.f69 1) (jb E d A k l b f g C e) .ret (tp false):=
 h.aQ [2] []
theorem aie(h:ad (yQ C c a A e k l F b d [.b (e != 5) true,.b (e != 6) false,.b (b != 7) true,.b (decide (a<=d)) false,.u c])):
 aV (ap Tryz.f69 1) (jb E d A i j b f g C c) .normal (jb E d A i j b f g C (c+1)):=
 h.aQ [47,46,45,1,4,3,28,27,26] [4,1]
theorem aif(h:ad (yQ C b c A d k l F a e [.b (d != 5) true,.b (d != 6) false,.b (a != 7) false,.u b])):
 aV (ap Tryz.f69 1) (jb E e A i j a f g C b) .normal (jb E e A i j a f g C (b+1)):=
 h.aQ [47,46,45,1,4,3,28,27,26] [4,1]
theorem aih(h:ad (yQ C d a A e i j F b c [.b (e != 5) false,.b (b != 7) true,.b (decide (a<=c)) true])):
 aV (ap Tryz.f69 1) (jb E c A k l b f g C d) .ret (tp false):=
 h.aQ [2] []
theorem aii(h:ad (yQ C c a A g k l F b d [.b (g != 5) false,.b (b != 7) true,.b (decide (a<=d)) false,.u c])):
 aV (ap Tryz.f69 1) (jb E d A i j b e f C c) .normal (jb E d A i j b e f C (c+1)):=
 h.aQ [47,46,45,1,4,3,28,27,26] [4,1]
theorem aij(h:ad (yQ C b c A g k l F a d [.b (g != 5) false,.b (a != 7) false,.u b])):
 aV (ap Tryz.f69 1) (jb E d A i j a e f C b) .normal (jb E d A i j a e f C (b+1)):=
 h.aQ [47,46,45,1,4,3,28,27,26] [4,1]
theorem aik(h:ad (Eg C c a A g i j F [.b (b==7) false,.b (b != 7) true,.b (decide (a<=d)) true])):
 aV (ap Tryz.f69 1) (jb E d A k l b e f C c) .ret (tp false):=
 h.aQ [2] []
theorem ahK(h:ad (Eg C b c A j k l F [.b (a==7) false,.b (a != 7) true,.b (decide (c<=d)) false,.u b])):
 aV (ap Tryz.f69 1) (jb E d A g i a e f C b) .normal (jb E d A g i a e f C (b+1)):=
 h.aQ [47,46,45,1,4,3,28,27,26] [4,1]
theorem ahL(h:ad (Eg C b c A j k l F [.b (a==7) false,.b (a != 7) false,.u b])):
 aV (ap Tryz.f69 1) (jb E f A g i a d e C b) .normal (jb E f A g i a d e C (b+1)):=
 h.aQ [47,46,45,1,4,3,28,27,26] [4,1]
def NU(A:af)(a:Int)(C:af)(b c:Int):aD:=a' 90 [(1,aS 1),(26,dW 4 A),(27,aT (A.length:Int)),(28,aT a)] [(1,[.J .free 4 C,av b,av c])]
theorem ahM(h:ad [.f C a false]):
 aV (ap Tryz.f69 1) (jb A b E c d e f g C a) (.exit 2) (NU A b E c d):=
 h.aQ [28,27,26,1] [1]
theorem ahN(h:ad (II A b a c d C q [.n q false,.b (!(a==1)==(b==0)) false,.l [] [47,46,45,1,4,3,28,27,26] [4,1] (ap Tryz.f69 1) (jb A b E e f a c d C 0) .ret (tp r)])):
 aV (ap Tryz.f69 0) (pV A b E e f) .ret (yG r):=
 h.aQ [2] []
theorem ahO(h:ad (II A a b e f E q [.n q false,.b (!(b==1)==(a==0)) false,.l [] [47,46,45,1,4,3,28,27,26] [4,1] (ap Tryz.f69 1) (jb A a C c d b e f E 0) (.exit 2) (NU A a C c d),.u a])):
 aV (ap Tryz.f69 0) (pV A a C c d) .normal (pV A (a+1) C c d):=
 h.aQ [28,27,26,1] [1]
def NV:aD:=a' 90 [] []
theorem ahP(h:ad [.f A a false]):
 aV (ap Tryz.f69 0) (pV A a C b c) (.exit 0) NV:=
 h.aQ [] []
theorem ahQ(h:ad (IK A q a r [.n r false,.r 43 [ae b,ae 1,ae 4] [ak s],.n s false,.l [] [28,27,26,1] [1] (ap Tryz.f69 0) (pV A 0 A a b) .ret (yG t)])):
 ar 69 [.agg (bz A a b)] [ak t]:=
 h.of
theorem ahR(h:ad (IK A q a r [.n r false,.r 43 [ae b,ae 1,ae 4] [ak s],.n s false,.l [] [28,27,26,1] [1] (ap Tryz.f69 0) (pV A 0 A a b) (.exit 0) NV])):
 ar 69 [.agg (bz A a b)] [ak true]:=
 h.of
def Qx(a:Int)(q:Bool)(b c:Int)(r:Bool)(l:List O):List O:=.r 44 [ae a,ae 0,ae 7] [ak q]::.b q true::.r 105 [.agg [I b,I c]] [ak r]::l
theorem ahS(h:ad (Qx a q b c r [.b r true,.r 44 [ae d,ae 0,ae 99] [ak s],.b s true,.r 44 [ae e,ae 0,ae 999] [ak t]])):
 ar 56 [.agg (bi a b c d e)] [ak t]:=
 h.of
theorem ahT(h:ad (Qx a q b c r [.b r true,.r 44 [ae d,ae 0,ae 99] [ak s],.b s false])):
 ar 56 [.agg (bi a b c d e)] [ak false]:=
 h.of
theorem ajl(h:ad (Qx a q b c r [.b r false])):
 ar 56 [.agg (bi a b c d e)] [ak false]:=
 h.of
theorem ajm(h:ad [.r 44 [ae a,ae 0,ae 7] [ak q],.b q false]):
 ar 56 [.agg (bi a b c d e)] [ak false]:=
 h.of
theorem ajn(h:ad [.r 43 [ae a,ae 0,ae 7] [ak q],.b q true,.r 164 [.agg [I b,I c]] [ak r],.b r true,.r 165 [ae d,ae e] [ak s]]):
 ar 116 [.agg (bi a b c d e)] [ak s]:=
 h.of
theorem ajo(h:ad [.r 43 [ae a,ae 0,ae 7] [ak q],.b q true,.r 164 [.agg [I b,I c]] [ak r],.b r false]):
 ar 116 [.agg (bi a b c d e)] [ak false]:=
 h.of
theorem ajp(h:ad [.r 43 [ae a,ae 0,ae 7] [ak q],.b q false]):
 ar 116 [.agg (bi a b c d e)] [ak false]:=
 h.of
theorem ajq(h:ad [.r 44 [ae a,ae 0,ae 3] [ak q],.b q true,.r 44 [ae b,ae 0,ae 6] [ak r]]):
 ar 105 [.agg [I a,I b]] [ak r]:=
 h.of
theorem ajr(h:ad [.r 44 [ae a,ae 0,ae 3] [ak q],.b q false]):
 ar 105 [.agg [I a,I b]] [ak false]:=
 h.of
theorem ajs(h:ad [.r 43 [ae a,ae 0,ae 3] [ak q],.b q true,.r 43 [ae b,ae 0,ae 6] [ak r]]):
 ar 164 [.agg [I a,I b]] [ak r]:=
 h.of
theorem ajt(h:ad [.r 43 [ae a,ae 0,ae 3] [ak q],.b q false]):
 ar 164 [.agg [I a,I b]] [ak false]:=
 h.of
theorem aju(h:ad [.r 105 [.agg [I a,I b]] [ak q],.n q true]):
 ar 200 [.agg [I a,I b]] [.agg [I a,I b],ak false]:=
 h.of
theorem ajv(h:ad [.r 105 [.agg [I b,I a]] [ak q],.n q false,.b (decide (a>=6)) true]):
 ar 200 [.agg [I b,I a]] [.agg [I b,I a],ak false]:=
 h.of
theorem ajw(h:ad [.r 105 [.agg [I b,I a]] [ak q],.n q false,.b (decide (a>=6)) false,.u a]):
 ar 200 [.agg [I b,I a]] [.agg [I b,I (a+1)],ak true]:=
 h.of
theorem ajx(h:ad [.r 164 [.agg [I a,I b]] [ak q],.n q true]):
 ar 194 [.agg [I a,I b]] [.agg [I a,I b],ak false]:=
 h.of
theorem ajy(h:ad [.r 164 [.agg [I b,I a]] [ak q],.n q false,.b (a==6) true]):
 ar 194 [.agg [I b,I a]] [.agg [I b,I a],ak false]:=
 h.of
theorem ajz(h:ad [.r 164 [.agg [I b,I a]] [ak q],.n q false,.b (a==6) false,.u a]):
 ar 194 [.agg [I b,I a]] [.agg [I b,I (a+1)],ak true]:=
 h.of
def aaS(a b c:Int)(A:af)(q:Bool)(l:List O):List O:=.r 104 [.agg (br a b c A)] [ak q]::l
theorem ajA(h:ad (aaS a b c A q [.n q true])):
 ar 197 [.agg (br a b c A),ae d,ae e] [ae d,ae e,ak false]:=
 h.of
def aaT(a b c:Int)(A:af)(q:Bool)(d:Int)(r:Bool)(l:List O):List O:=aaS a b c A q (.n q false::.r 44 [ae d,ae 0,ae 99] [ak r]::l)
theorem ajB(h:ad (aaT b c d A q a r [.n r true])):
 ar 197 [.agg (br b c d A),ae a,ae e] [ae a,ae e,ak false]:=
 h.of
def Eh(a b c:Int)(A:af)(q:Bool)(d:Int)(r:Bool)(e:Int)(s:Bool)(l:List O):List O:=aaT a b c A q d r (.n r false::.r 44 [ae e,ae 0,ae 999] [ak s]::l)
theorem ajC(h:ad (Eh c d e A q a r b s [.n s true])):
 ar 197 [.agg (br c d e A),ae a,ae b] [ae a,ae b,ak false]:=
 h.of
theorem ajD(h:ad (Eh c a e A q d r b s [.n s false,.b (c==2) true,.v (b+a),.r 217 [ae (b+a),ae 999] [ae f]])):
 ar 197 [.agg (br c a e A),ae d,ae b] [ae d,ae f,ak true]:=
 h.of
theorem ajE(h:ad (Eh a b e A q c r d s [.n s false,.b (a==2) false,.b (a==4) true,.v (c+b),.p ((100:Int)≠0)])):
 ar 197 [.agg (br a b e A),ae c,ae d] [ae ((c+b).tmod 100),ae d,ak true]:=
 h.of
theorem ajF(h:ad (Eh a b d A q c r e s [.n s false,.b (a==2) false,.b (a==4) false,.b (a==3) true,.p (b≠0)])):
 ar 197 [.agg (br a b d A),ae c,ae e] [ae c,ae e,ak (c.tmod b==d)]:=
 h.of
theorem ajG(h:ad (Eh a d e A q b r c s [.n s false,.b (a==2) false,.b (a==4) false,.b (a==3) false])):
 ar 197 [.agg (br a d e A),ae b,ae c] [ae b,ae c,ak (a != 8)]:=
 h.of
def aaU(a b c:Int)(A:af)(q:Bool)(l:List O):List O:=.r 113 [.agg (br a b c A)] [ak q]::l
theorem ajH(h:ad (aaU a b c A q [.n q true])):
 ar 192 [.agg (br a b c A),ae d,ae e] [ae d,ae e,ak false]:=
 h.of
def Ei(a b c:Int)(A:af)(q:Bool)(d e:Int)(r:Bool)(l:List O):List O:=aaU a b c A q (.n q false::.r 165 [ae d,ae e] [ak r]::l)
theorem ajI(h:ad (Ei c d e A q a b r [.n r true])):
 ar 192 [.agg (br c d e A),ae a,ae b] [ae a,ae b,ak false]:=
 h.of
theorem ajJ(h:ad (Ei c a e A q d b r [.n r false,.b (c==2) true,.v (b+a)])):
 ar 192 [.agg (br c a e A),ae d,ae b] [ae d,ae (if b+a<999 then b+a else 999),ak true]:=
 h.of
theorem ajK(h:ad (Ei a b e A q c d r [.n r false,.b (a==2) false,.b (a==4) true,.v (c+b),.p ((100:Int)≠0)])):
 ar 192 [.agg (br a b e A),ae c,ae d] [ae ((c+b).tmod 100),ae d,ak true]:=
 h.of
theorem aiV(h:ad (Ei a b d A q c e r [.n r false,.b (a==2) false,.b (a==4) false,.b (a==3) true,.p (b≠0)])):
 ar 192 [.agg (br a b d A),ae c,ae e] [ae c,ae e,ak (c.tmod b==d)]:=
 h.of
theorem aiW(h:ad (Ei a d e A q b c r [.n r false,.b (a==2) false,.b (a==4) false,.b (a==3) false])):
 ar 192 [.agg (br a d e A),ae b,ae c] [ae b,ae c,ak (a != 8)]:=
 h.of
theorem aiX(h:ad [.b (decide (a<b)) true]):
 ar 217 [ae b,ae a] [ae a]:=
 h.of
theorem aiY(h:ad [.b (decide (b<a)) false]):
 ar 217 [ae a,ae b] [ae a]:=
 h.of
theorem aiZ(h:ad [.r 43 [ae a,ae 0,ae 99] [ak q],.b q true,.r 43 [ae b,ae 0,ae 999] [ak r]]):
 ar 165 [ae a,ae b] [ak r]:=
 h.of
theorem ai0(h:ad [.r 43 [ae a,ae 0,ae 99] [ak q],.b q false]):
 ar 165 [ae a,ae b] [ak false]:=
 h.of
