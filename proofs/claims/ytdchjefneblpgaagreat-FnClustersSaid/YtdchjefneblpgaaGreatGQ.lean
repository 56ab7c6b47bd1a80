import Derived.Test.YtdchjefneblpgaaGreatGE
set_option linter.unusedVariables false
set_option linter.unusedSimpArgs false
namespace Go.Proofs.YtdchjefneblpgaaGreat
open Go.Sx Go.RowKit
variable {a b c d e f g i j k l : Int} {A C E F : ah} {q r s t : Bool}
def Gx(A:ah)(q:Bool)(l:List O):List O:=.r 168 [ao (A.length:Int),ao 1,ao 8] [al q]::l
theorem adH(h:af (Gx A q [.n q true])):
 aw 121 [.agg (bt A a b)] [al false]:=
 h.of
def Gy(A:ah)(q:Bool)(a:Int)(r:Bool)(l:List O):List O:=Gx A q (.n q false::.r 168 [ao a,ao 1,ao 4] [al r]::l)
theorem adI(h:af (Gy A q a r [.n r true])):
 aw 121 [.agg (bt A a b)] [al false]:=
 h.of
theorem adJ(h:af (Gy A q a r [.n r false,.r 168 [ao b,ao 1,ao 4] [al s],.n s true])):
 aw 121 [.agg (bt A a b)] [al false]:=
 h.of
def oS(a:Int)(A:ah)(b c:Int):aF:=bf 97 [(1,aT 1),(3,a1 a)] [(1,[.J .free 4 A,ay b,ay c])]
def xf(q:Bool):aF:=bf 97 [(2,.aI (.one (.bc q)))] []
def Gz(A:ah)(a b c d:Int)(C:ah)(q:Bool)(l:List O):List O:=.i A a (bn b c d C)::.r 243 [.agg (bn b c d C)] [al q]::l
theorem adK(h:af (Gz C d a b c A q [.n q true])):
 aY (aq Tryz.f121 0) (oS d C e f) .ret (xf false):=
 h.aW [2] []
theorem adL(h:af (Gz C b a c d A q [.n q false,.b (!(a==1)==(b==0)) true])):
 aY (aq Tryz.f121 0) (oS b C e f) .ret (xf false):=
 h.aW [2] []
def ie(a:Int)(A:ah)(b c d e f:Int)(C:ah)(g:Int):aF:=bf 97 [(1,aT 1),(3,a1 a),(4,aT 4),(5,a1 g)] [(4,[ay d,ay e,ay f,.J .free 1 C]),(1,[.J .free 4 A,ay b,ay c])]
def rR(q:Bool):aF:=bf 97 [(2,.aI (.one (.bc q)))] []
theorem adM(h:af [.i A a [I b],.b (decide (b>=(C.length:Int))) true]):
 aY (aq Tryz.f121 1) (ie f C g i c d e A a) .ret (rR false):=
 h.aW [2] []
def zK(A:ah)(a b:Int)(C:ah)(l:List O):List O:=.i A a [I b]::.b (decide (b>=(C.length:Int))) false::l
theorem adN(h:af (zK A c a C [.b (b != 7) true,.b (decide (a<=d)) true])):
 aY (aq Tryz.f121 1) (ie d C g i b e f A c) .ret (rR false):=
 h.aW [2] []
def CF(A:ah)(a b:Int)(C:ah)(c d e f g:Int)(E:ah)(l:List O):List O:=zK A a b C (.b (c != 7) true::.b (decide (b<=d)) false::.x C b (bn e f g E)::l)
theorem adO(h:af (CF C d a A b c g i j E [.b (b==7) true,.b (decide (a>c)) true])):
 aY (aq Tryz.f121 1) (ie c A k l b e f C d) .ret (rR false):=
 h.aW [2] []
theorem adP(h:af (CF C e a A b d c i j E [.b (b==7) true,.b (decide (a>d)) false,.b (c != 5) true,.b (c != 6) true])):
 aY (aq Tryz.f121 1) (ie d A k l b f g C e) .ret (rR false):=
 h.aW [2] []
theorem acY(h:af (CF C c a A b d e k l E [.b (b==7) true,.b (decide (a>d)) false,.b (e != 5) true,.b (e != 6) false,.u c])):
 aY (aq Tryz.f121 1) (ie d A i j b f g C c) .normal (ie d A i j b f g C (c+1)):=
 h.aW [5,4,1,3] [4,1]
theorem acZ(h:af (CF C c a A b d g k l E [.b (b==7) true,.b (decide (a>d)) false,.b (g != 5) false,.u c])):
 aY (aq Tryz.f121 1) (ie d A i j b e f C c) .normal (ie d A i j b e f C (c+1)):=
 h.aW [5,4,1,3] [4,1]
theorem ac0(h:af (CF C b c A a d j k l E [.b (a==7) false,.u b])):
 aY (aq Tryz.f121 1) (ie d A g i a e f C b) .normal (ie d A g i a e f C (b+1)):=
 h.aW [5,4,1,3] [4,1]
def CG(A:ah)(a b:Int)(C:ah)(c d e f:Int)(E:ah)(l:List O):List O:=zK A a b C (.b (c != 7) false::.x C b (bn d e f E)::l)
theorem ac1(h:af (CG C c a A b g i j E [.b (b==7) true,.b (decide (a>d)) true])):
 aY (aq Tryz.f121 1) (ie d A k l b e f C c) .ret (rR false):=
 h.aW [2] []
theorem ac2(h:af (CG C d a A b c i j E [.b (b==7) true,.b (decide (a>e)) false,.b (c != 5) true,.b (c != 6) true])):
 aY (aq Tryz.f121 1) (ie e A k l b f g C d) .ret (rR false):=
 h.aW [2] []
theorem ac3(h:af (CG C b c A a d k l E [.b (a==7) true,.b (decide (c>e)) false,.b (d != 5) true,.b (d != 6) false,.u b])):
 aY (aq Tryz.f121 1) (ie e A i j a f g C b) .normal (ie e A i j a f g C (b+1)):=
 h.aW [5,4,1,3] [4,1]
theorem ac4(h:af (CG C b c A a g k l E [.b (a==7) true,.b (decide (c>d)) false,.b (g != 5) false,.u b])):
 aY (aq Tryz.f121 1) (ie d A i j a e f C b) .normal (ie d A i j a e f C (b+1)):=
 h.aW [5,4,1,3] [4,1]
theorem ac5(h:af (CG C b c A a j k l E [.b (a==7) false,.u b])):
 aY (aq Tryz.f121 1) (ie f A g i a d e C b) .normal (ie f A g i a d e C (b+1)):=
 h.aW [5,4,1,3] [4,1]
def Lk(a:Int)(A:ah)(b c:Int):aF:=bf 97 [(1,aT 1),(3,a1 a)] [(1,[.J .free 4 A,ay b,ay c])]
theorem ac6(h:af [.f A a false]):
 aY (aq Tryz.f121 1) (ie b C c d e f g A a) (.exit 2) (Lk b C c d):=
 h.aW [3,1] [1]
theorem ac7(h:af (Gz C b a c d A q [.n q false,.b (!(a==1)==(b==0)) false,.l [] [5,4,1,3] [4,1] (aq Tryz.f121 1) (ie b C e f a c d A 0) .ret (rR r)])):
 aY (aq Tryz.f121 0) (oS b C e f) .ret (xf r):=
 h.aW [2] []
theorem ac8(h:af (Gz A a b e f C q [.n q false,.b (!(b==1)==(a==0)) false,.l [] [5,4,1,3] [4,1] (aq Tryz.f121 1) (ie a A c d b e f C 0) (.exit 2) (Lk a A c d),.u a])):
 aY (aq Tryz.f121 0) (oS a A c d) .normal (oS (a+1) A c d):=
 h.aW [3,1] [1]
def Ll:aF:=bf 97 [] []
theorem ac9(h:af [.f A a false]):
 aY (aq Tryz.f121 0) (oS a A b c) (.exit 0) Ll:=
 h.aW [] []
theorem ada(h:af (Gy A q a r [.n r false,.r 168 [ao b,ao 1,ao 4] [al s],.n s false,.l [] [3,1] [1] (aq Tryz.f121 0) (oS 0 A a b) .ret (xf t)])):
 aw 121 [.agg (bt A a b)] [al t]:=
 h.of
theorem adb(h:af (Gy A q a r [.n r false,.r 168 [ao b,ao 1,ao 4] [al s],.n s false,.l [] [3,1] [1] (aq Tryz.f121 0) (oS 0 A a b) (.exit 0) Ll])):
 aw 121 [.agg (bt A a b)] [al true]:=
 h.of
def Yd(A:ah)(q:Bool)(l:List O):List O:=.r 190 [ao (A.length:Int),ao 1,ao 8] [al q]::l
theorem ade(h:af (Yd A q [.n q true])):
 aw 179 [.agg (bt A a b)] [al false]:=
 h.of
def GC(A:ah)(q:Bool)(a:Int)(r:Bool)(l:List O):List O:=Yd A q (.n q false::.r 190 [ao a,ao 1,ao 4] [al r]::l)
theorem adf(h:af (GC A q a r [.n r true])):
 aw 179 [.agg (bt A a b)] [al false]:=
 h.of
theorem adg(h:af (GC A q a r [.n r false,.r 190 [ao b,ao 1,ao 4] [al s],.n s true])):
 aw 179 [.agg (bt A a b)] [al false]:=
 h.of
def oT(A:ah)(a:Int)(C:ah)(b c:Int):aF:=bf 90 [(1,aT 1),(26,cX 4 A),(27,a1 (A.length:Int)),(28,a1 a)] [(1,[.J .free 4 C,ay b,ay c])]
def xg(q:Bool):aF:=bf 90 [(2,.aI (.one (.bc q)))] []
def zJ(A:ah)(a b c d:Int)(C:ah)(q:Bool)(l:List O):List O:=.i A a (bn b c d C)::.r 273 [.agg (bn b c d C)] [al q]::l
theorem adh(h:af (zJ A d a b c C q [.n q true])):
 aY (aq Tryz.f179 0) (oT A d E e f) .ret (xg false):=
 h.aW [2] []
theorem adi(h:af (zJ A b a c d C q [.n q false,.b (!(a==1)==(b==0)) true])):
 aY (aq Tryz.f179 0) (oT A b E e f) .ret (xg false):=
 h.aW [2] []
def ig(C:ah)(a:Int)(E:ah)(b c d e f:Int)(A:ah)(g:Int):aF:=bf 90 [(1,aT 1),(3,a1 a),(4,aT 4),(26,cX 4 C),(27,a1 (C.length:Int)),(28,a1 a),(45,cX 1 A),(46,a1 (A.length:Int)),(47,a1 g)] [(4,[ay d,ay e,ay f,.J .free 1 A]),(1,[.J .free 4 E,ay b,ay c])]
def rS(q:Bool):aF:=bf 90 [(2,.aI (.one (.bc q)))] []
theorem adj(h:af [.i A a [I b],.b (decide (b>=(C.length:Int))) true]):
 aY (aq Tryz.f179 1) (ig E f C g i c d e A a) .ret (rS false):=
 h.aW [2] []
def CH(A:ah)(a b:Int)(C:ah)(c d e:Int)(E:ah)(l:List O):List O:=zK A a b C (.x C b (bn c d e E)::l)
theorem adk(h:af (CH C c a A g i j F [.b (b==7) true,.b (decide (a>d)) true])):
 aY (aq Tryz.f179 1) (ig E d A k l b e f C c) .ret (rS false):=
 h.aW [2] []
def xL(A:ah)(a b:Int)(C:ah)(c d e:Int)(E:ah)(f g:Int)(l:List O):List O:=CH A a b C c d e E (.b (f==7) true::.b (decide (b>g)) false::l)
theorem adl(h:af (xL C d a A b i j F c e [.b (b != 5) true,.b (b != 6) true])):
 aY (aq Tryz.f179 1) (ig E e A k l c f g C d) .ret (rS false):=
 h.aW [2] []
theorem adm(h:af (xL C e a A c i j F b d [.b (c != 5) true,.b (c != 6) false,.b (b != 7) true,.b (decide (a<=d)) true])):
 aY (aq Tryz.f179 1) (ig E d A k l b f g C e) .ret (rS false):=
 h.aW [2] []
theorem adn(h:af (xL C c a A e k l F b d [.b (e != 5) true,.b (e != 6) false,.b (b != 7) true,.b (decide (a<=d)) false,.u c])):
 aY (aq Tryz.f179 1) (ig E d A i j b f g C c) .normal (ig E d A i j b f g C (c+1)):=
 h.aW [47,46,45,1,4,3,28,27,26] [4,1]
theorem ado(h:af (xL C b c A d k l F a e [.b (d != 5) true,.b (d != 6) false,.b (a != 7) false,.u b])):
 aY (aq Tryz.f179 1) (ig E e A i j a f g C b) .normal (ig E e A i j a f g C (b+1)):=
 h.aW [47,46,45,1,4,3,28,27,26] [4,1]
theorem adp(h:af (xL C d a A e i j F b c [.b (e != 5) false,.b (b != 7) true,.b (decide (a<=c)) true])):
 aY (aq Tryz.f179 1) (ig E c A k l b f g C d) .ret (rS false):=
 h.aW [2] []
theorem acO(h:af (xL C c a A g k l F b d [.b (g != 5) false,.b (b != 7) true,.b (decide (a<=d)) false,.u c])):
 aY (aq Tryz.f179 1) (ig E d A i j b e f C c) .normal (ig E d A i j b e f C (c+1)):=
 h.aW [47,46,45,1,4,3,28,27,26] [4,1]
theorem acP(h:af (xL C b c A g k l F a d [.b (g != 5) false,.b (a != 7) false,.u b])):
 aY (aq Tryz.f179 1) (ig E d A i j a e f C b) .normal (ig E d A i j a e f C (b+1)):=
 h.aW [47,46,45,1,4,3,28,27,26] [4,1]
theorem acQ(h:af (CH C c a A g i j F [.b (b==7) false,.b (b != 7) true,.b (decide (a<=d)) true])):
 aY (aq Tryz.f179 1) (ig E d A k l b e f C c) .ret (rS false):=
 h.aW [2] []
theorem acR(h:af (CH C b c A j k l F [.b (a==7) false,.b (a != 7) true,.b (decide (c<=d)) false,.u b])):
 aY (aq Tryz.f179 1) (ig E d A g i a e f C b) .normal (ig E d A g i a e f C (b+1)):=
 h.aW [47,46,45,1,4,3,28,27,26] [4,1]
theorem acS(h:af (CH C b c A j k l F [.b (a==7) false,.b (a != 7) false,.u b])):
 aY (aq Tryz.f179 1) (ig E f A g i a d e C b) .normal (ig E f A g i a d e C (b+1)):=
 h.aW [47,46,45,1,4,3,28,27,26] [4,1]
def Lm(A:ah)(a:Int)(C:ah)(b c:Int):aF:=bf 90 [(1,aT 1),(26,cX 4 A),(27,a1 (A.length:Int)),(28,a1 a)] [(1,[.J .free 4 C,ay b,ay c])]
theorem acT(h:af [.f C a false]):
 aY (aq Tryz.f179 1) (ig A b E c d e f g C a) (.exit 2) (Lm A b E c d):=
 h.aW [28,27,26,1] [1]
theorem acU(h:af (zJ A b a c d C q [.n q false,.b (!(a==1)==(b==0)) false,.l [] [47,46,45,1,4,3,28,27,26] [4,1] (aq Tryz.f179 1) (ig A b E e f a c d C 0) .ret (rS r)])):
 aY (aq Tryz.f179 0) (oT A b E e f) .ret (xg r):=
 h.aW [2] []
theorem acV(h:af (zJ A a b e f E q [.n q false,.b (!(b==1)==(a==0)) false,.l [] [47,46,45,1,4,3,28,27,26] [4,1] (aq Tryz.f179 1) (ig A a C c d b e f E 0) (.exit 2) (Lm A a C c d),.u a])):
 aY (aq Tryz.f179 0) (oT A a C c d) .normal (oT A (a+1) C c d):=
 h.aW [28,27,26,1] [1]
def Ln:aF:=bf 90 [] []
theorem acW(h:af [.f A a false]):
 aY (aq Tryz.f179 0) (oT A a C b c) (.exit 0) Ln:=
 h.aW [] []
theorem acX(h:af (GC A q a r [.n r false,.r 190 [ao b,ao 1,ao 4] [al s],.n s false,.l [] [28,27,26,1] [1] (aq Tryz.f179 0) (oT A 0 A a b) .ret (xg t)])):
 aw 179 [.agg (bt A a b)] [al t]:=
 h.of
theorem aeq(h:af (GC A q a r [.n r false,.r 190 [ao b,ao 1,ao 4] [al s],.n s false,.l [] [28,27,26,1] [1] (aq Tryz.f179 0) (oT A 0 A a b) (.exit 0) Ln])):
 aw 179 [.agg (bt A a b)] [al true]:=
 h.of
def Ol(a:Int)(q:Bool)(b c:Int)(r:Bool)(l:List O):List O:=.r 168 [ao a,ao 0,ao 7] [al q]::.b q true::.r 244 [.agg [I b,I c]] [al r]::l
theorem aer(h:af (Ol a q b c r [.b r true,.r 168 [ao d,ao 0,ao 99] [al s],.b s true,.r 168 [ao e,ao 0,ao 999] [al t]])):
 aw 122 [.agg (bx a b c d e)] [al t]:=
 h.of
theorem aes(h:af (Ol a q b c r [.b r true,.r 168 [ao d,ao 0,ao 99] [al s],.b s false])):
 aw 122 [.agg (bx a b c d e)] [al false]:=
 h.of
theorem aet(h:af (Ol a q b c r [.b r false])):
 aw 122 [.agg (bx a b c d e)] [al false]:=
 h.of
theorem aeu(h:af [.r 168 [ao a,ao 0,ao 7] [al q],.b q false]):
 aw 122 [.agg (bx a b c d e)] [al false]:=
 h.of
theorem aev(h:af [.r 190 [ao a,ao 0,ao 7] [al q],.b q true,.r 274 [.agg [I b,I c]] [al r],.b r true,.r 275 [ao d,ao e] [al s]]):
 aw 180 [.agg (bx a b c d e)] [al s]:=
 h.of
theorem aew(h:af [.r 190 [ao a,ao 0,ao 7] [al q],.b q true,.r 274 [.agg [I b,I c]] [al r],.b r false]):
 aw 180 [.agg (bx a b c d e)] [al false]:=
 h.of
theorem aex(h:af [.r 190 [ao a,ao 0,ao 7] [al q],.b q false]):
 aw 180 [.agg (bx a b c d e)] [al false]:=
 h.of
theorem aey(h:af [.r 168 [ao a,ao 0,ao 3] [al q],.b q true,.r 168 [ao b,ao 0,ao 6] [al r]]):
 aw 244 [.agg [I a,I b]] [al r]:=
 h.of
theorem aez(h:af [.r 168 [ao a,ao 0,ao 3] [al q],.b q false]):
 aw 244 [.agg [I a,I b]] [al false]:=
 h.of
theorem aeA(h:af [.r 190 [ao a,ao 0,ao 3] [al q],.b q true,.r 190 [ao b,ao 0,ao 6] [al r]]):
 aw 274 [.agg [I a,I b]] [al r]:=
 h.of
theorem aeB(h:af [.r 190 [ao a,ao 0,ao 3] [al q],.b q false]):
 aw 274 [.agg [I a,I b]] [al false]:=
 h.of
theorem aeC(h:af [.r 244 [.agg [I a,I b]] [al q],.n q true]):
 aw 270 [.agg [I a,I b]] [.agg [I a,I b],al false]:=
 h.of
theorem aeD(h:af [.r 244 [.agg [I b,I a]] [al q],.n q false,.b (decide (a>=6)) true]):
 aw 270 [.agg [I b,I a]] [.agg [I b,I a],al false]:=
 h.of
theorem aeE(h:af [.r 244 [.agg [I b,I a]] [al q],.n q false,.b (decide (a>=6)) false,.u a]):
 aw 270 [.agg [I b,I a]] [.agg [I b,I (a+1)],al true]:=
 h.of
def Ys(a b c:Int)(A:ah)(q:Bool)(l:List O):List O:=.r 243 [.agg (bn a b c A)] [al q]::l
theorem aeF(h:af (Ys a b c A q [.n q true])):
 aw 267 [.agg (bn a b c A),ao d,ao e] [ao d,ao e,al false]:=
 h.of
def Yt(a b c:Int)(A:ah)(q:Bool)(d:Int)(r:Bool)(l:List O):List O:=Ys a b c A q (.n q false::.r 168 [ao d,ao 0,ao 99] [al r]::l)
theorem aeG(h:af (Yt b c d A q a r [.n r true])):
 aw 267 [.agg (bn b c d A),ao a,ao e] [ao a,ao e,al false]:=
 h.of
def CM(a b c:Int)(A:ah)(q:Bool)(d:Int)(r:Bool)(e:Int)(s:Bool)(l:List O):List O:=Yt a b c A q d r (.n r false::.r 168 [ao e,ao 0,ao 999] [al s]::l)
theorem aeH(h:af (CM c d e A q a r b s [.n s true])):
 aw 267 [.agg (bn c d e A),ao a,ao b] [ao a,ao b,al false]:=
 h.of
theorem aeI(h:af (CM c a e A q d r b s [.n s false,.b (c==2) true,.v (b+a),.r 323 [ao (b+a),ao 999] [ao f]])):
 aw 267 [.agg (bn c a e A),ao d,ao b] [ao d,ao f,al true]:=
 h.of
theorem aeJ(h:af (CM a b e A q c r d s [.n s false,.b (a==2) false,.b (a==4) true,.v (c+b),.p ((100:Int)≠0)])):
 aw 267 [.agg (bn a b e A),ao c,ao d] [ao ((c+b).tmod 100),ao d,al true]:=
 h.of
theorem aeK(h:af (CM a b d A q c r e s [.n s false,.b (a==2) false,.b (a==4) false,.b (a==3) true,.p (b≠0)])):
 aw 267 [.agg (bn a b d A),ao c,ao e] [ao c,ao e,al (c.tmod b==d)]:=
 h.of
theorem aeL(h:af (CM a d e A q b r c s [.n s false,.b (a==2) false,.b (a==4) false,.b (a==3) false])):
 aw 267 [.agg (bn a d e A),ao b,ao c] [ao b,ao c,al (a != 8)]:=
 h.of
theorem aeM(h:af [.b (decide (a<b)) true]):
 aw 323 [ao b,ao a] [ao a]:=
 h.of
theorem aeN(h:af [.b (decide (b<a)) false]):
 aw 323 [ao a,ao b] [ao a]:=
 h.of
theorem aeO(h:af [.r 190 [ao a,ao 0,ao 99] [al q],.b q true,.r 190 [ao b,ao 0,ao 999] [al r]]):
 aw 275 [ao a,ao b] [al r]:=
 h.of
theorem aeP(h:af [.r 190 [ao a,ao 0,ao 99] [al q],.b q false]):
 aw 275 [ao a,ao b] [al false]:=
 h.of
