import Derived.Test.YtdchjefneblpgaaGreatGE
set_option linter.unusedVariables false
set_option linter.unusedSimpArgs false
namespace Go.Proofs.YtdchjefneblpgaaGreat
open Go.Sx Go.RowKit
variable {a b c d e f g i j k l : Int} {A C E : ai} {q r s t : Bool}
def Vj(A:ai)(q:Bool)(l:List O):List O:=.r 168 [al (A.length:Int),al 1,al 8] [aI q]::l
theorem aaq(h:ak (Vj A q [.n q true])):
 aK 121 [.agg (bS A a b)] [aI false]:=
 h.of
def FA(A:ai)(q:Bool)(a:Int)(r:Bool)(l:List O):List O:=Vj A q (.n q false::.r 168 [al a,al 1,al 4] [aI r]::l)
theorem aar(h:ak (FA A q a r [.n r true])):
 aK 121 [.agg (bS A a b)] [aI false]:=
 h.of
theorem aas(h:ak (FA A q a r [.n r false,.r 168 [al b,al 1,al 4] [aI s],.n s true])):
 aK 121 [.agg (bS A a b)] [aI false]:=
 h.of
def oQ(a:Int)(A:ai)(b c:Int):aE:=bi 97 [(1,aS 1),(3,aZ a)] [(1,[.J .free 4 A,aq b,aq c])]
def v7(q:Bool):aE:=bi 97 [(2,.aD (.one (.bg q)))] []
def FB(A:ai)(a b c d:Int)(C:ai)(q:Bool)(l:List O):List O:=.i A a (cz b c d C)::.r 243 [.agg (cz b c d C)] [aI q]::l
theorem aat(h:ak (FB C d a b c A q [.n q true])):
 bb (az Tryz.f121 0) (oQ d C e f) .ret (v7 false):=
 h.a' [2] []
theorem aau(h:ak (FB C b a c d A q [.n q false,.b (!(a==1)==(b==0)) true])):
 bb (az Tryz.f121 0) (oQ b C e f) .ret (v7 false):=
 h.a' [2] []
def im(a:Int)(A:ai)(b c d e f:Int)(C:ai)(g:Int):aE:=bi 97 [(1,aS 1),(3,aZ a),(4,aS 4),(5,aZ g)] [(4,[aq d,aq e,aq f,.J .free 1 C]),(1,[.J .free 4 A,aq b,aq c])]
def rD(q:Bool):aE:=bi 97 [(2,.aD (.one (.bg q)))] []
theorem ZF(h:ak [.i A a [I b],.b (decide (b>=(C.length:Int))) true]):
 bb (az Tryz.f121 1) (im f C g i c d e A a) .ret (rD false):=
 h.a' [2] []
def Ma(A:ai)(a b:Int)(C:ai)(l:List O):List O:=.i A a [I b]::.b (decide (b>=(C.length:Int))) false::l
theorem ZG(h:ak (Ma A c a C [.b (b != 7) true,.b (decide (a<=d)) true])):
 bb (az Tryz.f121 1) (im d C g i b e f A c) .ret (rD false):=
 h.a' [2] []
def BX(A:ai)(a b:Int)(C:ai)(c d e f g:Int)(E:ai)(l:List O):List O:=Ma A a b C (.b (c != 7) true::.b (decide (b<=d)) false::.x C b (cz e f g E)::l)
theorem ZH(h:ak (BX C d a A b c g i j E [.b (b==7) true,.b (decide (a>c)) true])):
 bb (az Tryz.f121 1) (im c A k l b e f C d) .ret (rD false):=
 h.a' [2] []
theorem ZI(h:ak (BX C e a A b d c i j E [.b (b==7) true,.b (decide (a>d)) false,.b (c != 5) true,.b (c != 6) true])):
 bb (az Tryz.f121 1) (im d A k l b f g C e) .ret (rD false):=
 h.a' [2] []
theorem ZJ(h:ak (BX C c a A b d e k l E [.b (b==7) true,.b (decide (a>d)) false,.b (e != 5) true,.b (e != 6) false,.u c])):
 bb (az Tryz.f121 1) (im d A i j b f g C c) .normal (im d A i j b f g C (c+1)):=
 h.a' [5,4,1,3] [4,1]
theorem ZK(h:ak (BX C c a A b d g k l E [.b (b==7) true,.b (decide (a>d)) false,.b (g != 5) false,.u c])):
 bb (az Tryz.f121 1) (im d A i j b e f C c) .normal (im d A i j b e f C (c+1)):=
 h.a' [5,4,1,3] [4,1]
theorem ZL(h:ak (BX C b c A a d j k l E [.b (a==7) false,.u b])):
 bb (az Tryz.f121 1) (im d A g i a e f C b) .normal (im d A g i a e f C (b+1)):=
 h.a' [5,4,1,3] [4,1]
def BY(A:ai)(a b:Int)(C:ai)(c d e f:Int)(E:ai)(l:List O):List O:=Ma A a b C (.b (c != 7) false::.x C b (cz d e f E)::l)
theorem ZM(h:ak (BY C c a A b g i j E [.b (b==7) true,.b (decide (a>d)) true])):
 bb (az Tryz.f121 1) (im d A k l b e f C c) .ret (rD false):=
 h.a' [2] []
theorem ZN(h:ak (BY C d a A b c i j E [.b (b==7) true,.b (decide (a>e)) false,.b (c != 5) true,.b (c != 6) true])):
 bb (az Tryz.f121 1) (im e A k l b f g C d) .ret (rD false):=
 h.a' [2] []
theorem ZO(h:ak (BY C b c A a d k l E [.b (a==7) true,.b (decide (c>e)) false,.b (d != 5) true,.b (d != 6) false,.u b])):
 bb (az Tryz.f121 1) (im e A i j a f g C b) .normal (im e A i j a f g C (b+1)):=
 h.a' [5,4,1,3] [4,1]
theorem ZP(h:ak (BY C b c A a g k l E [.b (a==7) true,.b (decide (c>d)) false,.b (g != 5) false,.u b])):
 bb (az Tryz.f121 1) (im d A i j a e f C b) .normal (im d A i j a e f C (b+1)):=
 h.a' [5,4,1,3] [4,1]
theorem ZQ(h:ak (BY C b c A a j k l E [.b (a==7) false,.u b])):
 bb (az Tryz.f121 1) (im f A g i a d e C b) .normal (im f A g i a d e C (b+1)):=
 h.a' [5,4,1,3] [4,1]
def J'(a:Int)(A:ai)(b c:Int):aE:=bi 97 [(1,aS 1),(3,aZ a)] [(1,[.J .free 4 A,aq b,aq c])]
theorem ZR(h:ak [.f A a false]):
 bb (az Tryz.f121 1) (im b C c d e f g A a) (.exit 2) (J' b C c d):=
 h.a' [3,1] [1]
theorem ZS(h:ak (FB C b a c d A q [.n q false,.b (!(a==1)==(b==0)) false,.l [] [5,4,1,3] [4,1] (az Tryz.f121 1) (im b C e f a c d A 0) .ret (rD r)])):
 bb (az Tryz.f121 0) (oQ b C e f) .ret (v7 r):=
 h.a' [2] []
theorem ZT(h:ak (FB A a b e f C q [.n q false,.b (!(b==1)==(a==0)) false,.l [] [5,4,1,3] [4,1] (az Tryz.f121 1) (im a A c d b e f C 0) (.exit 2) (J' a A c d),.u a])):
 bb (az Tryz.f121 0) (oQ a A c d) .normal (oQ (a+1) A c d):=
 h.a' [3,1] [1]
def Ka:aE:=bi 97 [] []
theorem ZU(h:ak [.f A a false]):
 bb (az Tryz.f121 0) (oQ a A b c) (.exit 0) Ka:=
 h.a' [] []
theorem ZV(h:ak (FA A q a r [.n r false,.r 168 [al b,al 1,al 4] [aI s],.n s false,.l [] [3,1] [1] (az Tryz.f121 0) (oQ 0 A a b) .ret (v7 t)])):
 aK 121 [.agg (bS A a b)] [aI t]:=
 h.of
theorem ZW(h:ak (FA A q a r [.n r false,.r 168 [al b,al 1,al 4] [aI s],.n s false,.l [] [3,1] [1] (az Tryz.f121 0) (oQ 0 A a b) (.exit 0) Ka])):
 aK 121 [.agg (bS A a b)] [aI true]:=
 h.of
def Mc(a:Int)(q:Bool)(b c:Int)(r:Bool)(l:List O):List O:=.r 168 [al a,al 0,al 7] [aI q]::.b q true::.r 244 [.agg [I b,I c]] [aI r]::l
theorem ZX(h:ak (Mc a q b c r [.b r true,.r 168 [al d,al 0,al 99] [aI s],.b s true,.r 168 [al e,al 0,al 999] [aI t]])):
 aK 122 [.agg (bu a b c d e)] [aI t]:=
 h.of
theorem ZY(h:ak (Mc a q b c r [.b r true,.r 168 [al d,al 0,al 99] [aI s],.b s false])):
 aK 122 [.agg (bu a b c d e)] [aI false]:=
 h.of
theorem ZZ(h:ak (Mc a q b c r [.b r false])):
 aK 122 [.agg (bu a b c d e)] [aI false]:=
 h.of
theorem Z0(h:ak [.r 168 [al a,al 0,al 7] [aI q],.b q false]):
 aK 122 [.agg (bu a b c d e)] [aI false]:=
 h.of
theorem Z1(h:ak [.r 168 [al a,al 0,al 3] [aI q],.b q true,.r 168 [al b,al 0,al 6] [aI r]]):
 aK 244 [.agg [I a,I b]] [aI r]:=
 h.of
theorem Z2(h:ak [.r 168 [al a,al 0,al 3] [aI q],.b q false]):
 aK 244 [.agg [I a,I b]] [aI false]:=
 h.of
theorem Z3(h:ak [.r 244 [.agg [I a,I b]] [aI q],.n q true]):
 aK 270 [.agg [I a,I b]] [.agg [I a,I b],aI false]:=
 h.of
theorem Z4(h:ak [.r 244 [.agg [I b,I a]] [aI q],.n q false,.b (decide (a>=6)) true]):
 aK 270 [.agg [I b,I a]] [.agg [I b,I a],aI false]:=
 h.of
theorem Zv(h:ak [.r 244 [.agg [I b,I a]] [aI q],.n q false,.b (decide (a>=6)) false,.u a]):
 aK 270 [.agg [I b,I a]] [.agg [I b,I (a+1)],aI true]:=
 h.of
def Vl(a b c:Int)(A:ai)(q:Bool)(l:List O):List O:=.r 243 [.agg (cz a b c A)] [aI q]::l
theorem Zw(h:ak (Vl a b c A q [.n q true])):
 aK 267 [.agg (cz a b c A),al d,al e] [al d,al e,aI false]:=
 h.of
def Vm(a b c:Int)(A:ai)(q:Bool)(d:Int)(r:Bool)(l:List O):List O:=Vl a b c A q (.n q false::.r 168 [al d,al 0,al 99] [aI r]::l)
theorem Zx(h:ak (Vm b c d A q a r [.n r true])):
 aK 267 [.agg (cz b c d A),al a,al e] [al a,al e,aI false]:=
 h.of
def BZ(a b c:Int)(A:ai)(q:Bool)(d:Int)(r:Bool)(e:Int)(s:Bool)(l:List O):List O:=Vm a b c A q d r (.n r false::.r 168 [al e,al 0,al 999] [aI s]::l)
theorem Zy(h:ak (BZ c d e A q a r b s [.n s true])):
 aK 267 [.agg (cz c d e A),al a,al b] [al a,al b,aI false]:=
 h.of
theorem Zz(h:ak (BZ c a e A q d r b s [.n s false,.b (c==2) true,.v (b+a),.r 323 [al (b+a),al 999] [al f]])):
 aK 267 [.agg (cz c a e A),al d,al b] [al d,al f,aI true]:=
 h.of
theorem ZA(h:ak (BZ a b e A q c r d s [.n s false,.b (a==2) false,.b (a==4) true,.v (c+b),.p ((100:Int)≠0)])):
 aK 267 [.agg (cz a b e A),al c,al d] [al ((c+b).tmod 100),al d,aI true]:=
 h.of
theorem ZB(h:ak (BZ a b d A q c r e s [.n s false,.b (a==2) false,.b (a==4) false,.b (a==3) true,.p (b≠0)])):
 aK 267 [.agg (cz a b d A),al c,al e] [al c,al e,aI (c.tmod b==d)]:=
 h.of
theorem ZC(h:ak (BZ a d e A q b r c s [.n s false,.b (a==2) false,.b (a==4) false,.b (a==3) false])):
 aK 267 [.agg (cz a d e A),al b,al c] [al b,al c,aI (a != 8)]:=
 h.of
theorem ZD(h:ak [.b (decide (a<b)) true]):
 aK 323 [al b,al a] [al a]:=
 h.of
theorem ZE(h:ak [.b (decide (b<a)) false]):
 aK 323 [al a,al b] [al a]:=
 h.of
end Go.Proofs.YtdchjefneblpgaaGreat
namespace Go.Proofs.YtdchjefneblpgaaGreat
open Go.Sx Go.RowKit
variable {a b c d e f g i j k l : Int} {A C E : ai} {q r s t : Bool}
def Vn(a b:Int)(q r:Bool)(l:List O):List O:=.b (a==2) true::.r 168 [al b,al 0,al 999] [aI q]::.r 168 [al a,al 1,al 8] [aI r]::l
theorem aa5(h:ak (Vn a b r q [.n q true])):
 aK 243 [.agg (cz a b c A)] [aI false]:=
 h.of
def Md(a b:Int)(q r:Bool)(l:List O):List O:=Vn a b q r (.n r false::l)
theorem aa6(h:ak (Md a b q r [.n q true])):
 aK 243 [.agg (cz a b c A)] [aI false]:=
 h.of
theorem aa7(h:ak (Md a b q r [.n q false,.b (!c==0) true])):
 aK 243 [.agg (cz a b c A)] [aI false]:=
 h.of
def Vo(a b:Int)(q r:Bool)(c:Int)(l:List O):List O:=Md a b q r (.n q false::.b (!c==0) false::l)
theorem aa8(h:ak (Vo a b q r c [.b (decide ((A.length:Int)>2)) true])):
 aK 243 [.agg (cz a b c A)] [aI false]:=
 h.of
def B0(a b:Int)(q r:Bool)(c:Int)(A:ai)(l:List O):List O:=Vo a b q r c (.b (decide ((A.length:Int)>2)) false::l)
theorem aa9(h:ak (B0 a b q r c A [.b (a==8) true,.b (decide ((A.length:Int)>0)) true])):
 aK 243 [.agg (cz a b c A)] [aI false]:=
 h.of
def h5(a b c:Int)(A:ai)(d:Int):aE:=bi 93 [(1,aS 1),(5,aZ d)] [(1,[aq a,aq b,aq c,.J .free 1 A])]
def qz(q:Bool):aE:=bi 93 [(2,.aD (.one (.bg q)))] []
def Mb(A:ai)(a b:Int)(q:Bool)(l:List O):List O:=.i A a [I b]::.r 168 [al b,al 0,al 7] [aI q]::l
theorem Kb(h:ak (Mb A a b q [.n q true])):
 bb (az Tryz.f243 0) (h5 c d e A a) .ret (qz false):=
 h.a' [2] []
def Vk(A:ai)(a b:Int)(q:Bool)(c d:Int)(l:List O):List O:=Mb A a b q (.n q false::.b (decide (a>0)) true::.p ((0:Int)<=0)::.p (0<(A.length:Int))::.e A 0 [I c]::.p ((0:Int)<=1)::.p (1<(A.length:Int))::.e A 1 [I d]::l)
theorem aba(h:ak (Vk A a c q d b [.b (d==b) true])):
 bb (az Tryz.f243 0) (h5 e f g A a) .ret (qz false):=
 h.a' [2] []
theorem abb(h:ak (Vk A a f q g d [.b (g==d) false,.u a])):
 bb (az Tryz.f243 0) (h5 b c e A a) .normal (h5 b c e A (a+1)):=
 h.a' [5,1] [1]
theorem RO(h:ak (Mb A a e q [.n q false,.b (decide (a>0)) false,.u a])):
 bb (az Tryz.f243 0) (h5 b c d A a) .normal (h5 b c d A (a+1)):=
 h.a' [5,1] [1]
def rE:aE:=bi 93 [] []
theorem Kc(h:ak [.f A a false]):
 bb (az Tryz.f243 0) (h5 b c d A a) (.exit 1) rE:=
 h.a' [] []
theorem abd(h:ak (B0 a b q r c A [.b (a==8) true,.b (decide ((A.length:Int)>0)) false,.l [] [5,1] [1] (az Tryz.f243 0) (h5 a b c A 0) .ret (qz s)])):
 aK 243 [.agg (cz a b c A)] [aI s]:=
 h.of
theorem abe(h:ak (B0 a b q r c A [.b (a==8) true,.b (decide ((A.length:Int)>0)) false,.l [] [5,1] [1] (az Tryz.f243 0) (h5 a b c A 0) (.exit 1) rE])):
 aK 243 [.agg (cz a b c A)] [aI true]:=
 h.of
theorem abf(h:ak (B0 a b q r c A [.b (a==8) false,.l [] [5,1] [1] (az Tryz.f243 0) (h5 a b c A 0) .ret (qz s)])):
 aK 243 [.agg (cz a b c A)] [aI s]:=
 h.of
theorem abg(h:ak (B0 a b q r c A [.b (a==8) false,.l [] [5,1] [1] (az Tryz.f243 0) (h5 a b c A 0) (.exit 1) rE])):
 aK 243 [.agg (cz a b c A)] [aI true]:=
 h.of
def Vp(a:Int)(l:List O):List O:=.b (a==2) false::l
def Me(a b:Int)(q:Bool)(c:Int)(r s:Bool)(l:List O):List O:=Vp a (.b (a==3) true::.r 168 [al b,al 1,al 10] [aI q]::.a .wr::.r 168 [al c,al 0,al (IntKind.i64.wrap (b-1))] [aI r]::.r 168 [al a,al 1,al 8] [aI s]::l)
theorem abh(h:ak (Me a b r c s q [.n q true])):
 aK 243 [.agg (cz a b c A)] [aI false]:=
 h.of
theorem abi(h:ak (Me a b q c s r [.n r false,.n q true])):
 aK 243 [.agg (cz a b c A)] [aI false]:=
 h.of
def Mf(a b:Int)(q:Bool)(c:Int)(r s:Bool)(l:List O):List O:=Me a b q c r s (.n s false::.n q false::l)
theorem abj(h:ak (Mf a b q c r s [.n r true])):
 aK 243 [.agg (cz a b c A)] [aI false]:=
 h.of
theorem abk(h:ak (Mf a b q c r s [.n r false,.b (decide ((A.length:Int)>2)) true])):
 aK 243 [.agg (cz a b c A)] [aI false]:=
 h.of
def B1(a b:Int)(q:Bool)(c:Int)(r s:Bool)(A:ai)(l:List O):List O:=Mf a b q c r s (.n r false::.b (decide ((A.length:Int)>2)) false::l)
theorem abl(h:ak (B1 a b q c r s A [.b (a==8) true,.b (decide ((A.length:Int)>0)) true])):
 aK 243 [.agg (cz a b c A)] [aI false]:=
 h.of
theorem abm(h:ak (B1 a b q c r s A [.b (a==8) true,.b (decide ((A.length:Int)>0)) false,.l [] [5,1] [1] (az Tryz.f243 0) (h5 a b c A 0) .ret (qz t)])):
 aK 243 [.agg (cz a b c A)] [aI t]:=
 h.of
theorem abn(h:ak (B1 a b q c r s A [.b (a==8) true,.b (decide ((A.length:Int)>0)) false,.l [] [5,1] [1] (az Tryz.f243 0) (h5 a b c A 0) (.exit 1) rE])):
 aK 243 [.agg (cz a b c A)] [aI true]:=
 h.of
theorem abo(h:ak (B1 a b q c r s A [.b (a==8) false,.l [] [5,1] [1] (az Tryz.f243 0) (h5 a b c A 0) .ret (qz t)])):
 aK 243 [.agg (cz a b c A)] [aI t]:=
 h.of
theorem abp(h:ak (B1 a b q c r s A [.b (a==8) false,.l [] [5,1] [1] (az Tryz.f243 0) (h5 a b c A 0) (.exit 1) rE])):
 aK 243 [.agg (cz a b c A)] [aI true]:=
 h.of
def Vx(a:Int)(l:List O):List O:=Vp a (.b (a==3) false::l)
def Vy(a b:Int)(q r:Bool)(l:List O):List O:=Vx a (.b (a==4) true::.r 168 [al b,al 0,al 99] [aI q]::.r 168 [al a,al 1,al 8] [aI r]::l)
theorem abq(h:ak (Vy a b r q [.n q true])):
 aK 243 [.agg (cz a b c A)] [aI false]:=
 h.of
def Mo(a b:Int)(q r:Bool)(l:List O):List O:=Vy a b q r (.n r false::l)
theorem abr(h:ak (Mo a b q r [.n q true])):
 aK 243 [.agg (cz a b c A)] [aI false]:=
 h.of
theorem abt(h:ak (Mo a b q r [.n q false,.b (!c==0) true])):
 aK 243 [.agg (cz a b c A)] [aI false]:=
 h.of
def Vz(a b:Int)(q r:Bool)(c:Int)(l:List O):List O:=Mo a b q r (.n q false::.b (!c==0) false::l)
theorem abu(h:ak (Vz a b q r c [.b (decide ((A.length:Int)>2)) true])):
 aK 243 [.agg (cz a b c A)] [aI false]:=
 h.of
def B8(a b:Int)(q r:Bool)(c:Int)(A:ai)(l:List O):List O:=Vz a b q r c (.b (decide ((A.length:Int)>2)) false::l)
theorem abv(h:ak (B8 a b q r c A [.b (a==8) true,.b (decide ((A.length:Int)>0)) true])):
 aK 243 [.agg (cz a b c A)] [aI false]:=
 h.of
theorem abw(h:ak (B8 a b q r c A [.b (a==8) true,.b (decide ((A.length:Int)>0)) false,.l [] [5,1] [1] (az Tryz.f243 0) (h5 a b c A 0) .ret (qz s)])):
 aK 243 [.agg (cz a b c A)] [aI s]:=
 h.of
theorem aaF(h:ak (B8 a b q r c A [.b (a==8) true,.b (decide ((A.length:Int)>0)) false,.l [] [5,1] [1] (az Tryz.f243 0) (h5 a b c A 0) (.exit 1) rE])):
 aK 243 [.agg (cz a b c A)] [aI true]:=
 h.of
theorem aaG(h:ak (B8 a b q r c A [.b (a==8) false,.l [] [5,1] [1] (az Tryz.f243 0) (h5 a b c A 0) .ret (qz s)])):
 aK 243 [.agg (cz a b c A)] [aI s]:=
 h.of
theorem aaH(h:ak (B8 a b q r c A [.b (a==8) false,.l [] [5,1] [1] (az Tryz.f243 0) (h5 a b c A 0) (.exit 1) rE])):
 aK 243 [.agg (cz a b c A)] [aI true]:=
 h.of
def VA(a:Int)(q:Bool)(l:List O):List O:=Vx a (.b (a==4) false::.r 168 [al a,al 1,al 8] [aI q]::l)
theorem aaI(h:ak (VA a q [.n q true])):
 aK 243 [.agg (cz a b c A)] [aI false]:=
 h.of
def VB(a:Int)(q:Bool)(l:List O):List O:=VA a q (.n q false::l)
theorem aaJ(h:ak (VB a q [.b (!b==0) true])):
 aK 243 [.agg (cz a b c A)] [aI false]:=
 h.of
def VC(a:Int)(q:Bool)(b:Int)(l:List O):List O:=VB a q (.b (!b==0) false::l)
theorem aaK(h:ak (VC a q b [.b (!c==0) true])):
 aK 243 [.agg (cz a b c A)] [aI false]:=
 h.of
def VD(a:Int)(q:Bool)(b c:Int)(l:List O):List O:=VC a q b (.b (!c==0) false::l)
theorem aaL(h:ak (VD a q b c [.b (decide ((A.length:Int)>2)) true])):
 aK 243 [.agg (cz a b c A)] [aI false]:=
 h.of
def B9(a:Int)(q:Bool)(b c:Int)(A:ai)(l:List O):List O:=VD a q b c (.b (decide ((A.length:Int)>2)) false::l)
theorem aaM(h:ak (B9 a q b c A [.b (a==8) true,.b (decide ((A.length:Int)>0)) true])):
 aK 243 [.agg (cz a b c A)] [aI false]:=
 h.of
theorem aaN(h:ak (B9 a q b c A [.b (a==8) true,.b (decide ((A.length:Int)>0)) false,.l [] [5,1] [1] (az Tryz.f243 0) (h5 a b c A 0) .ret (qz r)])):
 aK 243 [.agg (cz a b c A)] [aI r]:=
 h.of
theorem aaO(h:ak (B9 a q b c A [.b (a==8) true,.b (decide ((A.length:Int)>0)) false,.l [] [5,1] [1] (az Tryz.f243 0) (h5 a b c A 0) (.exit 1) rE])):
 aK 243 [.agg (cz a b c A)] [aI true]:=
 h.of
theorem aaP(h:ak (B9 a q b c A [.b (a==8) false,.l [] [5,1] [1] (az Tryz.f243 0) (h5 a b c A 0) .ret (qz r)])):
 aK 243 [.agg (cz a b c A)] [aI r]:=
 h.of
theorem aaQ(h:ak (B9 a q b c A [.b (a==8) false,.l [] [5,1] [1] (az Tryz.f243 0) (h5 a b c A 0) (.exit 1) rE])):
 aK 243 [.agg (cz a b c A)] [aI true]:=
 h.of
