import Derived.Test.YtdchjefneblpgaaGreatGE
set_option linter.unusedVariables false
set_option linter.unusedSimpArgs false
namespace Go.Proofs.YtdchjefneblpgaaGreat
open Go.Sx Go.RowKit
variable {a b c d e f g i j k l m n o : Int} {A C E F G : ai} {q r s t u v w : Bool}
def VP(A:ai)(a b c d e f:Int)(C:ai)(q:Bool)(g i j k:Int)(r:Bool)(l:List O):List O:=.r 249 [.agg (bS A a b),al c] [.agg (cz d e f C),aI q]::.r 270 [.agg [I g,I i]] [.agg [I j,I k],aI r]::l
def Cf(A:ai)(a b c d e f:Int)(C:ai)(q:Bool)(g i j k:Int)(r s:Bool)(l:List O):List O:=VP A a b c d e f C q g i j k r (.b q true::.r 121 [.agg (bS A a b)] [aI s]::l)
theorem adj(h:ak (Cf A a b c i m j C q d e k l r s [.b s true,.r 122 [.agg (bu c d e f g)] [aI t],.b t true,.b (i==7) true,.b (decide ((C.length:Int)>0)) true])):
 aK 177 [.agg (bS A a b),.agg (bu c d e f g)] [.one (B !r)]:=
 h.of
theorem adk(h:ak (Cf A a b c i m j C q d e k l t r [.b r true,.r 122 [.agg (bu c d e f g)] [aI s],.b s true,.b (i==7) true,.b (decide ((C.length:Int)>0)) false])):
 aK 177 [.agg (bS A a b),.agg (bu c d e f g)] [aI false]:=
 h.of
theorem adl(h:ak (Cf A a b c i m j C q d e k l t r [.b r true,.r 122 [.agg (bu c d e f g)] [aI s],.b s true,.b (i==7) false])):
 aK 177 [.agg (bS A a b),.agg (bu c d e f g)] [aI false]:=
 h.of
theorem adm(h:ak (Cf A a b c l m i C q d e j k t r [.b r true,.r 122 [.agg (bu c d e f g)] [aI s],.b s false])):
 aK 177 [.agg (bS A a b),.agg (bu c d e f g)] [aI false]:=
 h.of
theorem adn(h:ak (Cf A a b c l m f C q d e g i s r [.b r false])):
 aK 177 [.agg (bS A a b),.agg (bu c d e j k)] [aI false]:=
 h.of
theorem ado(h:ak (VP A a b c l m f C q d e g i r [.b q false])):
 aK 177 [.agg (bS A a b),.agg (bu c d e j k)] [aI false]:=
 h.of
def VQ(A C:ai)(a b c d e f:Int)(E:ai)(q:Bool)(l:List O):List O:=.g ([]:ai) A 32::.h A::.r 249 [.agg (bS C a b),al c] [.agg (cz d e f E),aI q]::l
theorem adp(h:ak (VQ A C a b c k d e E q [.n q true])):
 aK 176 [.agg (bS C a b),a7 4 A,.agg (bu c f g i j)] [a7 4 ([]++A),a7 5 [],aI false]:=
 h.of
def VR(A C:ai)(a b c d e f:Int)(E:ai)(q r:Bool)(l:List O):List O:=VQ A C a b c d e f E q (.n q false::.r 121 [.agg (bS C a b)] [aI r]::l)
theorem adq(h:ak (VR A C a b c k d e E q r [.n r true])):
 aK 176 [.agg (bS C a b),a7 4 A,.agg (bu c f g i j)] [a7 4 ([]++A),a7 5 [],aI false]:=
 h.of
def VS(A C:ai)(a b c d e f:Int)(E:ai)(q r:Bool)(g i j k:Int)(s:Bool)(l:List O):List O:=VR A C a b c d e f E q r (.n r false::.r 122 [.agg (bu c g i j k)] [aI s]::l)
theorem adr(h:ak (VS A C a b c k i j E q r d e f g s [.n s true])):
 aK 176 [.agg (bS C a b),a7 4 A,.agg (bu c d e f g)] [a7 4 ([]++A),a7 5 [],aI false]:=
 h.of
def Mv(A C:ai)(a b c d e f:Int)(E:ai)(q r:Bool)(g i j k:Int)(s:Bool)(m n:Int)(t:Bool)(l:List O):List O:=VS A C a b c d e f E q r g i j k s (.n s false::.r 267 [.agg (cz d e f E),al j,al k] [al m,al n,aI t]::l)
theorem ads(h:ak (Mv A C a b c f g i E q r j k d e s l m t [.n t true,.b (f != 8) true])):
 aK 176 [.agg (bS C a b),a7 4 A,.agg (bu c j k d e)] [a7 4 ([]++A),a7 5 [],aI true]:=
 h.of
def FG(A C:ai)(a b c d e f:Int)(E:ai)(q r:Bool)(g i j k:Int)(s:Bool)(m n:Int)(t u:Bool)(l:List O):List O:=Mv A C a b c d e f E q r g i j k s m n t (.n t true::.b (d != 8) false::.r 268 [al d] [aI u]::l)
def FH(A C:ai)(a b c d e f:Int)(E:ai)(q r:Bool)(g i j k:Int)(s:Bool)(m n:Int)(t u:Bool)(F:ai)(v:Bool)(l:List O):List O:=FG A C a b c d e f E q r g i j k s m n t u (.b u true::.r 269 [al d,a7 4 A,.agg [I c,I g,I j,I k]] [a7 4 F,aI v]::l)
theorem adt(h:ak (FH A C e f b a i j E q r g k c d s l m t u F v [.n v true])):
 aK 176 [.agg (bS C e f),a7 4 A,.agg (bu b g k c d)] [a7 4 F,a7 5 [],aI true]:=
 h.of
theorem adu(h:ak (FH A C f g b a j k E q r c i d e s l m t u F v [.n v false,.b (a==7) true,.r 270 [.agg [I c,I i]] [.agg [I n,I o],aI w],.n w true])):
 aK 176 [.agg (bS C f g),a7 4 A,.agg (bu b c i d e)] [a7 4 F,a7 5 [],aI true]:=
 h.of
def v'(a b c:Int)(C:ai)(d e:Int)(E:ai)(f g i:Int)(A:ai):aE:=bi 127 [(9,aB.aD (bd.one (ay 840000 4 E))),(10,aB.aD (bd.one (ay 25 5 A))),(11,aS 11),(13,aZ d),(14,aZ e),(18,aS 18),(21,aZ i)] [(18,[aq f,aq g]),(11,[aq a,aq b,aq c,ay 310003 1 C])]
def FK(A:ai)(a b:Int)(C:ai)(c d e f:Int)(l:List O):List O:=.i A a [I b]::.g C [(bu b c d e f)] 40::.h [(bu b c d e f)]::.u a::l
theorem adv(h:ak (FK A e f C c d a b [])):
 bb (az Tryz.f176 0) (v' j g i A a b E c d e C) .normal (v' j g i A a b E c d (e+1) (C++[(bu f c d a b)])):=
 h.a' [21,11,10,18,13,14,9] [18,11]
def uD(A C:ai):aE:=bi 127 [(9,aB.aD (bd.one (ay 840000 4 A))),(10,aB.aD (bd.one (ay 25 5 C)))] []
theorem adw(h:ak [.f A a false]):
 bb (az Tryz.f176 0) (v' i b c A d e C f g a E) (.exit 0) (uD C E):=
 h.a' [9,10] []
theorem adx(h:ak (FH C E f j b a g i F q r c k d e s l m t u A v [.n v false,.b (a==7) true,.r 270 [.agg [I c,I k]] [.agg [I n,I o],aI w],.n w false,.l [] [21,11,10,18,13,14,9] [18,11] (az Tryz.f176 0) (v' a g i F l m A n o 0 []) (.exit 0) (uD A G)])):
 aK 176 [.agg (bS E f j),a7 4 C,.agg (bu b c k d e)] [a7 4 A,a7 5 G,aI true]:=
 h.of
def wa(a b c d e:Int)(C:ai)(f g:Int)(E:ai)(i:Int)(A:ai):aE:=bi 127 [(9,aB.aD (bd.one (ay 840000 4 E))),(10,aB.aD (bd.one (ay 25 5 A))),(11,aS 11),(13,aZ f),(14,aZ g),(18,aS 18),(21,aZ i)] [(18,[aq a,aq b]),(11,[aq c,aq d,aq e,ay 310003 1 C])]
theorem ady(h:ak (FK A e f C c d a b [])):
 bb (az Tryz.f176 0) (wa c d j g i A a b E e C) .normal (wa c d j g i A a b E (e+1) (C++[(bu f c d a b)])):=
 h.a' [21,11,10,18,13,14,9] [18,11]
theorem adz(h:ak [.f A a false]):
 bb (az Tryz.f176 0) (wa f g i b c A d e C a E) (.exit 0) (uD C E):=
 h.a' [9,10] []
theorem adA(h:ak (FH C E f j b a g i F q r c k d e s l m t u A v [.n v false,.b (a==7) false,.l [] [21,11,10,18,13,14,9] [18,11] (az Tryz.f176 0) (wa c k a g i F l m A 0 []) (.exit 0) (uD A G)])):
 aK 176 [.agg (bS E f j),a7 4 C,.agg (bu b c k d e)] [a7 4 A,a7 5 G,aI true]:=
 h.of
theorem adB(h:ak (FG A C b c d a j k E q r e f g i s l m t u [.b u false,.b (a==7) true,.r 270 [.agg [I e,I f]] [.agg [I n,I o],aI v],.n v true])):
 aK 176 [.agg (bS C b c),a7 4 A,.agg (bu d e f g i)] [a7 4 ([]++A),a7 5 [],aI true]:=
 h.of
def wb(A:ai)(a b c:Int)(E:ai)(d e f g i:Int)(C:ai):aE:=bi 127 [(9,aB.aD (bd.one (ay 22 4 ([]++A)))),(10,aB.aD (bd.one (ay 25 5 C))),(11,aS 11),(13,aZ d),(14,aZ e),(18,aS 18),(21,aZ i)] [(18,[aq f,aq g]),(11,[aq a,aq b,aq c,ay 310003 1 E])]
theorem acK(h:ak (FK A e f C c d a b [])):
 bb (az Tryz.f176 0) (wb E j g i A a b c d e C) .normal (wb E j g i A a b c d (e+1) (C++[(bu f c d a b)])):=
 h.a' [21,11,10,18,13,14,9] [18,11]
def uE(A C:ai):aE:=bi 127 [(9,aB.aD (bd.one (ay 22 4 ([]++A)))),(10,aB.aD (bd.one (ay 25 5 C)))] []
theorem acL(h:ak [.f A a false]):
 bb (az Tryz.f176 0) (wb E i b c A d e f g a C) (.exit 0) (uE E C):=
 h.a' [9,10] []
theorem acM(h:ak (FG A C b e f a c d E q r g i j k s l m t u [.b u false,.b (a==7) true,.r 270 [.agg [I g,I i]] [.agg [I n,I o],aI v],.n v false,.l [] [21,11,10,18,13,14,9] [18,11] (az Tryz.f176 0) (wb A a c d E l m n o 0 []) (.exit 0) (uE A F)])):
 aK 176 [.agg (bS C b e),a7 4 A,.agg (bu f g i j k)] [a7 4 ([]++A),a7 5 F,aI true]:=
 h.of
def wP(A:ai)(a b c d e:Int)(E:ai)(f g i:Int)(C:ai):aE:=bi 127 [(9,aB.aD (bd.one (ay 22 4 ([]++A)))),(10,aB.aD (bd.one (ay 25 5 C))),(11,aS 11),(13,aZ f),(14,aZ g),(18,aS 18),(21,aZ i)] [(18,[aq a,aq b]),(11,[aq c,aq d,aq e,ay 310003 1 E])]
theorem acN(h:ak (FK A e f C c d a b [])):
 bb (az Tryz.f176 0) (wP E c d j g i A a b e C) .normal (wP E c d j g i A a b (e+1) (C++[(bu f c d a b)])):=
 h.a' [21,11,10,18,13,14,9] [18,11]
theorem acO(h:ak [.f A a false]):
 bb (az Tryz.f176 0) (wP E f g i b c A d e a C) (.exit 0) (uE E C):=
 h.a' [9,10] []
theorem acP(h:ak (FG A C b e f a c d E q r g i j k s l m t u [.b u false,.b (a==7) false,.l [] [21,11,10,18,13,14,9] [18,11] (az Tryz.f176 0) (wP A g i a c d E l m 0 []) (.exit 0) (uE A F)])):
 aK 176 [.agg (bS C b e),a7 4 A,.agg (bu f g i j k)] [a7 4 ([]++A),a7 5 F,aI true]:=
 h.of
def FI(A C:ai)(a b c d e f:Int)(E:ai)(q r:Bool)(g i j k:Int)(s:Bool)(m n:Int)(t u:Bool)(l:List O):List O:=Mv A C a b c d e f E q r g i j k s m n t (.n t false::.r 268 [al d] [aI u]::l)
def FJ(A C:ai)(a b c d e f:Int)(E:ai)(q r:Bool)(g i j k:Int)(s:Bool)(m n:Int)(t u:Bool)(F:ai)(v:Bool)(l:List O):List O:=FI A C a b c d e f E q r g i j k s m n t u (.b u true::.r 269 [al d,a7 4 A,.agg [I c,I g,I j,I k]] [a7 4 F,aI v]::l)
theorem acQ(h:ak (FJ A C e f a d i j E q r g k b c s l m t u F v [.n v true])):
 aK 176 [.agg (bS C e f),a7 4 A,.agg (bu a g k b c)] [a7 4 F,a7 5 [],aI true]:=
 h.of
theorem acR(h:ak (FJ A C f g b a j k E q r c i d e s l m t u F v [.n v false,.b (a==7) true,.r 270 [.agg [I c,I i]] [.agg [I n,I o],aI w],.n w true])):
 aK 176 [.agg (bS C f g),a7 4 A,.agg (bu b c i d e)] [a7 4 F,a7 5 [],aI true]:=
 h.of
theorem acS(h:ak (FJ C E f j b a g i F q r c k d e s l m t u A v [.n v false,.b (a==7) true,.r 270 [.agg [I c,I k]] [.agg [I n,I o],aI w],.n w false,.l [] [21,11,10,18,13,14,9] [18,11] (az Tryz.f176 0) (v' a g i F l m A n o 0 []) (.exit 0) (uD A G)])):
 aK 176 [.agg (bS E f j),a7 4 C,.agg (bu b c k d e)] [a7 4 A,a7 5 G,aI true]:=
 h.of
theorem acT(h:ak (FJ C E f j b a g i F q r c k d e s l m t u A v [.n v false,.b (a==7) false,.l [] [21,11,10,18,13,14,9] [18,11] (az Tryz.f176 0) (wa c k a g i F l m A 0 []) (.exit 0) (uD A G)])):
 aK 176 [.agg (bS E f j),a7 4 C,.agg (bu b c k d e)] [a7 4 A,a7 5 G,aI true]:=
 h.of
theorem acU(h:ak (FI A C b c d a j k E q r e f g i s l m t u [.b u false,.b (a==7) true,.r 270 [.agg [I e,I f]] [.agg [I n,I o],aI v],.n v true])):
 aK 176 [.agg (bS C b c),a7 4 A,.agg (bu d e f g i)] [a7 4 ([]++A),a7 5 [],aI true]:=
 h.of
theorem acV(h:ak (FI A C b e f a c d E q r g i j k s l m t u [.b u false,.b (a==7) true,.r 270 [.agg [I g,I i]] [.agg [I n,I o],aI v],.n v false,.l [] [21,11,10,18,13,14,9] [18,11] (az Tryz.f176 0) (wb A a c d E l m n o 0 []) (.exit 0) (uE A F)])):
 aK 176 [.agg (bS C b e),a7 4 A,.agg (bu f g i j k)] [a7 4 ([]++A),a7 5 F,aI true]:=
 h.of
theorem acW(h:ak (FI A C b e f a c d E q r g i j k s l m t u [.b u false,.b (a==7) false,.l [] [21,11,10,18,13,14,9] [18,11] (az Tryz.f176 0) (wP A g i a c d E l m 0 []) (.exit 0) (uE A F)])):
 aK 176 [.agg (bS C b e),a7 4 A,.agg (bu f g i j k)] [a7 4 ([]++A),a7 5 F,aI true]:=
 h.of
