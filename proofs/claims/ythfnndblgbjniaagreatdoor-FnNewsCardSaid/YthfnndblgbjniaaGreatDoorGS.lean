import Derived.Test.YthfnndblgbjniaaGreatDoorGE
namespace Go.Proofs.YthfnndblgbjniaaGreatDoor
open Go.Sx Go.RowKit
variable {a b c d e f g i j k l m n o : Int} {A C E F G : ae} {q r s t u v w : Bool}
def Us(A:ae)(a b c d e f:Int)(C:ae)(q:Bool)(g i j k:Int)(r:Bool)(l:List O):List O:=.r 194 [.agg (bC A a b),ag c] [.agg (bi d e f C),ar q]::.r 198 [.agg [I g,I i]] [.agg [I j,I k],ar r]::l
def z7(A:ae)(a b c d e f:Int)(C:ae)(q:Bool)(g i j k:Int)(r s:Bool)(l:List O):List O:=Us A a b c d e f C q g i j k r (.b q true::.r 138 [.agg (bC A a b)] [ar s]::l)
theorem aa4(h:af (z7 A a b c i m j C q d e k l r s [.b s true,.r 167 [.agg (bw c d e f g)] [ar t],.b t true,.b (i==7) true,.b (decide ((C.length:Int)>0)) true])):
 ax 157 [.agg (bC A a b),.agg (bw c d e f g)] [.one (B !r)]:=
 h.of
theorem aa5(h:af (z7 A a b c i m j C q d e k l t r [.b r true,.r 167 [.agg (bw c d e f g)] [ar s],.b s true,.b (i==7) true,.b (decide ((C.length:Int)>0)) false])):
 ax 157 [.agg (bC A a b),.agg (bw c d e f g)] [ar false]:=
 h.of
theorem aa6(h:af (z7 A a b c i m j C q d e k l t r [.b r true,.r 167 [.agg (bw c d e f g)] [ar s],.b s true,.b (i==7) false])):
 ax 157 [.agg (bC A a b),.agg (bw c d e f g)] [ar false]:=
 h.of
theorem aa7(h:af (z7 A a b c l m i C q d e j k t r [.b r true,.r 167 [.agg (bw c d e f g)] [ar s],.b s false])):
 ax 157 [.agg (bC A a b),.agg (bw c d e f g)] [ar false]:=
 h.of
theorem aa8(h:af (z7 A a b c l m f C q d e g i s r [.b r false])):
 ax 157 [.agg (bC A a b),.agg (bw c d e j k)] [ar false]:=
 h.of
theorem aa9(h:af (Us A a b c l m f C q d e g i r [.b q false])):
 ax 157 [.agg (bC A a b),.agg (bw c d e j k)] [ar false]:=
 h.of
def Ut(A C:ae)(a b c d e f:Int)(E:ae)(q:Bool)(l:List O):List O:=.g ([]:ae) A 32::.h A::.r 194 [.agg (bC C a b),ag c] [.agg (bi d e f E),ar q]::l
theorem aba(h:af (Ut A C a b c k d e E q [.n q true])):
 ax 156 [.agg (bC C a b),aY 4 A,.agg (bw c f g i j)] [aY 4 ([]++A),aY 5 [],ar false]:=
 h.of
def Uu(A C:ae)(a b c d e f:Int)(E:ae)(q r:Bool)(l:List O):List O:=Ut A C a b c d e f E q (.n q false::.r 138 [.agg (bC C a b)] [ar r]::l)
theorem abb(h:af (Uu A C a b c k d e E q r [.n r true])):
 ax 156 [.agg (bC C a b),aY 4 A,.agg (bw c f g i j)] [aY 4 ([]++A),aY 5 [],ar false]:=
 h.of
def Uv(A C:ae)(a b c d e f:Int)(E:ae)(q r:Bool)(g i j k:Int)(s:Bool)(l:List O):List O:=Uu A C a b c d e f E q r (.n r false::.r 167 [.agg (bw c g i j k)] [ar s]::l)
theorem abd(h:af (Uv A C a b c k i j E q r d e f g s [.n s true])):
 ax 156 [.agg (bC C a b),aY 4 A,.agg (bw c d e f g)] [aY 4 ([]++A),aY 5 [],ar false]:=
 h.of
def Lv(A C:ae)(a b c d e f:Int)(E:ae)(q r:Bool)(g i j k:Int)(s:Bool)(m n:Int)(t:Bool)(l:List O):List O:=Uv A C a b c d e f E q r g i j k s (.n s false::.r 195 [.agg (bi d e f E),ag j,ag k] [ag m,ag n,ar t]::l)
theorem abe(h:af (Lv A C a b c f g i E q r j k d e s l m t [.n t true,.b (f != 8) true])):
 ax 156 [.agg (bC C a b),aY 4 A,.agg (bw c j k d e)] [aY 4 ([]++A),aY 5 [],ar true]:=
 h.of
def DR(A C:ae)(a b c d e f:Int)(E:ae)(q r:Bool)(g i j k:Int)(s:Bool)(m n:Int)(t u:Bool)(l:List O):List O:=Lv A C a b c d e f E q r g i j k s m n t (.n t true::.b (d != 8) false::.r 196 [ag d] [ar u]::l)
def DS(A C:ae)(a b c d e f:Int)(E:ae)(q r:Bool)(g i j k:Int)(s:Bool)(m n:Int)(t u:Bool)(F:ae)(v:Bool)(l:List O):List O:=DR A C a b c d e f E q r g i j k s m n t u (.b u true::.r 197 [ag d,aY 4 A,.agg [I c,I g,I j,I k]] [aY 4 F,ar v]::l)
theorem abf(h:af (DS A C e f b a i j E q r g k c d s l m t u F v [.n v true])):
 ax 156 [.agg (bC C e f),aY 4 A,.agg (bw b g k c d)] [aY 4 F,aY 5 [],ar true]:=
 h.of
theorem abg(h:af (DS A C f g b a j k E q r c i d e s l m t u F v [.n v false,.b (a==7) true,.r 198 [.agg [I c,I i]] [.agg [I n,I o],ar w],.n w true])):
 ax 156 [.agg (bC C f g),aY 4 A,.agg (bw b c i d e)] [aY 4 F,aY 5 [],ar true]:=
 h.of
def ur(a b c:Int)(C:ae)(d e:Int)(E:ae)(f g i:Int)(A:ae):aD:=bd 127 [(9,aE.az (bg.one (al 840000 4 E))),(10,aE.az (bg.one (al 25 5 A))),(11,aN 11),(13,aU d),(14,aU e),(18,aN 18),(21,aU i)] [(18,[ak f,ak g]),(11,[ak a,ak b,ak c,al 310003 1 C])]
def DV(A:ae)(a b:Int)(C:ae)(c d e f:Int)(l:List O):List O:=.i A a [I b]::.g C [(bw b c d e f)] 40::.h [(bw b c d e f)]::.u a::l
theorem abh(h:af (DV A e f C c d a b [])):
 aX (aq Tryz.f156 0) (ur j g i A a b E c d e C) .normal (ur j g i A a b E c d (e+1) (C++[(bw f c d a b)])):=
 h.aV [21,11,10,18,13,14,9] [18,11]
def sX(A C:ae):aD:=bd 127 [(9,aE.az (bg.one (al 840000 4 A))),(10,aE.az (bg.one (al 25 5 C)))] []
theorem abi(h:af [.f A a false]):
 aX (aq Tryz.f156 0) (ur i b c A d e C f g a E) (.exit 0) (sX C E):=
 h.aV [9,10] []
theorem abj(h:af (DS C E f j b a g i F q r c k d e s l m t u A v [.n v false,.b (a==7) true,.r 198 [.agg [I c,I k]] [.agg [I n,I o],ar w],.n w false,.l [] [21,11,10,18,13,14,9] [18,11] (aq Tryz.f156 0) (ur a g i F l m A n o 0 []) (.exit 0) (sX A G)])):
 ax 156 [.agg (bC E f j),aY 4 C,.agg (bw b c k d e)] [aY 4 A,aY 5 G,ar true]:=
 h.of
def uu(a b c d e:Int)(C:ae)(f g:Int)(E:ae)(i:Int)(A:ae):aD:=bd 127 [(9,aE.az (bg.one (al 840000 4 E))),(10,aE.az (bg.one (al 25 5 A))),(11,aN 11),(13,aU f),(14,aU g),(18,aN 18),(21,aU i)] [(18,[ak a,ak b]),(11,[ak c,ak d,ak e,al 310003 1 C])]
theorem abk(h:af (DV A e f C c d a b [])):
 aX (aq Tryz.f156 0) (uu c d j g i A a b E e C) .normal (uu c d j g i A a b E (e+1) (C++[(bw f c d a b)])):=
 h.aV [21,11,10,18,13,14,9] [18,11]
theorem abl(h:af [.f A a false]):
 aX (aq Tryz.f156 0) (uu f g i b c A d e C a E) (.exit 0) (sX C E):=
 h.aV [9,10] []
theorem abm(h:af (DS C E f j b a g i F q r c k d e s l m t u A v [.n v false,.b (a==7) false,.l [] [21,11,10,18,13,14,9] [18,11] (aq Tryz.f156 0) (uu c k a g i F l m A 0 []) (.exit 0) (sX A G)])):
 ax 156 [.agg (bC E f j),aY 4 C,.agg (bw b c k d e)] [aY 4 A,aY 5 G,ar true]:=
 h.of
theorem abn(h:af (DR A C b c d a j k E q r e f g i s l m t u [.b u false,.b (a==7) true,.r 198 [.agg [I e,I f]] [.agg [I n,I o],ar v],.n v true])):
 ax 156 [.agg (bC C b c),aY 4 A,.agg (bw d e f g i)] [aY 4 ([]++A),aY 5 [],ar true]:=
 h.of
def uv(A:ae)(a b c:Int)(E:ae)(d e f g i:Int)(C:ae):aD:=bd 127 [(9,aE.az (bg.one (al 22 4 ([]++A)))),(10,aE.az (bg.one (al 25 5 C))),(11,aN 11),(13,aU d),(14,aU e),(18,aN 18),(21,aU i)] [(18,[ak f,ak g]),(11,[ak a,ak b,ak c,al 310003 1 E])]
theorem abo(h:af (DV A e f C c d a b [])):
 aX (aq Tryz.f156 0) (uv E j g i A a b c d e C) .normal (uv E j g i A a b c d (e+1) (C++[(bw f c d a b)])):=
 h.aV [21,11,10,18,13,14,9] [18,11]
def sY(A C:ae):aD:=bd 127 [(9,aE.az (bg.one (al 22 4 ([]++A)))),(10,aE.az (bg.one (al 25 5 C)))] []
theorem abp(h:af [.f A a false]):
 aX (aq Tryz.f156 0) (uv E i b c A d e f g a C) (.exit 0) (sY E C):=
 h.aV [9,10] []
theorem abq(h:af (DR A C b e f a c d E q r g i j k s l m t u [.b u false,.b (a==7) true,.r 198 [.agg [I g,I i]] [.agg [I n,I o],ar v],.n v false,.l [] [21,11,10,18,13,14,9] [18,11] (aq Tryz.f156 0) (uv A a c d E l m n o 0 []) (.exit 0) (sY A F)])):
 ax 156 [.agg (bC C b e),aY 4 A,.agg (bw f g i j k)] [aY 4 ([]++A),aY 5 F,ar true]:=
 h.of
def uw(A:ae)(a b c d e:Int)(E:ae)(f g i:Int)(C:ae):aD:=bd 127 [(9,aE.az (bg.one (al 22 4 ([]++A)))),(10,aE.az (bg.one (al 25 5 C))),(11,aN 11),(13,aU f),(14,aU g),(18,aN 18),(21,aU i)] [(18,[ak a,ak b]),(11,[ak c,ak d,ak e,al 310003 1 E])]
theorem abr(h:af (DV A e f C c d a b [])):
 aX (aq Tryz.f156 0) (uw E c d j g i A a b e C) .normal (uw E c d j g i A a b (e+1) (C++[(bw f c d a b)])):=
 h.aV [21,11,10,18,13,14,9] [18,11]
theorem aaB(h:af [.f A a false]):
 aX (aq Tryz.f156 0) (uw E f g i b c A d e a C) (.exit 0) (sY E C):=
 h.aV [9,10] []
theorem aaC(h:af (DR A C b e f a c d E q r g i j k s l m t u [.b u false,.b (a==7) false,.l [] [21,11,10,18,13,14,9] [18,11] (aq Tryz.f156 0) (uw A g i a c d E l m 0 []) (.exit 0) (sY A F)])):
 ax 156 [.agg (bC C b e),aY 4 A,.agg (bw f g i j k)] [aY 4 ([]++A),aY 5 F,ar true]:=
 h.of
def DT(A C:ae)(a b c d e f:Int)(E:ae)(q r:Bool)(g i j k:Int)(s:Bool)(m n:Int)(t u:Bool)(l:List O):List O:=Lv A C a b c d e f E q r g i j k s m n t (.n t false::.r 196 [ag d] [ar u]::l)
def DU(A C:ae)(a b c d e f:Int)(E:ae)(q r:Bool)(g i j k:Int)(s:Bool)(m n:Int)(t u:Bool)(F:ae)(v:Bool)(l:List O):List O:=DT A C a b c d e f E q r g i j k s m n t u (.b u true::.r 197 [ag d,aY 4 A,.agg [I c,I g,I j,I k]] [aY 4 F,ar v]::l)
theorem aaD(h:af (DU A C e f a d i j E q r g k b c s l m t u F v [.n v true])):
 ax 156 [.agg (bC C e f),aY 4 A,.agg (bw a g k b c)] [aY 4 F,aY 5 [],ar true]:=
 h.of
theorem aaE(h:af (DU A C f g b a j k E q r c i d e s l m t u F v [.n v false,.b (a==7) true,.r 198 [.agg [I c,I i]] [.agg [I n,I o],ar w],.n w true])):
 ax 156 [.agg (bC C f g),aY 4 A,.agg (bw b c i d e)] [aY 4 F,aY 5 [],ar true]:=
 h.of
theorem aaF(h:af (DU C E f j b a g i F q r c k d e s l m t u A v [.n v false,.b (a==7) true,.r 198 [.agg [I c,I k]] [.agg [I n,I o],ar w],.n w false,.l [] [21,11,10,18,13,14,9] [18,11] (aq Tryz.f156 0) (ur a g i F l m A n o 0 []) (.exit 0) (sX A G)])):
 ax 156 [.agg (bC E f j),aY 4 C,.agg (bw b c k d e)] [aY 4 A,aY 5 G,ar true]:=
 h.of
theorem aaG(h:af (DU C E f j b a g i F q r c k d e s l m t u A v [.n v false,.b (a==7) false,.l [] [21,11,10,18,13,14,9] [18,11] (aq Tryz.f156 0) (uu c k a g i F l m A 0 []) (.exit 0) (sX A G)])):
 ax 156 [.agg (bC E f j),aY 4 C,.agg (bw b c k d e)] [aY 4 A,aY 5 G,ar true]:=
 h.of
theorem aaH(h:af (DT A C b c d a j k E q r e f g i s l m t u [.b u false,.b (a==7) true,.r 198 [.agg [I e,I f]] [.agg [I n,I o],ar v],.n v true])):
 ax 156 [.agg (bC C b c),aY 4 A,.agg (bw d e f g i)] [aY 4 ([]++A),aY 5 [],ar true]:=
 h.of
theorem aaI(h:af (DT A C b e f a c d E q r g i j k s l m t u [.b u false,.b (a==7) true,.r 198 [.agg [I g,I i]] [.agg [I n,I o],ar v],.n v false,.l [] [21,11,10,18,13,14,9] [18,11] (aq Tryz.f156 0) (uv A a c d E l m n o 0 []) (.exit 0) (sY A F)])):
 ax 156 [.agg (bC C b e),aY 4 A,.agg (bw f g i j k)] [aY 4 ([]++A),aY 5 F,ar true]:=
 h.of
theorem aaJ(h:af (DT A C b e f a c d E q r g i j k s l m t u [.b u false,.b (a==7) false,.l [] [21,11,10,18,13,14,9] [18,11] (aq Tryz.f156 0) (uw A g i a c d E l m 0 []) (.exit 0) (sY A F)])):
 ax 156 [.agg (bC C b e),aY 4 A,.agg (bw f g i j k)] [aY 4 ([]++A),aY 5 F,ar true]:=
 h.of
