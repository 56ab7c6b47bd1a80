import Derived.Test.YthfnndblgbjniaaGreatDoorGE
namespace Go.Proofs.YthfnndblgbjniaaGreatDoor
open Go.Sx Go.RowKit Go.Proofs.Tryz
variable {a b c d e f g i j k l m n o p a0 cj df d0 bD f0 g0 i0 j0 : Int} {A C E F G H ah K L M N Q R S bu V X Y Z ew iW iX jL jM jN k0 mZ qp rX rY rZ vm tq : ae} {q r s t u v : Bool}
end Go.Proofs.YthfnndblgbjniaaGreatDoor
namespace Go.Proofs.YthfnndblgbjniaaGreatDoor
open Go.Sx Go.RowKit Go.Proofs.Tryz
variable {a b c d e f g i j k l m n o p a0 cj df d0 bD f0 g0 i0 j0 : Int} {A C E F G H ah K L M N Q R S bu V X Y Z ew iW iX jL jM jN k0 mZ qp rX rY rZ vm tq : ae} {q r s t u v : Bool}
def pj(a:Int)(A:ae)(b c d e f:Int)(C:ae)(g i j k:Int)(q:Bool)(l:List O):List O:=.r 137 [.agg (ck a A b c d e)] [.agg (ck f C g i j k)]::.r 140 [.agg (ck f C g i j k)] [ar q]::l
theorem afg(h:af (pj f C g i j k c A d e a b q [.n q true])):
 ax 163 [.agg (ck f C g i j k)] [.agg (ck c A d e a b),ar false]:=
 h.of
theorem afh(h:af (pj f C g i j k d A e a b c q [.n q false,.b (a==0) true])):
 ax 163 [.agg (ck f C g i j k)] [.agg (ck d A e a b c),ar false]:=
 h.of
theorem afi(h:af (pj f C g i j k e A b a c d q [.n q false,.b (a==0) false,.v (a-1),.u b])):
 ax 163 [.agg (ck f C g i j k)] [.agg (ck e A (b+1) (a-1) c d),ar true]:=
 h.of
def sy(A:ae)(a d:Int)(C:ae)(e f:Int)(E F G H:ae)(q:Bool)(b c:Int):aD:=bd 34 [(1,aU a),(4,aN 4),(6,aN 10),(7,aE.az (bg.one (al 130000 3 A))),(8,aU d)] [(10,[al 900011000 4 C,ak e,ak f,al 900011003 8 E,al 900011004 6 F,al 900011005 5 G,al 900011006 3 H,.a1 q]),(4,[.v (aL),ak b,ak c,.v (aL),.v (aL),.v (aL),.v (aL)])]
def JQ(a:Int)(A:ae)(b c:Int)(C E F G:ae):aD:=bd 34 [(4,aN 4),(5,aU a)] [(4,[al 235000 4 A,ak b,ak c,al 235003 8 C,al 235004 6 E,al 235005 5 F,al 235006 3 G])]
def UJ(a b:Int)(A:ae)(c d:Int)(C E F G:ae)(q:Bool)(e:Int)(H:ae)(f g:Int)(ah K L M:ae)(r:Bool)(N:ae)(l:List O):List O:=.b (decide (a<=b)) true::.a (.cY [some [D.J 4 A,I c,I d,D.J 8 C,D.J 6 E,D.J 5 F,D.J 3 G,B q],none] (aS.vals [ag e]))::.p (bP prog 73 [aJ.ref [D.J 4 H,I f,I g,D.J 8 ah,D.J 6 K,D.J 5 L,D.J 3 M,B r] [D.J 4 A,I c,I d,D.J 8 C,D.J 6 E,D.J 5 F,D.J 3 G,B q],aJ.ro (aY 3 N)] (aS.vals [ag e]))::l
theorem afj(h:af (UJ a e A b c C E F G r d ah f g K L M N q H [.b (d==0) true])):
 aX (aq f35 0) (sy H e a ah f g K L M N q i j) .ret (JQ a A b c C E F G):=
 h.aV [4,5] [4]
theorem Sh(h:af (UJ a b C c d E F G H q e ah f g K L M N r A [.b (e==0) false,.u a])):
 aX (aq f35 0) (sy A b a ah f g K L M N r i j) .normal (sy A b (a+1) C c d E F G H q i j):=
 h.oK [(11000000,900011000,4),(11000003,900011003,8),(11000004,900011004,6),(11000005,900011005,5),(11000006,900011006,3)] [8,1,6,7,4] [10,4]
def JR(a:Int)(A:ae)(c d:Int)(C E F G:ae)(q:Bool)(e b:Int):aD:=bd 34 [(1,aU a),(4,aN 4),(6,aN 10)] [(10,[al 900011000 4 A,ak c,ak d,al 900011003 8 C,al 900011004 6 E,al 900011005 5 F,al 900011006 3 G,.a1 q]),(4,[.v (aL),ak e,ak b,.v (aL),.v (aL),.v (aL),.v (aL)])]
theorem afk(h:af [.b (decide (b<=a)) false]):
 aX (aq f35 0) (sy H a b A c d C E F G q e f) (.exit 0) (JR a A c d C E F G q e f):=
 h.aV [6,1,4] [10,4]
def LD(A:ae)(a b:Int)(C E F G:ae)(q:Bool)(H:ae)(c d:Int)(ah K L M:ae)(l:List O):List O:=.a (.cY [none] (aS.new [D.J 4 A,I a,I b,D.J 8 C,D.J 6 E,D.J 5 F,D.J 3 G,B q]))::.p (bP prog 44 [aJ.ro (.agg (bI H c d ah K L M))] (aS.new [D.J 4 A,I a,I b,D.J 8 C,D.J 6 E,D.J 5 F,D.J 3 G,B q]))::l
theorem afl(h:af (LD M d b C E F G q A a c H ah K L [.r 31 [.agg (bI A a c H ah K L)] [aY 3 N],.r 68 [ag j,ag 0,ag 3000] [ag e],.l [(11000000,900011000,4),(11000003,900011003,8),(11000004,900011004,6),(11000005,900011005,5),(11000006,900011006,3)] [8,1,6,7,4] [10,4] (aq f35 0) (sy N e 1 M d b C E F G q 0 0) .ret (JQ f Q g i R S bu V)])):
 ax 35 [.agg (bI A a c H ah K L),ag j] [.agg (bI Q g i R S bu V),ag f]:=
 h.of
theorem afm(h:af (LD M e c C E F G q A b d H ah K L [.r 31 [.agg (bI A b d H ah K L)] [aY 3 N],.r 68 [ag i,ag 0,ag 3000] [ag a],.l [(11000000,900011000,4),(11000003,900011003,8),(11000004,900011004,6),(11000005,900011005,5),(11000006,900011006,3)] [8,1,6,7,4] [10,4] (aq f35 0) (sy N a 1 M e c C E F G q 0 0) (.exit 0) (JR a Q f g R S bu V r j k)])):
 ax 35 [.agg (bI A b d H ah K L),ag i] [.agg (bI Q f g R S bu V),ag a]:=
 h.of
def UK(a b:Int)(q:Bool)(l:List O):List O:=.a .wr::.r 65 [ag a,ag 0,ag (IntKind.i64.wrap (b-1))] [ar q]::l
theorem Si(h:af (UK b a q [.n q true])):
 ax 159 [.agg (bC A a c),ag b,ag d] [ag (-1)]:=
 h.of
def LF(a b:Int)(q:Bool)(c:Int)(r:Bool)(l:List O):List O:=UK a b q (.n q false::.a .wr::.r 65 [ag c,ag 0,ag (IntKind.i64.wrap (b-1))] [ar r]::l)
theorem Sj(h:af (LF b a q c r [.n r true])):
 ax 159 [.agg (bC A a d),ag b,ag c] [ag (-1)]:=
 h.of
theorem afn(h:af (LF b a q c r [.n r false,.b (decide (a<1)) true])):
 ax 159 [.agg (bC A a d),ag b,ag c] [ag (-1)]:=
 h.of
theorem Sk(h:af (LF b a q c r [.n r false,.b (decide (a<1)) false,.a .wr,.a .wr])):
 ax 159 [.agg (bC A a d),ag b,ag c] [ag (IntKind.i64.wrap (IntKind.i64.wrap (b*a)+c))]:=
 h.of
def wo(A:ae)(a:Int)(C E:ae)(d e:Int)(F G H ah:ae)(q:Bool)(b c:Int):aD:=bd 32 [(1,cQ 3 A),(4,aN 4),(6,aN 10),(7,aE.az (bg.one (al 11 1 C))),(8,aU a)] [(10,[al 900011000 4 E,ak d,ak e,al 900011003 8 F,al 900011004 6 G,al 900011005 5 H,al 900011006 3 ah,.a1 q]),(4,[.v (aL),ak b,ak c,.v (aL),.v (aL),.v (aL),.v (aL)])]
def LG(A:ae)(a b c d:Int)(C:ae)(e f:Int)(E F G H:ae)(q r:Bool)(ah:ae)(g i:Int)(K L M N:ae)(s:Bool)(l:List O):List O:=.i A a [I b,I c,I d]::.a (.cY [some [D.J 4 C,I e,I f,D.J 8 E,D.J 6 F,D.J 5 G,D.J 3 H,B q],none] (aS.vals [ar r]))::.p (bP prog 63 [aJ.ref [D.J 4 ah,I g,I i,D.J 8 K,D.J 6 L,D.J 5 M,D.J 3 N,B s] [D.J 4 C,I e,I f,D.J 8 E,D.J 6 F,D.J 5 G,D.J 3 H,B q],aJ.ro (.agg [I b,I c,I d])] (aS.vals [ar r]))::l
theorem afo(h:af (LG ah a i j k C b c E F G H r q K d e L M N Q s [.g A [[B q]] 1,.h [[B q]],.u a])):
 aX (aq f119 0) (wo ah a A K d e L M N Q s f g) .normal (wo ah (a+1) (A++[[B q]]) C b c E F G H r f g):=
 h.oK [(11000000,900011000,4),(11000003,900011003,8),(11000004,900011004,6),(11000005,900011005,5),(11000006,900011006,3)] [8,1,7,6,4] [10,4]
def JS(A C:ae)(b c:Int)(E F G H:ae)(q:Bool)(d a:Int):aD:=bd 32 [(4,aN 4),(6,aN 10),(7,aE.az (bg.one (al 11 1 A)))] [(10,[al 900011000 4 C,ak b,ak c,al 900011003 8 E,al 900011004 6 F,al 900011005 5 G,al 900011006 3 H,.a1 q]),(4,[.v (aL),ak d,ak a,.v (aL),.v (aL),.v (aL),.v (aL)])]
theorem afp(h:af [.f ah a false]):
 aX (aq f119 0) (wo ah a A C b c E F G H q d e) (.exit 0) (JS A C b c E F G H q d e):=
 h.aV [6,7,4] [10,4]
theorem afq(h:af (LD G b a A C E F q H c f R S bu V [.l [(11000000,900011000,4),(11000003,900011003,8),(11000004,900011004,6),(11000005,900011005,5),(11000006,900011006,3)] [8,1,7,6,4] [10,4] (aq f119 0) (wo X 0 [] G b a A C E F q 0 0) (.exit 0) (JS ah K d e L M N Q r g i)])):
 ax 119 [.agg (bI H c f R S bu V),aY 3 X] [.agg (bI K d e L M N Q),aY 1 ah]:=
 h.of
theorem afr(h:af (pj f C g i j k a A b c d e q [.n q true])):
 ax 160 [.agg (ck f C g i j k),.agg (bw m n o p l)] [.agg (ck a A b c d e),ar false]:=
 h.of
theorem afs(h:af (pj f C i j k l a A b c d e q [.n q false,.r 167 [.agg (bw m n o p g)] [ar r],.n r true])):
 ax 160 [.agg (ck f C i j k l),.agg (bw m n o p g)] [.agg (ck a A b c d e),ar false]:=
 h.of
theorem aft(h:af (pj f C i j k l b A a c d e q [.n q false,.r 167 [.agg (bw m n o p g)] [ar r],.n r false,.b (a==0) true])):
 ax 160 [.agg (ck f C i j k l),.agg (bw m n o p g)] [.agg (ck b A a c d e),ar false]:=
 h.of
theorem afu(h:af (pj f C i j k l c A a d b e q [.n q false,.r 167 [.agg (bw m n o p g)] [ar r],.n r false,.b (a==0) false,.b (decide (b>=1000000000)) true])):
 ax 160 [.agg (ck f C i j k l),.agg (bw m n o p g)] [.agg (ck c A a d b e),ar false]:=
 h.of
theorem afv(h:af (pj l C m n o p i A b j c k q [.n q false,.r 167 [.agg (bw d e f g a)] [ar r],.n r false,.b (b==0) false,.b (decide (c>=1000000000)) false,.g A [(bw d e f g a)] 40,.h [(bw d e f g a)],.v (b-1),.u c])):
 ax 160 [.agg (ck l C m n o p),.agg (bw d e f g a)] [.agg (ck i (A++[(bw d e f g a)]) (b-1) j (c+1) k),ar true]:=
 h.of
theorem afw(h:af (pj f C g i j k c A d e a b q [.n q true])):
 ax 162 [.agg (ck f C g i j k)] [.agg (ck c A d e a b),.agg (bw 0 0 0 0 0),ar false]:=
 h.of
theorem afx(h:af (pj f C g i j k c A d e a b q [.n q false,.b ((A.length:Int)==0) true])):
 ax 162 [.agg (ck f C g i j k)] [.agg (ck c A d e a b),.agg (bw 0 0 0 0 0),ar false]:=
 h.of
theorem aeI(h:af (pj f C m n o p d A e b c a q [.n q false,.b ((A.length:Int)==0) false,.p ((0:Int)<=0),.p (0<(A.length:Int)),.e A 0 (bw g i j k l),.p ((0:Int)<=(some (1:Int)).getD 0),.p ((some (1:Int)).getD 0<=none.getD (A.length:Int)),.p (none.getD (A.length:Int)<=(A.length:Int)),.g ([]:ae) (List.take (A.length-1) (List.drop 1 A)) 40,.h (List.take (A.length-1) (List.drop 1 A)),.u a,.u b])):
 ax 162 [.agg (ck f C m n o p)] [.agg (ck d ([]++List.take (A.length-1) (List.drop 1 A)) e (b+1) c (a+1)),.agg (bw g i j k l),ar true]:=
 h.of
def Ae(A:ae)(a b c d e:Int)(l:List O):List O:=.r 159 [.agg (bC A a b),ag c,ag d] [ag e]::l
theorem aeJ(h:af (Ae A a b c d e [.n q true])):
 b5 114 [aJ.ref [D.J 4 A,I a,I b,D.J 8 C,D.J 6 E,D.J 5 F,D.J 3 G,B q] [D.J 4 A,I a,I b,D.J 8 C,D.J 6 E,D.J 5 F,D.J 3 G,B q],aJ.ro (ag c),aJ.ro (ag d)] (aS.vals [ar false]):=
 h.b6
theorem aeK(h:af (Ae A a b d e c [.n q false,.b (decide (c<0)) true])):
 b5 114 [aJ.ref [D.J 4 A,I a,I b,D.J 8 C,D.J 6 E,D.J 5 F,D.J 3 G,B q] [D.J 4 A,I a,I b,D.J 8 C,D.J 6 E,D.J 5 F,D.J 3 G,B q],aJ.ro (ag d),aJ.ro (ag e)] (aS.vals [ar false]):=
 h.b6
def Af(A:ae)(a b c d e:Int)(q:Bool)(l:List O):List O:=Ae A a b c d e (.n q false::.b (decide (e<0)) false::l)
theorem aeL(h:af (Af A a b c d e q [.b (c==d) true])):
 b5 114 [aJ.ref [D.J 4 A,I a,I b,D.J 8 C,D.J 6 E,D.J 5 F,D.J 3 G,B q] [D.J 4 A,I a,I b,D.J 8 C,D.J 6 E,D.J 5 F,D.J 3 G,B q],aJ.ro (ag c),aJ.ro (ag d)] (aS.vals [ar false]):=
 h.b6
theorem aeM(h:af (Af C b i j k a q [.b (j==k) false,.a .sub,.x A a (ck c E d e f g),.r 163 [.agg (ck c E d e f g)] [.agg (ck l F m n o p),ar r],.x A a (ck c E d e f g)])):
 b5 114 [aJ.ref [D.J 4 C,I b,I i,D.J 8 G,D.J 6 A,D.J 5 H,D.J 3 ah,B q] [D.J 4 C,I b,I i,D.J 8 G,D.J 6 (A.set a.toNat (ck l F m n o p)),D.J 5 H,D.J 3 ah,B q],aJ.ro (ag j),aJ.ro (ag k)] (aS.vals [ar r]):=
 h.b6
def D0(A:ae)(a b:Int)(C E F G:ae)(q r:Bool)(H:ae)(c d:Int)(ah K L M:ae)(s:Bool)(e:Int)(l:List O):List O:=.a (.cY [some [D.J 4 A,I a,I b,D.J 8 C,D.J 6 E,D.J 5 F,D.J 3 G,B q],none] (aS.vals [ar r]))::.p (bP prog 155 [aJ.ref [D.J 4 H,I c,I d,D.J 8 ah,D.J 6 K,D.J 5 L,D.J 3 M,B s] [D.J 4 A,I a,I b,D.J 8 C,D.J 6 E,D.J 5 F,D.J 3 G,B q],aJ.ro (ag e)] (aS.vals [ar r]))::l
theorem Sl(h:af (D0 G a b A C E F q r H c d ah K L M s e [.n r true])):
 b5 111 [aJ.ref [D.J 4 H,I c,I d,D.J 8 ah,D.J 6 K,D.J 5 L,D.J 3 M,B s] [D.J 4 G,I a,I b,D.J 8 A,D.J 6 C,D.J 5 E,D.J 3 F,B q],aJ.ro (ag e)] (aS.vals [ar false]):=
 h.b6
def Ag(A:ae)(a b:Int)(C E F G:ae)(q r:Bool)(H:ae)(c d:Int)(ah K L M:ae)(s:Bool)(e:Int)(N P Q R S bu V X:ae)(l:List O):List O:=D0 A a b C E F G q r H c d ah K L M s e (.n r false::.a .sub::.x C e (bf N P Q R S bu V X)::l)
theorem aeN(h:af (Ag G a b A C E F q r H d e K L M N s c Q ah R S bu V X Y [.b (decide ((ah.length:Int)>0)) true])):
 b5 111 [aJ.ref [D.J 4 H,I d,I e,D.J 8 K,D.J 6 L,D.J 5 M,D.J 3 N,B s] [D.J 4 G,I a,I b,D.J 8 A,D.J 6 C,D.J 5 E,D.J 3 F,B q],aJ.ro (ag c)] (aS.vals [ar false]):=
 h.b6
def Ah(A:ae)(a b:Int)(C E F G:ae)(q r:Bool)(H:ae)(c d:Int)(ah K L M:ae)(s:Bool)(e:Int)(N P Q R S bu V X:ae)(l:List O):List O:=Ag A a b C E F G q r H c d ah K L M s e N P Q R S bu V X (.b (decide ((P.length:Int)>0)) false::l)
theorem aeO(h:af (Ah G a b A C E F q r H d e L M N Q s c ah K R S bu V X Y [.b (decide ((ah.length:Int)>0)) true])):
 b5 111 [aJ.ref [D.J 4 H,I d,I e,D.J 8 L,D.J 6 M,D.J 5 N,D.J 3 Q,B s] [D.J 4 G,I a,I b,D.J 8 A,D.J 6 C,D.J 5 E,D.J 3 F,B q],aJ.ro (ag c)] (aS.vals [ar false]):=
 h.b6
theorem aeP(h:af (Ah G a b A C E F q r H d e M N Q R s c ah K L S bu V X Y [.b (decide ((ah.length:Int)>0)) false,.b ((L.length:Int)==0) true])):
 b5 111 [aJ.ref [D.J 4 H,I d,I e,D.J 8 M,D.J 6 N,D.J 5 Q,D.J 3 R,B s] [D.J 4 G,I a,I b,D.J 8 A,D.J 6 C,D.J 5 E,D.J 3 F,B q],aJ.ro (ag c)] (aS.vals [ar false]):=
 h.b6
theorem aeQ(h:af (Ah R b c C F G H q r S d e bu V X Y s a ah E A K L M N Q [.b (decide ((ah.length:Int)>0)) false,.b ((A.length:Int)==0) false,.p ((0:Int)<=0),.p (0<(A.length:Int)),.e A 0 (bw f g i j k),.p ((0:Int)<=(some (1:Int)).getD 0),.p ((some (1:Int)).getD 0<=none.getD (A.length:Int)),.p (none.getD (A.length:Int)<=(A.length:Int)),.g ([]:ae) (List.take (A.length-1) (List.drop 1 A)) 40,.h (List.take (A.length-1) (List.drop 1 A)),.x C a (bf ah E A K L M N Q),.p (a.toNat=a.toNat),.p (a.toNat=a.toNat),.p (a.toNat=a.toNat),.p (a.toNat=a.toNat),.p (a.toNat=a.toNat),.p (a.toNat=a.toNat)])):
 b5 111 [aJ.ref [D.J 4 S,I d,I e,D.J 8 bu,D.J 6 V,D.J 5 X,D.J 3 Y,B s] [D.J 4 R,I b,I c,D.J 8 (C.set a.toNat [D.J 5 [(bw f g i j k)],D.J 5 E,D.J 5 ([]++List.take (A.length-1) (List.drop 1 A)),D.J 4 K,D.J 1 L,D.J 1 M,D.J 1 N,D.J 2 Q]),D.J 6 F,D.J 5 G,D.J 3 H,B q],aJ.ro (ag a)] (aS.vals [ar true]):=
 h.b6
theorem Sm(h:af [.b q true,.v ((A.length:Int)-1),.r 65 [ag c,ag 0,ag ((A.length:Int)-1)] [ar r]]):
 b5 155 [aJ.ref [D.J 4 C,I a,I b,D.J 8 A,D.J 6 E,D.J 5 F,D.J 3 G,B q] [D.J 4 C,I a,I b,D.J 8 A,D.J 6 E,D.J 5 F,D.J 3 G,B q],aJ.ro (ag c)] (aS.vals [ar r]):=
 h.b6
theorem aeR(h:af [.b q false]):
 b5 155 [aJ.ref [D.J 4 A,I a,I b,D.J 8 C,D.J 6 E,D.J 5 F,D.J 3 G,B q] [D.J 4 A,I a,I b,D.J 8 C,D.J 6 E,D.J 5 F,D.J 3 G,B q],aJ.ro (ag c)] (aS.vals [ar false]):=
 h.b6
theorem Sn(h:af (D0 G a b A C E F q r H c d ah K L M s e [.n r true])):
 b5 112 [aJ.ref [D.J 4 H,I c,I d,D.J 8 ah,D.J 6 K,D.J 5 L,D.J 3 M,B s] [D.J 4 G,I a,I b,D.J 8 A,D.J 6 C,D.J 5 E,D.J 3 F,B q],aJ.ro (ag e)] (aS.vals [ar false]):=
 h.b6
theorem aeS(h:af (Ag G a b A C E F q r H d e K L M N s c Q ah R S bu V X Y [.b ((ah.length:Int)==0) true])):
 b5 112 [aJ.ref [D.J 4 H,I d,I e,D.J 8 K,D.J 6 L,D.J 5 M,D.J 3 N,B s] [D.J 4 G,I a,I b,D.J 8 A,D.J 6 C,D.J 5 E,D.J 3 F,B q],aJ.ro (ag c)] (aS.vals [ar false]):=
 h.b6
def LH(A:ae)(a b:Int)(C E F G:ae)(q r:Bool)(H:ae)(c d:Int)(ah K L M:ae)(s:Bool)(e:Int)(N P Q R S bu V X:ae)(f g i j k m:Int)(l:List O):List O:=Ag A a b C E F G q r H c d ah K L M s e N P Q R S bu V X (.b ((P.length:Int)==0) false::.a .sub::.x C e (bf N P Q R S bu V X)::.p ((0:Int)<=0)::.p (0<(P.length:Int))::.e P 0 (bw f g i j k)::.r 158 [ag j,ag a] [ag m]::l)
theorem aeT(h:af (LH F b c A E G H q r ah f g bu X Y Z t a K C L M N Q R S i j k d l e [.b (e != a) true,.r 159 [.agg (bC F b c),ag a,ag e] [ag m],.a .sub,.x E m (ck n V o p a0 cj),.r 160 [.agg (ck n V o p a0 cj),.agg (bw i j k d l)] [.agg (ck df ew d0 bD f0 g0),ar s],.n s true])):
 b5 112 [aJ.ref [D.J 4 ah,I f,I g,D.J 8 bu,D.J 6 X,D.J 5 Y,D.J 3 Z,B t] [D.J 4 F,I b,I c,D.J 8 A,D.J 6 E,D.J 5 G,D.J 3 H,B q],aJ.ro (ag a)] (aS.vals [ar false]):=
 h.b6
theorem aeU(h:af (LH H b c C E ah K q r iW p a0 rX rY vm tq u a iX F jL jM jN k0 mZ qp cj e df f d0 g [.b (g != a) true,.r 159 [.agg (bC H b c),ag a,ag g] [ag d],.a .sub,.x E d (ck i L j k l m),.r 160 [.agg (ck i L j k l m),.agg (bw cj e df f d0)] [.agg (ck bD rZ f0 g0 i0 j0),ar t],.n t false,.x E d (ck i L j k l m),.a (.cY [some [D.J 4 M,I n,I o,D.J 8 G,D.J 6 N,D.J 5 Q,D.J 3 R,B s],none,none,none] (aS.vals [])),.a .sub,.p (bP prog 161 [aJ.ref [D.J 4 H,I b,I c,D.J 8 C,D.J 6 (E.set d.toNat (ck bD rZ f0 g0 i0 j0)),D.J 5 ah,D.J 3 K,B q] [D.J 4 M,I n,I o,D.J 8 G,D.J 6 N,D.J 5 Q,D.J 3 R,B s],aJ.ro (ag a),aJ.ro (ag e),aJ.ro (ag 1)] (aS.vals [])),.x G a (bf S A bu V X Y Z ew),.p ((0:Int)<=(some (1:Int)).getD 0),.p ((some (1:Int)).getD 0<=none.getD (A.length:Int)),.p (none.getD (A.length:Int)<=(A.length:Int)),.g ([]:ae) (List.take (A.length-1) (List.drop 1 A)) 40,.h (List.take (A.length-1) (List.drop 1 A)),.x G a (bf S A bu V X Y Z ew)])):
 b5 112 [aJ.ref [D.J 4 iW,I p,I a0,D.J 8 rX,D.J 6 rY,D.J 5 vm,D.J 3 tq,B u] [D.J 4 M,I n,I o,D.J 8 (G.set a.toNat (bf S ([]++List.take (A.length-1) (List.drop 1 A)) bu V X Y Z ew)),D.J 6 N,D.J 5 Q,D.J 3 R,B s],aJ.ro (ag a)] (aS.vals [ar true]):=
 h.b6
theorem aeV(h:af (LH iW g i A N Q R q r iX j k jL jM jN k0 s a C E F G H ah K L c d e b f l [.b (l != a) false,.a .sub,.x A a (bf C E F G H ah K L),.g C [(bw c d e b f)] 40,.e A a.toNat (bf C E F G H ah K L),.p ((bf C E F G H ah K L)[0]?=some (D.J 5 C)),.h [(bw c d e b f)],.p (A=A),.p (A=A),.p (A=A),.p (A=A),.p (A=A),.p (A=A),.p (A=A),.p (A=A),.p (A=A),.p (A=A),.p (A=A),.p (a.toNat=a.toNat),.p (C=C),.x A a (bf C E F G H ah K L),.a .sub,.p (a.toNat=a.toNat),.p (0<=a),.p (a<(↑(A.set a.toNat (bf (C++[(bw c d e b f)]) E F G H ah K L)).length:Int)),.e (A.set a.toNat (bf (C++[(bw c d e b f)]) E F G H ah K L)) a.toNat (bf S M bu V X Y Z ew),.p ((0:Int)<=(some (1:Int)).getD 0),.p ((some (1:Int)).getD 0<=none.getD (M.length:Int)),.p (none.getD (M.length:Int)<=(M.length:Int)),.g ([]:ae) (List.take (M.length-1) (List.drop 1 M)) 40,.h (List.take (M.length-1) (List.drop 1 M)),.p (0<=a),.p (a<(↑(A.set a.toNat (bf (C++[(bw c d e b f)]) E F G H ah K L)).length:Int)),.e (A.set a.toNat (bf (C++[(bw c d e b f)]) E F G H ah K L)) a.toNat (bf S M bu V X Y Z ew)])):
 b5 112 [aJ.ref [D.J 4 iX,I j,I k,D.J 8 jL,D.J 6 jM,D.J 5 jN,D.J 3 k0,B s] [D.J 4 iW,I g,I i,D.J 8 ((A.set a.toNat (bf (C++[(bw c d e b f)]) E F G H ah K L)).set a.toNat (bf S ([]++List.take (M.length-1) (List.drop 1 M)) bu V X Y Z ew)),D.J 6 N,D.J 5 Q,D.J 3 R,B q],aJ.ro (ag a)] (aS.vals [ar true]):=
 h.b6
theorem aeW(h:af [.a .sub,.x L a (bf C E F G A H ah K),.a .sub,.x L a (bf C E F G A H ah K),.x A b [I d],.v (d+c),.x A b [I i],.e L a.toNat (bf C E F G A H ah K),.p (a.toNat=a.toNat),.p (a.toNat=a.toNat),.p (a.toNat=a.toNat),.p (a.toNat=a.toNat),.b r true,.a .sub,.p (0<=a),.p (a<(↑(L.set a.toNat (bf C E F G (A.set b.toNat [I (d+c)]) H ah K)).length:Int)),.e (L.set a.toNat (bf C E F G (A.set b.toNat [I (d+c)]) H ah K)) a.toNat (bf C E F G (A.set b.toNat [I (d+c)]) H ah K),.x (A.set b.toNat [I (d+c)]) b [I g],.r 65 [ag g,ag (-1000000),ag 1000000] [ar q]]):
 b5 161 [aJ.ref [D.J 4 M,I e,I f,D.J 8 L,D.J 6 N,D.J 5 Q,D.J 3 R,B r] [D.J 4 M,I e,I f,D.J 8 (L.set a.toNat (bf C E F G (A.set b.toNat [I (d+c)]) H ah K)),D.J 6 N,D.J 5 Q,D.J 3 R,B q],aJ.ro (ag a),aJ.ro (ag b),aJ.ro (ag c)] (aS.vals []):=
 h.b6
theorem aeX(h:af (Ae A a b c d e [.n q true])):
 b5 113 [aJ.ref [D.J 4 A,I a,I b,D.J 8 C,D.J 6 E,D.J 5 F,D.J 3 G,B q] [D.J 4 A,I a,I b,D.J 8 C,D.J 6 E,D.J 5 F,D.J 3 G,B q],aJ.ro (ag c),aJ.ro (ag d)] (aS.vals [ar false]):=
 h.b6
theorem aeY(h:af (Ae A a b d e c [.n q false,.b (decide (c<0)) true])):
 b5 113 [aJ.ref [D.J 4 A,I a,I b,D.J 8 C,D.J 6 E,D.J 5 F,D.J 3 G,B q] [D.J 4 A,I a,I b,D.J 8 C,D.J 6 E,D.J 5 F,D.J 3 G,B q],aJ.ro (ag d),aJ.ro (ag e)] (aS.vals [ar false]):=
 h.b6
theorem aeZ(h:af (Af A a b c d e q [.b (c==d) true])):
 b5 113 [aJ.ref [D.J 4 A,I a,I b,D.J 8 C,D.J 6 E,D.J 5 F,D.J 3 G,B q] [D.J 4 A,I a,I b,D.J 8 C,D.J 6 E,D.J 5 F,D.J 3 G,B q],aJ.ro (ag c),aJ.ro (ag d)] (aS.vals [ar false]):=
 h.b6
theorem ae0(h:af (Af A a c d e b q [.b (d==e) false,.a .sub,.x C b (ck f E g i j k),.r 162 [.agg (ck f E g i j k)] [.agg (ck l ah m n o p),.agg (bw a0 cj df d0 bD),ar r],.n r true])):
 b5 113 [aJ.ref [D.J 4 A,I a,I c,D.J 8 F,D.J 6 C,D.J 5 G,D.J 3 H,B q] [D.J 4 A,I a,I c,D.J 8 F,D.J 6 C,D.J 5 G,D.J 3 H,B q],aJ.ro (ag d),aJ.ro (ag e)] (aS.vals [ar false]):=
 h.b6
theorem ae1(h:af (Af Q i o cj a g r [.b (cj==a) false,.a .sub,.x M g (ck j R k l m n),.r 162 [.agg (ck j R k l m n)] [.agg (ck df k0 d0 bD f0 g0),.agg (bw c b d e f),ar s],.n s false,.x M g (ck j R k l m n),.a .sub,.x A a (bf C E F G H ah K L),.g C [(bw c b d e f)] 40,.e A a.toNat (bf C E F G H ah K L),.p ((bf C E F G H ah K L)[0]?=some (D.J 5 C)),.h [(bw c b d e f)],.p (A=A),.p (A=A),.p (A=A),.p (A=A),.p (A=A),.p (a.toNat=a.toNat),.p (C=C),.x A a (bf C E F G H ah K L),.a .sub,.p (a.toNat=a.toNat),.p (0<=a),.p (a<(↑(A.set a.toNat (bf (C++[(bw c b d e f)]) E F G H ah K L)).length:Int)),.e (A.set a.toNat (bf (C++[(bw c b d e f)]) E F G H ah K L)) a.toNat (bf S bu V X Y N Z ew),.x N b [B t],.e (A.set a.toNat (bf (C++[(bw c b d e f)]) E F G H ah K L)) a.toNat (bf S bu V X Y N Z ew),.a (.cY [some [D.J 4 iW,I p,I a0,D.J 8 iX,D.J 6 jL,D.J 5 jM,D.J 3 jN,B q],none,none,none] (aS.vals [])),.p (a.toNat=a.toNat),.p (a.toNat=a.toNat),.p (bP prog 161 [aJ.ref [D.J 4 Q,I i,I o,D.J 8 ((A.set a.toNat (bf (C++[(bw c b d e f)]) E F G H ah K L)).set a.toNat (bf S bu V X Y (N.set b.toNat [B true]) Z ew)),D.J 6 (M.set g.toNat (ck df k0 d0 bD f0 g0)),D.J 5 mZ,D.J 3 qp,B r] [D.J 4 iW,I p,I a0,D.J 8 iX,D.J 6 jL,D.J 5 jM,D.J 3 jN,B q],aJ.ro (ag a),aJ.ro (ag b),aJ.ro (ag (-1))] (aS.vals []))])):
 b5 113 [aJ.ref [D.J 4 Q,I i,I o,D.J 8 A,D.J 6 M,D.J 5 mZ,D.J 3 qp,B r] [D.J 4 iW,I p,I a0,D.J 8 iX,D.J 6 jL,D.J 5 jM,D.J 3 jN,B q],aJ.ro (ag cj),aJ.ro (ag a)] (aS.vals [ar true]):=
 h.b6
theorem Sp(h:af (D0 G a b A C E F q r H c d ah K L M s e [.n r true])):
 b5 110 [aJ.ref [D.J 4 H,I c,I d,D.J 8 ah,D.J 6 K,D.J 5 L,D.J 3 M,B s] [D.J 4 G,I a,I b,D.J 8 A,D.J 6 C,D.J 5 E,D.J 3 F,B q],aJ.ro (ag e)] (aS.vals [ar false]):=
 h.b6
theorem ae2(h:af (Ag G a b A C E F q r H d e K L M N s c Q ah R S bu V X Y [.b (decide ((ah.length:Int)>0)) true])):
 b5 110 [aJ.ref [D.J 4 H,I d,I e,D.J 8 K,D.J 6 L,D.J 5 M,D.J 3 N,B s] [D.J 4 G,I a,I b,D.J 8 A,D.J 6 C,D.J 5 E,D.J 3 F,B q],aJ.ro (ag c)] (aS.vals [ar false]):=
 h.b6
theorem ae3(h:af (Ah G a b A C E F q r H d e L M N Q s c ah K R S bu V X Y [.b ((ah.length:Int)==0) true])):
 b5 110 [aJ.ref [D.J 4 H,I d,I e,D.J 8 L,D.J 6 M,D.J 5 N,D.J 3 Q,B s] [D.J 4 G,I a,I b,D.J 8 A,D.J 6 C,D.J 5 E,D.J 3 F,B q],aJ.ro (ag c)] (aS.vals [ar false]):=
 h.b6
def UL(A:ae)(a b:Int)(C E F G:ae)(q r:Bool)(H:ae)(c d:Int)(ah K L M:ae)(s:Bool)(e:Int)(N P Q R S bu V X:ae)(f g i j k:Int)(Y Z:ae)(t u:Bool)(l:List O):List O:=Ah A a b C E F G q r H c d ah K L M s e N P Q R S bu V X (.b ((N.length:Int)==0) false::.p ((0:Int)<=0)::.p (0<(N.length:Int))::.e N 0 (bw f g i j k)::.r 156 [.agg (bC A a b),aY 4 R,.agg (bw f g i j k)] [aY 4 Y,aY 5 Z,ar t]::.p ((0:Int)<=(some (1:Int)).getD 0)::.p ((some (1:Int)).getD 0<=none.getD (N.length:Int))::.p (none.getD (N.length:Int)<=(N.length:Int))::.g ([]:ae) (List.take (N.length-1) (List.drop 1 N)) 40::.h (List.take (N.length-1) (List.drop 1 N))::.r 157 [.agg (bC A a b),.agg (bw f g i j k)] [ar u]::l)
theorem ae4(h:af (UL M c d E N Q R q r S j k bu Y Z ew t a A F G H ah K C L e b f g i V X u s [.b s true,.x C b [B v],.e E a.toNat (bf A F G H ah K C L),.p (a.toNat=a.toNat),.p (a.toNat=a.toNat),.p (a.toNat=a.toNat),.p (a.toNat=a.toNat),.x (E.set a.toNat (bf A F G H ah K (C.set b.toNat [B true]) L)) a (bf A F G H ah K (C.set b.toNat [B true]) L),.p (a.toNat=a.toNat),.p (a.toNat=a.toNat),.p (a.toNat=a.toNat),.p (a.toNat=a.toNat),.p (a.toNat=a.toNat)])):
 b5 110 [aJ.ref [D.J 4 S,I j,I k,D.J 8 bu,D.J 6 Y,D.J 5 Z,D.J 3 ew,B t] [D.J 4 M,I c,I d,D.J 8 ((E.set a.toNat (bf A F G H ah K (C.set b.toNat [B true]) L)).set a.toNat (bf ([]++List.take (A.length-1) (List.drop 1 A)) X G V ah K (C.set b.toNat [B true]) L)),D.J 6 N,D.J 5 Q,D.J 3 R,B q],aJ.ro (ag a)] (aS.vals [ar true]):=
 h.b6
theorem ae5(h:af (UL E b c C F G H q r S j k bu Y Z ew t a A ah K L M N Q R d e f g i V X u s [.b s false,.x C a (bf A ah K L M N Q R),.p (a.toNat=a.toNat),.p (a.toNat=a.toNat),.p (a.toNat=a.toNat),.p (a.toNat=a.toNat),.p (a.toNat=a.toNat)])):
 b5 110 [aJ.ref [D.J 4 S,I j,I k,D.J 8 bu,D.J 6 Y,D.J 5 Z,D.J 3 ew,B t] [D.J 4 E,I b,I c,D.J 8 (C.set a.toNat (bf ([]++List.take (A.length-1) (List.drop 1 A)) X K V M N Q R)),D.J 6 F,D.J 5 G,D.J 3 H,B q],aJ.ro (ag a)] (aS.vals [ar true]):=
 h.b6
theorem ae6(h:af [.b (e==1) true,.a (.cY [some [D.J 4 A,I a,I b,D.J 8 C,D.J 6 E,D.J 5 F,D.J 3 G,B q],none] (aS.vals [ar r])),.p (bP prog 110 [aJ.ref [D.J 4 H,I c,I d,D.J 8 ah,D.J 6 K,D.J 5 L,D.J 3 M,B s] [D.J 4 A,I a,I b,D.J 8 C,D.J 6 E,D.J 5 F,D.J 3 G,B q],aJ.ro (ag f)] (aS.vals [ar r]))]):
 b5 63 [aJ.ref [D.J 4 H,I c,I d,D.J 8 ah,D.J 6 K,D.J 5 L,D.J 3 M,B s] [D.J 4 A,I a,I b,D.J 8 C,D.J 6 E,D.J 5 F,D.J 3 G,B q],aJ.ro (.agg [I e,I f,I g])] (aS.vals [ar r]):=
 h.b6
theorem ae7(h:af [.b (c==1) false,.b (c==2) true,.a (.cY [some [D.J 4 A,I a,I b,D.J 8 C,D.J 6 E,D.J 5 F,D.J 3 G,B q],none] (aS.vals [ar r])),.p (bP prog 111 [aJ.ref [D.J 4 H,I d,I e,D.J 8 ah,D.J 6 K,D.J 5 L,D.J 3 M,B s] [D.J 4 A,I a,I b,D.J 8 C,D.J 6 E,D.J 5 F,D.J 3 G,B q],aJ.ro (ag f)] (aS.vals [ar r]))]):
 b5 63 [aJ.ref [D.J 4 H,I d,I e,D.J 8 ah,D.J 6 K,D.J 5 L,D.J 3 M,B s] [D.J 4 A,I a,I b,D.J 8 C,D.J 6 E,D.J 5 F,D.J 3 G,B q],aJ.ro (.agg [I c,I f,I g])] (aS.vals [ar r]):=
 h.b6
def UM(a:Int)(l:List O):List O:=.b (a==1) false::.b (a==2) false::l
theorem aey(h:af (UM a [.b (a==3) true,.a (.cY [some [D.J 4 A,I b,I c,D.J 8 C,D.J 6 E,D.J 5 F,D.J 3 G,B q],none] (aS.vals [ar r])),.p (bP prog 112 [aJ.ref [D.J 4 H,I d,I e,D.J 8 ah,D.J 6 K,D.J 5 L,D.J 3 M,B s] [D.J 4 A,I b,I c,D.J 8 C,D.J 6 E,D.J 5 F,D.J 3 G,B q],aJ.ro (ag f)] (aS.vals [ar r]))])):
 b5 63 [aJ.ref [D.J 4 H,I d,I e,D.J 8 ah,D.J 6 K,D.J 5 L,D.J 3 M,B s] [D.J 4 A,I b,I c,D.J 8 C,D.J 6 E,D.J 5 F,D.J 3 G,B q],aJ.ro (.agg [I a,I f,I g])] (aS.vals [ar r]):=
 h.b6
def Ly(a:Int)(l:List O):List O:=UM a (.b (a==3) false::l)
theorem aez(h:af (Ly a [.b (a==4) true,.a (.cY [some [D.J 4 A,I b,I c,D.J 8 C,D.J 6 E,D.J 5 F,D.J 3 G,B q],none,none] (aS.vals [ar r])),.p (bP prog 113 [aJ.ref [D.J 4 H,I d,I f,D.J 8 ah,D.J 6 K,D.J 5 L,D.J 3 M,B s] [D.J 4 A,I b,I c,D.J 8 C,D.J 6 E,D.J 5 F,D.J 3 G,B q],aJ.ro (ag g),aJ.ro (ag e)] (aS.vals [ar r]))])):
 b5 63 [aJ.ref [D.J 4 H,I d,I f,D.J 8 ah,D.J 6 K,D.J 5 L,D.J 3 M,B s] [D.J 4 A,I b,I c,D.J 8 C,D.J 6 E,D.J 5 F,D.J 3 G,B q],aJ.ro (.agg [I a,I g,I e])] (aS.vals [ar r]):=
 h.b6
theorem aeA(h:af (Ly a [.b (a==4) false,.b (a==5) true,.a (.cY [some [D.J 4 A,I b,I c,D.J 8 C,D.J 6 E,D.J 5 F,D.J 3 G,B q],none,none] (aS.vals [ar r])),.p (bP prog 114 [aJ.ref [D.J 4 H,I d,I f,D.J 8 ah,D.J 6 K,D.J 5 L,D.J 3 M,B s] [D.J 4 A,I b,I c,D.J 8 C,D.J 6 E,D.J 5 F,D.J 3 G,B q],aJ.ro (ag g),aJ.ro (ag e)] (aS.vals [ar r]))])):
 b5 63 [aJ.ref [D.J 4 H,I d,I f,D.J 8 ah,D.J 6 K,D.J 5 L,D.J 3 M,B s] [D.J 4 A,I b,I c,D.J 8 C,D.J 6 E,D.J 5 F,D.J 3 G,B q],aJ.ro (.agg [I a,I g,I e])] (aS.vals [ar r]):=
 h.b6
def LA(a:Int)(l:List O):List O:=Ly a (.b (a==4) false::.b (a==5) false::l)
theorem aeB(h:af (LA a [.b (a==6) true,.a (.cY [some [D.J 4 A,I b,I c,D.J 8 C,D.J 6 E,D.J 5 F,D.J 3 G,B q],none] (aS.vals [ar r])),.p (bP prog 115 [aJ.ref [D.J 4 H,I d,I e,D.J 8 ah,D.J 6 K,D.J 5 L,D.J 3 M,B s] [D.J 4 A,I b,I c,D.J 8 C,D.J 6 E,D.J 5 F,D.J 3 G,B q],aJ.ro (ag f)] (aS.vals [ar r]))])):
 b5 63 [aJ.ref [D.J 4 H,I d,I e,D.J 8 ah,D.J 6 K,D.J 5 L,D.J 3 M,B s] [D.J 4 A,I b,I c,D.J 8 C,D.J 6 E,D.J 5 F,D.J 3 G,B q],aJ.ro (.agg [I a,I f,I g])] (aS.vals [ar r]):=
 h.b6
theorem aeC(h:af (LA a [.b (a==6) false,.b (a==7) true,.a (.cY [some [D.J 4 A,I b,I c,D.J 8 C,D.J 6 E,D.J 5 F,D.J 3 G,B q],none] (aS.vals [ar r])),.p (bP prog 45 [aJ.ref [D.J 4 H,I d,I e,D.J 8 ah,D.J 6 K,D.J 5 L,D.J 3 M,B s] [D.J 4 A,I b,I c,D.J 8 C,D.J 6 E,D.J 5 F,D.J 3 G,B q],aJ.ro (ag f)] (aS.vals [ar r]))])):
 b5 63 [aJ.ref [D.J 4 H,I d,I e,D.J 8 ah,D.J 6 K,D.J 5 L,D.J 3 M,B s] [D.J 4 A,I b,I c,D.J 8 C,D.J 6 E,D.J 5 F,D.J 3 G,B q],aJ.ro (.agg [I a,I f,I g])] (aS.vals [ar r]):=
 h.b6
theorem aeD(h:af (LA a [.b (a==6) false,.b (a==7) false])):
 b5 63 [aJ.ref [D.J 4 A,I b,I c,D.J 8 C,D.J 6 E,D.J 5 F,D.J 3 G,B q] [D.J 4 A,I b,I c,D.J 8 C,D.J 6 E,D.J 5 F,D.J 3 G,B q],aJ.ro (.agg [I a,I e,I d])] (aS.vals [ar false]):=
 h.b6
def uz(A:ae)(a b:Int)(C:ae)(c d:Int)(E F G H:ae)(q:Bool):aD:=bd 22 [(0,aN 1000000000),(1,.az (.one (.c9 1000000200 3 A))),(5,aU b),(6,aU a)] [(1000000000,[al 950001000 4 C,ak c,ak d,al 950001003 8 E,al 950001004 6 F,al 950001005 5 G,al 950001006 3 H,.a1 q])]
theorem aeE(h:af (LG H a g i j A c d C E F G q r ah e f K L M N s [.b r true,.u b,.u a])):
 aX (aq f73 0) (uz H a b ah e f K L M N s) .normal (uz H (a+1) (b+1) A c d C E F G q):=
 h.oK [(1000000001000000,950001000,4),(1000000001000003,950001003,8),(1000000001000004,950001004,6),(1000000001000005,950001005,5),(1000000001000006,950001006,3)] [6,1,0,5] [1000000000]
theorem aeF(h:af (LG H a g i j A b c C E F G q r ah e f K L M N s [.b r false,.u a])):
 aX (aq f73 0) (uz H a d ah e f K L M N s) .normal (uz H (a+1) d A b c C E F G q):=
 h.oK [(1000000001000000,950001000,4),(1000000001000003,950001003,8),(1000000001000004,950001004,6),(1000000001000005,950001005,5),(1000000001000006,950001006,3)] [6,1,0,5] [1000000000]
def Sq(a:Int)(A:ae)(b c:Int)(C E F G:ae)(q:Bool):aD:=bd 22 [(0,aN 1000000000),(5,aU a)] [(1000000000,[al 950001000 4 A,ak b,ak c,al 950001003 8 C,al 950001004 6 E,al 950001005 5 F,al 950001006 3 G,.a1 q])]
theorem aeG(h:af [.f H d false]):
 aX (aq f73 0) (uz H d a A b c C E F G q) (.exit 0) (Sq a A b c C E F G q):=
 h.aV [5,0] [1000000000]
theorem aeH(h:af [.l [(1000000001000000,950001000,4),(1000000001000003,950001003,8),(1000000001000004,950001004,6),(1000000001000005,950001005,5),(1000000001000006,950001006,3)] [6,1,0,5] [1000000000] (aq f73 0) (uz N 0 0 A a d ah K L M r) (.exit 0) (Sq e C b c E F G H q)]):
 b5 73 [aJ.ref [D.J 4 A,I a,I d,D.J 8 ah,D.J 6 K,D.J 5 L,D.J 3 M,B r] [D.J 4 C,I b,I c,D.J 8 E,D.J 6 F,D.J 5 G,D.J 3 H,B q],aJ.ro (aY 3 N)] (aS.vals [ag e]):=
 h.b6
