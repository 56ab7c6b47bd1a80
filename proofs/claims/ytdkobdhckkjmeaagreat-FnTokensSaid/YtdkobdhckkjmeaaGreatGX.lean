import Derived.Test.YtdkobdhckkjmeaaGreatRows
import Derived.Test.YtdkobdhckkjmeaaGreatGE
set_option linter.unusedVariables false
set_option linter.unusedSimpArgs false
namespace Go.Proofs.YtdkobdhckkjmeaaGreat
open Go.Sx Go.RowKit Go.Proofs.Tryz
variable {a b c d e f g i j k l m n o p a0 b0 c0 d0 e0 f0 g0 i0 j0 : Int} {A C E F G H J K L M N P Q R S U V W X Y Z A0 C0 E0 F0 G0 H0 J0 K0 L0 M0 N0 P0 : LL} {q r s t u v : Bool}
def y3y(a:Int)(A:LL)(b c d e f:Int)(C:LL)(g i j k:Int)(q:Bool)(l:List O):List O:=.r 277 [.agg (lk a A b c d e)] [.agg (lk f C g i j k)]::.r 176 [.agg (lk f C g i j k)] [cB q]::l
theorem qNs(h:Oo (y3y f C g i j k c A d e a b q [.n q true])):
 Rt 290 [.agg (lk f C g i j k)] [.agg (lk c A d e a b),cB false]:=
 h.of
theorem qNt(h:Oo (y3y f C g i j k d A e a b c q [.n q false,.b (a==0) true])):
 Rt 290 [.agg (lk f C g i j k)] [.agg (lk d A e a b c),cB false]:=
 h.of
theorem qNu(h:Oo (y3y f C g i j k e A b a c d q [.n q false,.b (a==0) false,.v (a-1),.u b])):
 Rt 290 [.agg (lk f C g i j k)] [.agg (lk e A (b+1) (a-1) c d),cB true]:=
 h.of
def qeB(A:LL)(a d:Int)(C:LL)(e f:Int)(E F G H:LL)(q:Bool)(b c:Int):St:=
 { env:=envOf 34 [(1,vI a),(4,vP 4),(6,vP 10),(7,PV.al (AL.one (lO 130000 3 A))),(8,vI d)],boxes:=[(10,[lO 900011000 4 C,lI e,lI f,lO 900011003 8 E,lO 900011004 6 F,lO 900011005 5 G,lO 900011006 3 H,.sb q]),(4,[.v (sn),lI b,lI c,.v (sn),.v (sn),.v (sn),.v (sn)])] }
def qny(a:Int)(A:LL)(b c:Int)(C E F G:LL):St:=
 { env:=envOf 34 [(4,vP 4),(5,vI a)],boxes:=[(4,[lO 235000 4 A,lI b,lI c,lO 235003 8 C,lO 235004 6 E,lO 235005 5 F,lO 235006 3 G])] }
def y3z(a b:Int)(A:LL)(c d:Int)(C E F G:LL)(q:Bool)(e:Int)(H:LL)(f g:Int)(J K L M:LL)(r:Bool)(N:LL)(l:List O):List O:=.b (decide (a≤b)) true::.a (.resR [some [D.sl 4 A,I c,I d,D.sl 8 C,D.sl 6 E,D.sl 5 F,D.sl 3 G,B q],none] (RR.vals [cI e]))::.p (RetR prog 131 [RA.ref [D.sl 4 H,I f,I g,D.sl 8 J,D.sl 6 K,D.sl 5 L,D.sl 3 M,B r] [D.sl 4 A,I c,I d,D.sl 8 C,D.sl 6 E,D.sl 5 F,D.sl 3 G,B q],RA.ro (cS 3 N)] (RR.vals [cI e]))::l
theorem qNv(h:Oo (y3z a e A b c C E F G r d J f g K L M N q H [.b (d==0) true])):
 Tp (qaa f19 0) (qeB H e a J f g K L M N q i j) .ret (qny a A b c C E F G):=
 h.lp [4,5] [4]
theorem qti(h:Oo (y3z a b C c d E F G H q e J f g K L M N r A [.b (e==0) false,.u a])):
 Tp (qaa f19 0) (qeB A b a J f g K L M N r i j) .normal (qeB A b (a+1) C c d E F G H q i j):=
 h.lr [(11000000,900011000,4),(11000003,900011003,8),(11000004,900011004,6),(11000005,900011005,5),(11000006,900011006,3)] [8,1,6,7,4] [10,4]
def qnz(a:Int)(A:LL)(c d:Int)(C E F G:LL)(q:Bool)(e b:Int):St:=
 { env:=envOf 34 [(1,vI a),(4,vP 4),(6,vP 10)],boxes:=[(10,[lO 900011000 4 A,lI c,lI d,lO 900011003 8 C,lO 900011004 6 E,lO 900011005 5 F,lO 900011006 3 G,.sb q]),(4,[.v (sn),lI e,lI b,.v (sn),.v (sn),.v (sn),.v (sn)])] }
theorem qNw(h:Oo [.b (decide (b≤a)) false]):
 Tp (qaa f19 0) (qeB H a b A c d C E F G q e f) (.exit 0) (qnz a A c d C E F G q e f):=
 h.lp [6,1,4] [10,4]
def y3A(A:LL)(a b:Int)(C E F G:LL)(q:Bool)(H:LL)(c d:Int)(J K L M:LL)(l:List O):List O:=.a (.resR [none] (RR.new [D.sl 4 A,I a,I b,D.sl 8 C,D.sl 6 E,D.sl 5 F,D.sl 3 G,B q]))::.p (RetR prog 127 [RA.ro (.agg (cl H c d J K L M))] (RR.new [D.sl 4 A,I a,I b,D.sl 8 C,D.sl 6 E,D.sl 5 F,D.sl 3 G,B q]))::l
theorem qNx(h:Oo (y3A M d b C E F G q A a c H J K L [.r 129 [.agg (cl A a c H J K L)] [cS 3 N],.r 130 [cI j,cI 0,cI 3000] [cI e],.l [(11000000,900011000,4),(11000003,900011003,8),(11000004,900011004,6),(11000005,900011005,5),(11000006,900011006,3)] [8,1,6,7,4] [10,4] (qaa f19 0) (qeB N e 1 M d b C E F G q 0 0) .ret (qny f P g i Q R S U)])):
 Rt 19 [.agg (cl A a c H J K L),cI j] [.agg (cl P g i Q R S U),cI f]:=
 h.of
theorem qNy(h:Oo (y3A M e c C E F G q A b d H J K L [.r 129 [.agg (cl A b d H J K L)] [cS 3 N],.r 130 [cI i,cI 0,cI 3000] [cI a],.l [(11000000,900011000,4),(11000003,900011003,8),(11000004,900011004,6),(11000005,900011005,5),(11000006,900011006,3)] [8,1,6,7,4] [10,4] (qaa f19 0) (qeB N a 1 M e c C E F G q 0 0) (.exit 0) (qnz a P f g Q R S U r j k)])):
 Rt 19 [.agg (cl A b d H J K L),cI i] [.agg (cl P f g Q R S U),cI a]:=
 h.of
def y3B(a b:Int)(q:Bool)(l:List O):List O:=.a .wr::.r 167 [cI a,cI 0,cI (IntKind.i64.wrap (b-1))] [cB q]::l
theorem qtj(h:Oo (y3B b a q [.n q true])):
 Rt 62 [.agg (gr A a c),cI b,cI d] [cI (-1)]:=
 h.of
def y3C(a b:Int)(q:Bool)(c:Int)(r:Bool)(l:List O):List O:=y3B a b q (.n q false::.a .wr::.r 167 [cI c,cI 0,cI (IntKind.i64.wrap (b-1))] [cB r]::l)
theorem qtk(h:Oo (y3C b a q c r [.n r true])):
 Rt 62 [.agg (gr A a d),cI b,cI c] [cI (-1)]:=
 h.of
theorem qNz(h:Oo (y3C b a q c r [.n r false,.b (decide (a<1)) true])):
 Rt 62 [.agg (gr A a d),cI b,cI c] [cI (-1)]:=
 h.of
theorem qtl(h:Oo (y3C b a q c r [.n r false,.b (decide (a<1)) false,.a .wr,.a .wr])):
 Rt 62 [.agg (gr A a d),cI b,cI c] [cI (IntKind.i64.wrap (IntKind.i64.wrap (b*a)+c))]:=
 h.of
def qgR(A:LL)(a:Int)(C E:LL)(d e:Int)(F G H J:LL)(q:Bool)(b c:Int):St:=
 { env:=envOf 32 [(1,vF 3 A),(4,vP 4),(6,vP 10),(7,PV.al (AL.one (lO 11 1 C))),(8,vI a)],boxes:=[(10,[lO 900011000 4 E,lI d,lI e,lO 900011003 8 F,lO 900011004 6 G,lO 900011005 5 H,lO 900011006 3 J,.sb q]),(4,[.v (sn),lI b,lI c,.v (sn),.v (sn),.v (sn),.v (sn)])] }
def y3D(A:LL)(a b c d:Int)(C:LL)(e f:Int)(E F G H:LL)(q r:Bool)(J:LL)(g i:Int)(K L M N:LL)(s:Bool)(l:List O):List O:=.i A a [I b,I c,I d]::.a (.resR [some [D.sl 4 C,I e,I f,D.sl 8 E,D.sl 6 F,D.sl 5 G,D.sl 3 H,B q],none] (RR.vals [cB r]))::.p (RetR prog 128 [RA.ref [D.sl 4 J,I g,I i,D.sl 8 K,D.sl 6 L,D.sl 5 M,D.sl 3 N,B s] [D.sl 4 C,I e,I f,D.sl 8 E,D.sl 6 F,D.sl 5 G,D.sl 3 H,B q],RA.ro (.agg [I b,I c,I d])] (RR.vals [cB r]))::l
theorem qNA(h:Oo (y3D J a i j k C b c E F G H r q K d e L M N P s [.g A [[B q]] 1,.h [[B q]],.u a])):
 Tp (qaa f18 0) (qgR J a A K d e L M N P s f g) .normal (qgR J (a+1) (A++[[B q]]) C b c E F G H r f g):=
 h.lr [(11000000,900011000,4),(11000003,900011003,8),(11000004,900011004,6),(11000005,900011005,5),(11000006,900011006,3)] [8,1,7,6,4] [10,4]
def qnA(A C:LL)(b c:Int)(E F G H:LL)(q:Bool)(d a:Int):St:=
 { env:=envOf 32 [(4,vP 4),(6,vP 10),(7,PV.al (AL.one (lO 11 1 A)))],boxes:=[(10,[lO 900011000 4 C,lI b,lI c,lO 900011003 8 E,lO 900011004 6 F,lO 900011005 5 G,lO 900011006 3 H,.sb q]),(4,[.v (sn),lI d,lI a,.v (sn),.v (sn),.v (sn),.v (sn)])] }
theorem qNB(h:Oo [.f J a false]):
 Tp (qaa f18 0) (qgR J a A C b c E F G H q d e) (.exit 0) (qnA A C b c E F G H q d e):=
 h.lp [6,7,4] [10,4]
theorem qNC(h:Oo (y3A G b a A C E F q H c f Q R S U [.l [(11000000,900011000,4),(11000003,900011003,8),(11000004,900011004,6),(11000005,900011005,5),(11000006,900011006,3)] [8,1,7,6,4] [10,4] (qaa f18 0) (qgR V 0 [] G b a A C E F q 0 0) (.exit 0) (qnA J K d e L M N P r g i)])):
 Rt 18 [.agg (cl H c f Q R S U),cS 3 V] [.agg (cl K d e L M N P),cS 1 J]:=
 h.of
theorem qND(h:Oo (y3y f C g i j k a A b c d e q [.n q true])):
 Rt 287 [.agg (lk f C g i j k),.agg (ri m n o p l)] [.agg (lk a A b c d e),cB false]:=
 h.of
theorem qNE(h:Oo (y3y f C i j k l a A b c d e q [.n q false,.r 122 [.agg (ri m n o p g)] [cB r],.n r true])):
 Rt 287 [.agg (lk f C i j k l),.agg (ri m n o p g)] [.agg (lk a A b c d e),cB false]:=
 h.of
theorem qNF(h:Oo (y3y f C i j k l b A a c d e q [.n q false,.r 122 [.agg (ri m n o p g)] [cB r],.n r false,.b (a==0) true])):
 Rt 287 [.agg (lk f C i j k l),.agg (ri m n o p g)] [.agg (lk b A a c d e),cB false]:=
 h.of
theorem qNG(h:Oo (y3y f C i j k l c A a d b e q [.n q false,.r 122 [.agg (ri m n o p g)] [cB r],.n r false,.b (a==0) false,.b (decide (b≥1000000000)) true])):
 Rt 287 [.agg (lk f C i j k l),.agg (ri m n o p g)] [.agg (lk c A a d b e),cB false]:=
 h.of
theorem qNH(h:Oo (y3y l C m n o p i A b j c k q [.n q false,.r 122 [.agg (ri d e f g a)] [cB r],.n r false,.b (b==0) false,.b (decide (c≥1000000000)) false,.g A [(ri d e f g a)] 40,.h [(ri d e f g a)],.v (b-1),.u c])):
 Rt 287 [.agg (lk l C m n o p),.agg (ri d e f g a)] [.agg (lk i (A++[(ri d e f g a)]) (b-1) j (c+1) k),cB true]:=
 h.of
theorem qNI(h:Oo (y3y f C g i j k c A d e a b q [.n q true])):
 Rt 289 [.agg (lk f C g i j k)] [.agg (lk c A d e a b),.agg (ri 0 0 0 0 0),cB false]:=
 h.of
theorem qNJ(h:Oo (y3y f C g i j k c A d e a b q [.n q false,.b ((A.length:Int)==0) true])):
 Rt 289 [.agg (lk f C g i j k)] [.agg (lk c A d e a b),.agg (ri 0 0 0 0 0),cB false]:=
 h.of
theorem qNK(h:Oo (y3y f C m n o p d A e b c a q [.n q false,.b ((A.length:Int)==0) false,.p ((0:Int)≤0),.p (0<(A.length:Int)),.e A 0 (ri g i j k l),.p ((0:Int)≤(some (1:Int)).getD 0),.p ((some (1:Int)).getD 0≤none.getD (A.length:Int)),.p (none.getD (A.length:Int)≤(A.length:Int)),.g ([]:LL) (List.take (A.length-1) (List.drop 1 A)) 40,.h (List.take (A.length-1) (List.drop 1 A)),.u a,.u b])):
 Rt 289 [.agg (lk f C m n o p)] [.agg (lk d ([]++List.take (A.length-1) (List.drop 1 A)) e (b+1) c (a+1)),.agg (ri g i j k l),cB true]:=
 h.of
def y3E(A:LL)(a b c d e:Int)(l:List O):List O:=.r 62 [.agg (gr A a b),cI c,cI d] [cI e]::l
theorem qNL(h:Oo (y3E A a b c d e [.n q true])):
 Rr 199 [RA.ref [D.sl 4 A,I a,I b,D.sl 8 C,D.sl 6 E,D.sl 5 F,D.sl 3 G,B q] [D.sl 4 A,I a,I b,D.sl 8 C,D.sl 6 E,D.sl 5 F,D.sl 3 G,B q],RA.ro (cI c),RA.ro (cI d)] (RR.vals [cB false]):=
 h.ofR
theorem qNM(h:Oo (y3E A a b d e c [.n q false,.b (decide (c<0)) true])):
 Rr 199 [RA.ref [D.sl 4 A,I a,I b,D.sl 8 C,D.sl 6 E,D.sl 5 F,D.sl 3 G,B q] [D.sl 4 A,I a,I b,D.sl 8 C,D.sl 6 E,D.sl 5 F,D.sl 3 G,B q],RA.ro (cI d),RA.ro (cI e)] (RR.vals [cB false]):=
 h.ofR
def y3F(A:LL)(a b c d e:Int)(q:Bool)(l:List O):List O:=y3E A a b c d e (.n q false::.b (decide (e<0)) false::l)
theorem qNN(h:Oo (y3F A a b c d e q [.b (c==d) true])):
 Rr 199 [RA.ref [D.sl 4 A,I a,I b,D.sl 8 C,D.sl 6 E,D.sl 5 F,D.sl 3 G,B q] [D.sl 4 A,I a,I b,D.sl 8 C,D.sl 6 E,D.sl 5 F,D.sl 3 G,B q],RA.ro (cI c),RA.ro (cI d)] (RR.vals [cB false]):=
 h.ofR
theorem qNO(h:Oo (y3F C b i j k a q [.b (j==k) false,.a .sub,.x A a (lk c E d e f g),.r 290 [.agg (lk c E d e f g)] [.agg (lk l F m n o p),cB r],.x A a (lk c E d e f g)])):
 Rr 199 [RA.ref [D.sl 4 C,I b,I i,D.sl 8 G,D.sl 6 A,D.sl 5 H,D.sl 3 J,B q] [D.sl 4 C,I b,I i,D.sl 8 G,D.sl 6 (A.set a.toNat (lk l F m n o p)),D.sl 5 H,D.sl 3 J,B q],RA.ro (cI j),RA.ro (cI k)] (RR.vals [cB r]):=
 h.ofR
def y3G(A:LL)(a b:Int)(C E F G:LL)(q r:Bool)(H:LL)(c d:Int)(J K L M:LL)(s:Bool)(e:Int)(l:List O):List O:=.a (.resR [some [D.sl 4 A,I a,I b,D.sl 8 C,D.sl 6 E,D.sl 5 F,D.sl 3 G,B q],none] (RR.vals [cB r]))::.p (RetR prog 286 [RA.ref [D.sl 4 H,I c,I d,D.sl 8 J,D.sl 6 K,D.sl 5 L,D.sl 3 M,B s] [D.sl 4 A,I a,I b,D.sl 8 C,D.sl 6 E,D.sl 5 F,D.sl 3 G,B q],RA.ro (cI e)] (RR.vals [cB r]))::l
theorem qtm(h:Oo (y3G G a b A C E F q r H c d J K L M s e [.n r true])):
 Rr 205 [RA.ref [D.sl 4 H,I c,I d,D.sl 8 J,D.sl 6 K,D.sl 5 L,D.sl 3 M,B s] [D.sl 4 G,I a,I b,D.sl 8 A,D.sl 6 C,D.sl 5 E,D.sl 3 F,B q],RA.ro (cI e)] (RR.vals [cB false]):=
 h.ofR
def y3H(A:LL)(a b:Int)(C E F G:LL)(q r:Bool)(H:LL)(c d:Int)(J K L M:LL)(s:Bool)(e:Int)(N P Q R S U V X:LL)(l:List O):List O:=y3G A a b C E F G q r H c d J K L M s e (.n r false::.a .sub::.x C e (wk N P Q R S U V X)::l)
theorem qNP(h:Oo (y3H G a b A C E F q r H d e K L M N s c P J Q R S U V W [.b (decide ((J.length:Int)>0)) true])):
 Rr 205 [RA.ref [D.sl 4 H,I d,I e,D.sl 8 K,D.sl 6 L,D.sl 5 M,D.sl 3 N,B s] [D.sl 4 G,I a,I b,D.sl 8 A,D.sl 6 C,D.sl 5 E,D.sl 3 F,B q],RA.ro (cI c)] (RR.vals [cB false]):=
 h.ofR
def y3I(A:LL)(a b:Int)(C E F G:LL)(q r:Bool)(H:LL)(c d:Int)(J K L M:LL)(s:Bool)(e:Int)(N P Q R S U V X:LL)(l:List O):List O:=y3H A a b C E F G q r H c d J K L M s e N P Q R S U V X (.b (decide ((P.length:Int)>0)) false::l)
theorem qNQ(h:Oo (y3I G a b A C E F q r H d e L M N P s c J K Q R S U V W [.b (decide ((J.length:Int)>0)) true])):
 Rr 205 [RA.ref [D.sl 4 H,I d,I e,D.sl 8 L,D.sl 6 M,D.sl 5 N,D.sl 3 P,B s] [D.sl 4 G,I a,I b,D.sl 8 A,D.sl 6 C,D.sl 5 E,D.sl 3 F,B q],RA.ro (cI c)] (RR.vals [cB false]):=
 h.ofR
theorem qNR(h:Oo (y3I G a b A C E F q r H d e M N P Q s c J K L R S U V W [.b (decide ((J.length:Int)>0)) false,.b ((L.length:Int)==0) true])):
 Rr 205 [RA.ref [D.sl 4 H,I d,I e,D.sl 8 M,D.sl 6 N,D.sl 5 P,D.sl 3 Q,B s] [D.sl 4 G,I a,I b,D.sl 8 A,D.sl 6 C,D.sl 5 E,D.sl 3 F,B q],RA.ro (cI c)] (RR.vals [cB false]):=
 h.ofR
theorem qNS(h:Oo (y3I Q b c C F G H q r R d e S U V W s a J E A K L M N P [.b (decide ((J.length:Int)>0)) false,.b ((A.length:Int)==0) false,.p ((0:Int)≤0),.p (0<(A.length:Int)),.e A 0 (ri f g i j k),.p ((0:Int)≤(some (1:Int)).getD 0),.p ((some (1:Int)).getD 0≤none.getD (A.length:Int)),.p (none.getD (A.length:Int)≤(A.length:Int)),.g ([]:LL) (List.take (A.length-1) (List.drop 1 A)) 40,.h (List.take (A.length-1) (List.drop 1 A)),.x C a (wk J E A K L M N P),.p (a.toNat=a.toNat),.p (a.toNat=a.toNat),.p (a.toNat=a.toNat),.p (a.toNat=a.toNat),.p (a.toNat=a.toNat),.p (a.toNat=a.toNat)])):
 Rr 205 [RA.ref [D.sl 4 R,I d,I e,D.sl 8 S,D.sl 6 U,D.sl 5 V,D.sl 3 W,B s] [D.sl 4 Q,I b,I c,D.sl 8 (C.set a.toNat [D.sl 5 [(ri f g i j k)],D.sl 5 E,D.sl 5 ([]++List.take (A.length-1) (List.drop 1 A)),D.sl 4 K,D.sl 1 L,D.sl 1 M,D.sl 1 N,D.sl 2 P]),D.sl 6 F,D.sl 5 G,D.sl 3 H,B q],RA.ro (cI a)] (RR.vals [cB true]):=
 h.ofR
theorem qtn(h:Oo [.b q true,.v ((A.length:Int)-1),.r 167 [cI c,cI 0,cI ((A.length:Int)-1)] [cB r]]):
 Rr 286 [RA.ref [D.sl 4 C,I a,I b,D.sl 8 A,D.sl 6 E,D.sl 5 F,D.sl 3 G,B q] [D.sl 4 C,I a,I b,D.sl 8 A,D.sl 6 E,D.sl 5 F,D.sl 3 G,B q],RA.ro (cI c)] (RR.vals [cB r]):=
 h.ofR
theorem qNT(h:Oo [.b q false]):
 Rr 286 [RA.ref [D.sl 4 A,I a,I b,D.sl 8 C,D.sl 6 E,D.sl 5 F,D.sl 3 G,B q] [D.sl 4 A,I a,I b,D.sl 8 C,D.sl 6 E,D.sl 5 F,D.sl 3 G,B q],RA.ro (cI c)] (RR.vals [cB false]):=
 h.ofR
theorem qto(h:Oo (y3G G a b A C E F q r H c d J K L M s e [.n r true])):
 Rr 192 [RA.ref [D.sl 4 H,I c,I d,D.sl 8 J,D.sl 6 K,D.sl 5 L,D.sl 3 M,B s] [D.sl 4 G,I a,I b,D.sl 8 A,D.sl 6 C,D.sl 5 E,D.sl 3 F,B q],RA.ro (cI e)] (RR.vals [cB false]):=
 h.ofR
theorem qNU(h:Oo (y3H G a b A C E F q r H d e K L M N s c P J Q R S U V W [.b ((J.length:Int)==0) true])):
 Rr 192 [RA.ref [D.sl 4 H,I d,I e,D.sl 8 K,D.sl 6 L,D.sl 5 M,D.sl 3 N,B s] [D.sl 4 G,I a,I b,D.sl 8 A,D.sl 6 C,D.sl 5 E,D.sl 3 F,B q],RA.ro (cI c)] (RR.vals [cB false]):=
 h.ofR
def y3K(A:LL)(a b:Int)(C E F G:LL)(q r:Bool)(H:LL)(c d:Int)(J K L M:LL)(s:Bool)(e:Int)(N P Q R S U V X:LL)(f g i j k m:Int)(l:List O):List O:=y3H A a b C E F G q r H c d J K L M s e N P Q R S U V X (.b ((P.length:Int)==0) false::.a .sub::.x C e (wk N P Q R S U V X)::.p ((0:Int)≤0)::.p (0<(P.length:Int))::.e P 0 (ri f g i j k)::.r 245 [cI j,cI a] [cI m]::l)
theorem qNV(h:Oo (y3K F b c A E G H q r J f g S V W X t a K C L M N P Q R i j k d l e [.b (e != a) true,.r 62 [.agg (gr F b c),cI a,cI e] [cI m],.a .sub,.x E m (lk n U o p a0 b0),.r 287 [.agg (lk n U o p a0 b0),.agg (ri i j k d l)] [.agg (lk c0 Y d0 e0 f0 g0),cB s],.n s true])):
 Rr 192 [RA.ref [D.sl 4 J,I f,I g,D.sl 8 S,D.sl 6 V,D.sl 5 W,D.sl 3 X,B t] [D.sl 4 F,I b,I c,D.sl 8 A,D.sl 6 E,D.sl 5 G,D.sl 3 H,B q],RA.ro (cI a)] (RR.vals [cB false]):=
 h.ofR
theorem qNW(h:Oo (y3K H b c C E J K q r Z p a0 K0 L0 N0 P0 u a A0 F C0 E0 F0 G0 H0 J0 b0 e c0 f d0 g [.b (g != a) true,.r 62 [.agg (gr H b c),cI a,cI g] [cI d],.a .sub,.x E d (lk i L j k l m),.r 287 [.agg (lk i L j k l m),.agg (ri b0 e c0 f d0)] [.agg (lk e0 M0 f0 g0 i0 j0),cB t],.n t false,.x E d (lk i L j k l m),.a (.resR [some [D.sl 4 M,I n,I o,D.sl 8 G,D.sl 6 N,D.sl 5 P,D.sl 3 Q,B s],none,none,none] (RR.vals [])),.a .sub,.p (RetR prog 288 [RA.ref [D.sl 4 H,I b,I c,D.sl 8 C,D.sl 6 (E.set d.toNat (lk e0 M0 f0 g0 i0 j0)),D.sl 5 J,D.sl 3 K,B q] [D.sl 4 M,I n,I o,D.sl 8 G,D.sl 6 N,D.sl 5 P,D.sl 3 Q,B s],RA.ro (cI a),RA.ro (cI e),RA.ro (cI 1)] (RR.vals [])),.x G a (wk R A S U V W X Y),.p ((0:Int)≤(some (1:Int)).getD 0),.p ((some (1:Int)).getD 0≤none.getD (A.length:Int)),.p (none.getD (A.length:Int)≤(A.length:Int)),.g ([]:LL) (List.take (A.length-1) (List.drop 1 A)) 40,.h (List.take (A.length-1) (List.drop 1 A)),.x G a (wk R A S U V W X Y)])):
 Rr 192 [RA.ref [D.sl 4 Z,I p,I a0,D.sl 8 K0,D.sl 6 L0,D.sl 5 N0,D.sl 3 P0,B u] [D.sl 4 M,I n,I o,D.sl 8 (G.set a.toNat (wk R ([]++List.take (A.length-1) (List.drop 1 A)) S U V W X Y)),D.sl 6 N,D.sl 5 P,D.sl 3 Q,B s],RA.ro (cI a)] (RR.vals [cB true]):=
 h.ofR
theorem qNX(h:Oo (y3K Z g i A N P Q q r A0 j k C0 E0 F0 G0 s a C E F G H J K L c d e b f l [.b (l != a) false,.a .sub,.x A a (wk C E F G H J K L),.g C [(ri c d e b f)] 40,.e A a.toNat (wk C E F G H J K L),.p ((wk C E F G H J K L)[0]?=some (D.sl 5 C)),.h [(ri c d e b f)],.p (A=A),.p (A=A),.p (A=A),.p (A=A),.p (A=A),.p (A=A),.p (A=A),.p (A=A),.p (A=A),.p (A=A),.p (A=A),.p (a.toNat=a.toNat),.p (C=C),.x A a (wk C E F G H J K L),.a .sub,.p (a.toNat=a.toNat),.p (0≤a),.p (a<(↑(A.set a.toNat (wk (C++[(ri c d e b f)]) E F G H J K L)).length:Int)),.e (A.set a.toNat (wk (C++[(ri c d e b f)]) E F G H J K L)) a.toNat (wk R M S U V W X Y),.p ((0:Int)≤(some (1:Int)).getD 0),.p ((some (1:Int)).getD 0≤none.getD (M.length:Int)),.p (none.getD (M.length:Int)≤(M.length:Int)),.g ([]:LL) (List.take (M.length-1) (List.drop 1 M)) 40,.h (List.take (M.length-1) (List.drop 1 M)),.p (0≤a),.p (a<(↑(A.set a.toNat (wk (C++[(ri c d e b f)]) E F G H J K L)).length:Int)),.e (A.set a.toNat (wk (C++[(ri c d e b f)]) E F G H J K L)) a.toNat (wk R M S U V W X Y)])):
 Rr 192 [RA.ref [D.sl 4 A0,I j,I k,D.sl 8 C0,D.sl 6 E0,D.sl 5 F0,D.sl 3 G0,B s] [D.sl 4 Z,I g,I i,D.sl 8 ((A.set a.toNat (wk (C++[(ri c d e b f)]) E F G H J K L)).set a.toNat (wk R ([]++List.take (M.length-1) (List.drop 1 M)) S U V W X Y)),D.sl 6 N,D.sl 5 P,D.sl 3 Q,B q],RA.ro (cI a)] (RR.vals [cB true]):=
 h.ofR
theorem qNY(h:Oo [.a .sub,.x L a (wk C E F G A H J K),.a .sub,.x L a (wk C E F G A H J K),.x A b [I d],.v (d+c),.x A b [I i],.e L a.toNat (wk C E F G A H J K),.p (a.toNat=a.toNat),.p (a.toNat=a.toNat),.p (a.toNat=a.toNat),.p (a.toNat=a.toNat),.b r true,.a .sub,.p (0≤a),.p (a<(↑(L.set a.toNat (wk C E F G (A.set b.toNat [I (d+c)]) H J K)).length:Int)),.e (L.set a.toNat (wk C E F G (A.set b.toNat [I (d+c)]) H J K)) a.toNat (wk C E F G (A.set b.toNat [I (d+c)]) H J K),.x (A.set b.toNat [I (d+c)]) b [I g],.r 167 [cI g,cI (-1000000),cI 1000000] [cB q]]):
 Rr 288 [RA.ref [D.sl 4 M,I e,I f,D.sl 8 L,D.sl 6 N,D.sl 5 P,D.sl 3 Q,B r] [D.sl 4 M,I e,I f,D.sl 8 (L.set a.toNat (wk C E F G (A.set b.toNat [I (d+c)]) H J K)),D.sl 6 N,D.sl 5 P,D.sl 3 Q,B q],RA.ro (cI a),RA.ro (cI b),RA.ro (cI c)] (RR.vals []):=
 h.ofR
theorem qNZ(h:Oo (y3E A a b c d e [.n q true])):
 Rr 197 [RA.ref [D.sl 4 A,I a,I b,D.sl 8 C,D.sl 6 E,D.sl 5 F,D.sl 3 G,B q] [D.sl 4 A,I a,I b,D.sl 8 C,D.sl 6 E,D.sl 5 F,D.sl 3 G,B q],RA.ro (cI c),RA.ro (cI d)] (RR.vals [cB false]):=
 h.ofR
theorem qN0(h:Oo (y3E A a b d e c [.n q false,.b (decide (c<0)) true])):
 Rr 197 [RA.ref [D.sl 4 A,I a,I b,D.sl 8 C,D.sl 6 E,D.sl 5 F,D.sl 3 G,B q] [D.sl 4 A,I a,I b,D.sl 8 C,D.sl 6 E,D.sl 5 F,D.sl 3 G,B q],RA.ro (cI d),RA.ro (cI e)] (RR.vals [cB false]):=
 h.ofR
theorem qN1(h:Oo (y3F A a b c d e q [.b (c==d) true])):
 Rr 197 [RA.ref [D.sl 4 A,I a,I b,D.sl 8 C,D.sl 6 E,D.sl 5 F,D.sl 3 G,B q] [D.sl 4 A,I a,I b,D.sl 8 C,D.sl 6 E,D.sl 5 F,D.sl 3 G,B q],RA.ro (cI c),RA.ro (cI d)] (RR.vals [cB false]):=
 h.ofR
theorem qN2(h:Oo (y3F A a c d e b q [.b (d==e) false,.a .sub,.x C b (lk f E g i j k),.r 289 [.agg (lk f E g i j k)] [.agg (lk l J m n o p),.agg (ri a0 b0 c0 d0 e0),cB r],.n r true])):
 Rr 197 [RA.ref [D.sl 4 A,I a,I c,D.sl 8 F,D.sl 6 C,D.sl 5 G,D.sl 3 H,B q] [D.sl 4 A,I a,I c,D.sl 8 F,D.sl 6 C,D.sl 5 G,D.sl 3 H,B q],RA.ro (cI d),RA.ro (cI e)] (RR.vals [cB false]):=
 h.ofR
theorem qN3(h:Oo (y3F P i o b0 a g r [.b (b0==a) false,.a .sub,.x M g (lk j Q k l m n),.r 289 [.agg (lk j Q k l m n)] [.agg (lk c0 G0 d0 e0 f0 g0),.agg (ri c b d e f),cB s],.n s false,.x M g (lk j Q k l m n),.a .sub,.x A a (wk C E F G H J K L),.g C [(ri c b d e f)] 40,.e A a.toNat (wk C E F G H J K L),.p ((wk C E F G H J K L)[0]?=some (D.sl 5 C)),.h [(ri c b d e f)],.p (A=A),.p (A=A),.p (A=A),.p (A=A),.p (A=A),.p (a.toNat=a.toNat),.p (C=C),.x A a (wk C E F G H J K L),.a .sub,.p (a.toNat=a.toNat),.p (0≤a),.p (a<(↑(A.set a.toNat (wk (C++[(ri c b d e f)]) E F G H J K L)).length:Int)),.e (A.set a.toNat (wk (C++[(ri c b d e f)]) E F G H J K L)) a.toNat (wk R S U V W N X Y),.x N b [B t],.e (A.set a.toNat (wk (C++[(ri c b d e f)]) E F G H J K L)) a.toNat (wk R S U V W N X Y),.a (.resR [some [D.sl 4 Z,I p,I a0,D.sl 8 A0,D.sl 6 C0,D.sl 5 E0,D.sl 3 F0,B q],none,none,none] (RR.vals [])),.p (a.toNat=a.toNat),.p (a.toNat=a.toNat),.p (RetR prog 288 [RA.ref [D.sl 4 P,I i,I o,D.sl 8 ((A.set a.toNat (wk (C++[(ri c b d e f)]) E F G H J K L)).set a.toNat (wk R S U V W (N.set b.toNat [B true]) X Y)),D.sl 6 (M.set g.toNat (lk c0 G0 d0 e0 f0 g0)),D.sl 5 H0,D.sl 3 J0,B r] [D.sl 4 Z,I p,I a0,D.sl 8 A0,D.sl 6 C0,D.sl 5 E0,D.sl 3 F0,B q],RA.ro (cI a),RA.ro (cI b),RA.ro (cI (-1))] (RR.vals []))])):
 Rr 197 [RA.ref [D.sl 4 P,I i,I o,D.sl 8 A,D.sl 6 M,D.sl 5 H0,D.sl 3 J0,B r] [D.sl 4 Z,I p,I a0,D.sl 8 A0,D.sl 6 C0,D.sl 5 E0,D.sl 3 F0,B q],RA.ro (cI b0),RA.ro (cI a)] (RR.vals [cB true]):=
 h.ofR
theorem qtp(h:Oo (y3G G a b A C E F q r H c d J K L M s e [.n r true])):
 Rr 204 [RA.ref [D.sl 4 H,I c,I d,D.sl 8 J,D.sl 6 K,D.sl 5 L,D.sl 3 M,B s] [D.sl 4 G,I a,I b,D.sl 8 A,D.sl 6 C,D.sl 5 E,D.sl 3 F,B q],RA.ro (cI e)] (RR.vals [cB false]):=
 h.ofR
theorem qN4(h:Oo (y3H G a b A C E F q r H d e K L M N s c P J Q R S U V W [.b (decide ((J.length:Int)>0)) true])):
 Rr 204 [RA.ref [D.sl 4 H,I d,I e,D.sl 8 K,D.sl 6 L,D.sl 5 M,D.sl 3 N,B s] [D.sl 4 G,I a,I b,D.sl 8 A,D.sl 6 C,D.sl 5 E,D.sl 3 F,B q],RA.ro (cI c)] (RR.vals [cB false]):=
 h.ofR
theorem qN5(h:Oo (y3I G a b A C E F q r H d e L M N P s c J K Q R S U V W [.b ((J.length:Int)==0) true])):
 Rr 204 [RA.ref [D.sl 4 H,I d,I e,D.sl 8 L,D.sl 6 M,D.sl 5 N,D.sl 3 P,B s] [D.sl 4 G,I a,I b,D.sl 8 A,D.sl 6 C,D.sl 5 E,D.sl 3 F,B q],RA.ro (cI c)] (RR.vals [cB false]):=
 h.ofR
def y3J(A:LL)(a b:Int)(C E F G:LL)(q r:Bool)(H:LL)(c d:Int)(J K L M:LL)(s:Bool)(e:Int)(N P Q R S U V X:LL)(f g i j k:Int)(Y Z:LL)(t u:Bool)(l:List O):List O:=y3I A a b C E F G q r H c d J K L M s e N P Q R S U V X (.b ((N.length:Int)==0) false::.p ((0:Int)≤0)::.p (0<(N.length:Int))::.e N 0 (ri f g i j k)::.r 209 [.agg (gr A a b),cS 4 R,.agg (ri f g i j k)] [cS 4 Y,cS 5 Z,cB t]::.p ((0:Int)≤(some (1:Int)).getD 0)::.p ((some (1:Int)).getD 0≤none.getD (N.length:Int))::.p (none.getD (N.length:Int)≤(N.length:Int))::.g ([]:LL) (List.take (N.length-1) (List.drop 1 N)) 40::.h (List.take (N.length-1) (List.drop 1 N))::.r 210 [.agg (gr A a b),.agg (ri f g i j k)] [cB u]::l)
theorem qN6(h:Oo (y3J M c d E N P Q q r R j k S W X Y t a A F G H J K C L e b f g i U V u s [.b s true,.x C b [B v],.e E a.toNat (wk A F G H J K C L),.p (a.toNat=a.toNat),.p (a.toNat=a.toNat),.p (a.toNat=a.toNat),.p (a.toNat=a.toNat),.x (E.set a.toNat (wk A F G H J K (C.set b.toNat [B true]) L)) a (wk A F G H J K (C.set b.toNat [B true]) L),.p (a.toNat=a.toNat),.p (a.toNat=a.toNat),.p (a.toNat=a.toNat),.p (a.toNat=a.toNat),.p (a.toNat=a.toNat)])):
 Rr 204 [RA.ref [D.sl 4 R,I j,I k,D.sl 8 S,D.sl 6 W,D.sl 5 X,D.sl 3 Y,B t] [D.sl 4 M,I c,I d,D.sl 8 ((E.set a.toNat (wk A F G H J K (C.set b.toNat [B true]) L)).set a.toNat (wk ([]++List.take (A.length-1) (List.drop 1 A)) V G U J K (C.set b.toNat [B true]) L)),D.sl 6 N,D.sl 5 P,D.sl 3 Q,B q],RA.ro (cI a)] (RR.vals [cB true]):=
 h.ofR
theorem qN7(h:Oo (y3J E b c C F G H q r R j k S W X Y t a A J K L M N P Q d e f g i U V u s [.b s false,.x C a (wk A J K L M N P Q),.p (a.toNat=a.toNat),.p (a.toNat=a.toNat),.p (a.toNat=a.toNat),.p (a.toNat=a.toNat),.p (a.toNat=a.toNat)])):
 Rr 204 [RA.ref [D.sl 4 R,I j,I k,D.sl 8 S,D.sl 6 W,D.sl 5 X,D.sl 3 Y,B t] [D.sl 4 E,I b,I c,D.sl 8 (C.set a.toNat (wk ([]++List.take (A.length-1) (List.drop 1 A)) V K U M N P Q)),D.sl 6 F,D.sl 5 G,D.sl 3 H,B q],RA.ro (cI a)] (RR.vals [cB true]):=
 h.ofR
theorem qN8(h:Oo [.b (e==1) true,.a (.resR [some [D.sl 4 A,I a,I b,D.sl 8 C,D.sl 6 E,D.sl 5 F,D.sl 3 G,B q],none] (RR.vals [cB r])),.p (RetR prog 204 [RA.ref [D.sl 4 H,I c,I d,D.sl 8 J,D.sl 6 K,D.sl 5 L,D.sl 3 M,B s] [D.sl 4 A,I a,I b,D.sl 8 C,D.sl 6 E,D.sl 5 F,D.sl 3 G,B q],RA.ro (cI f)] (RR.vals [cB r]))]):
 Rr 128 [RA.ref [D.sl 4 H,I c,I d,D.sl 8 J,D.sl 6 K,D.sl 5 L,D.sl 3 M,B s] [D.sl 4 A,I a,I b,D.sl 8 C,D.sl 6 E,D.sl 5 F,D.sl 3 G,B q],RA.ro (.agg [I e,I f,I g])] (RR.vals [cB r]):=
 h.ofR
theorem qN9(h:Oo [.b (c==1) false,.b (c==2) true,.a (.resR [some [D.sl 4 A,I a,I b,D.sl 8 C,D.sl 6 E,D.sl 5 F,D.sl 3 G,B q],none] (RR.vals [cB r])),.p (RetR prog 205 [RA.ref [D.sl 4 H,I d,I e,D.sl 8 J,D.sl 6 K,D.sl 5 L,D.sl 3 M,B s] [D.sl 4 A,I a,I b,D.sl 8 C,D.sl 6 E,D.sl 5 F,D.sl 3 G,B q],RA.ro (cI f)] (RR.vals [cB r]))]):
 Rr 128 [RA.ref [D.sl 4 H,I d,I e,D.sl 8 J,D.sl 6 K,D.sl 5 L,D.sl 3 M,B s] [D.sl 4 A,I a,I b,D.sl 8 C,D.sl 6 E,D.sl 5 F,D.sl 3 G,B q],RA.ro (.agg [I c,I f,I g])] (RR.vals [cB r]):=
 h.ofR
def y3L(a:Int)(l:List O):List O:=.b (a==1) false::.b (a==2) false::l
theorem qOa(h:Oo (y3L a [.b (a==3) true,.a (.resR [some [D.sl 4 A,I b,I c,D.sl 8 C,D.sl 6 E,D.sl 5 F,D.sl 3 G,B q],none] (RR.vals [cB r])),.p (RetR prog 192 [RA.ref [D.sl 4 H,I d,I e,D.sl 8 J,D.sl 6 K,D.sl 5 L,D.sl 3 M,B s] [D.sl 4 A,I b,I c,D.sl 8 C,D.sl 6 E,D.sl 5 F,D.sl 3 G,B q],RA.ro (cI f)] (RR.vals [cB r]))])):
 Rr 128 [RA.ref [D.sl 4 H,I d,I e,D.sl 8 J,D.sl 6 K,D.sl 5 L,D.sl 3 M,B s] [D.sl 4 A,I b,I c,D.sl 8 C,D.sl 6 E,D.sl 5 F,D.sl 3 G,B q],RA.ro (.agg [I a,I f,I g])] (RR.vals [cB r]):=
 h.ofR
def y3M(a:Int)(l:List O):List O:=y3L a (.b (a==3) false::l)
theorem qOb(h:Oo (y3M a [.b (a==4) true,.a (.resR [some [D.sl 4 A,I b,I c,D.sl 8 C,D.sl 6 E,D.sl 5 F,D.sl 3 G,B q],none,none] (RR.vals [cB r])),.p (RetR prog 197 [RA.ref [D.sl 4 H,I d,I f,D.sl 8 J,D.sl 6 K,D.sl 5 L,D.sl 3 M,B s] [D.sl 4 A,I b,I c,D.sl 8 C,D.sl 6 E,D.sl 5 F,D.sl 3 G,B q],RA.ro (cI g),RA.ro (cI e)] (RR.vals [cB r]))])):
 Rr 128 [RA.ref [D.sl 4 H,I d,I f,D.sl 8 J,D.sl 6 K,D.sl 5 L,D.sl 3 M,B s] [D.sl 4 A,I b,I c,D.sl 8 C,D.sl 6 E,D.sl 5 F,D.sl 3 G,B q],RA.ro (.agg [I a,I g,I e])] (RR.vals [cB r]):=
 h.ofR
theorem qOc(h:Oo (y3M a [.b (a==4) false,.b (a==5) true,.a (.resR [some [D.sl 4 A,I b,I c,D.sl 8 C,D.sl 6 E,D.sl 5 F,D.sl 3 G,B q],none,none] (RR.vals [cB r])),.p (RetR prog 199 [RA.ref [D.sl 4 H,I d,I f,D.sl 8 J,D.sl 6 K,D.sl 5 L,D.sl 3 M,B s] [D.sl 4 A,I b,I c,D.sl 8 C,D.sl 6 E,D.sl 5 F,D.sl 3 G,B q],RA.ro (cI g),RA.ro (cI e)] (RR.vals [cB r]))])):
 Rr 128 [RA.ref [D.sl 4 H,I d,I f,D.sl 8 J,D.sl 6 K,D.sl 5 L,D.sl 3 M,B s] [D.sl 4 A,I b,I c,D.sl 8 C,D.sl 6 E,D.sl 5 F,D.sl 3 G,B q],RA.ro (.agg [I a,I g,I e])] (RR.vals [cB r]):=
 h.ofR
def y3N(a:Int)(l:List O):List O:=y3M a (.b (a==4) false::.b (a==5) false::l)
theorem qOd(h:Oo (y3N a [.b (a==6) true,.a (.resR [some [D.sl 4 A,I b,I c,D.sl 8 C,D.sl 6 E,D.sl 5 F,D.sl 3 G,B q],none] (RR.vals [cB r])),.p (RetR prog 165 [RA.ref [D.sl 4 H,I d,I e,D.sl 8 J,D.sl 6 K,D.sl 5 L,D.sl 3 M,B s] [D.sl 4 A,I b,I c,D.sl 8 C,D.sl 6 E,D.sl 5 F,D.sl 3 G,B q],RA.ro (cI f)] (RR.vals [cB r]))])):
 Rr 128 [RA.ref [D.sl 4 H,I d,I e,D.sl 8 J,D.sl 6 K,D.sl 5 L,D.sl 3 M,B s] [D.sl 4 A,I b,I c,D.sl 8 C,D.sl 6 E,D.sl 5 F,D.sl 3 G,B q],RA.ro (.agg [I a,I f,I g])] (RR.vals [cB r]):=
 h.ofR
theorem qOe(h:Oo (y3N a [.b (a==6) false,.b (a==7) true,.a (.resR [some [D.sl 4 A,I b,I c,D.sl 8 C,D.sl 6 E,D.sl 5 F,D.sl 3 G,B q],none] (RR.vals [cB r])),.p (RetR prog 246 [RA.ref [D.sl 4 H,I d,I e,D.sl 8 J,D.sl 6 K,D.sl 5 L,D.sl 3 M,B s] [D.sl 4 A,I b,I c,D.sl 8 C,D.sl 6 E,D.sl 5 F,D.sl 3 G,B q],RA.ro (cI f)] (RR.vals [cB r]))])):
 Rr 128 [RA.ref [D.sl 4 H,I d,I e,D.sl 8 J,D.sl 6 K,D.sl 5 L,D.sl 3 M,B s] [D.sl 4 A,I b,I c,D.sl 8 C,D.sl 6 E,D.sl 5 F,D.sl 3 G,B q],RA.ro (.agg [I a,I f,I g])] (RR.vals [cB r]):=
 h.ofR
theorem qOf(h:Oo (y3N a [.b (a==6) false,.b (a==7) false])):
 Rr 128 [RA.ref [D.sl 4 A,I b,I c,D.sl 8 C,D.sl 6 E,D.sl 5 F,D.sl 3 G,B q] [D.sl 4 A,I b,I c,D.sl 8 C,D.sl 6 E,D.sl 5 F,D.sl 3 G,B q],RA.ro (.agg [I a,I e,I d])] (RR.vals [cB false]):=
 h.ofR
def qfH(A:LL)(a b:Int)(C:LL)(c d:Int)(E F G H:LL)(q:Bool):St:=
 { env:=envOf 22 [(0,vP 1000000000),(1,.al (.one (.sv 1000000200 3 A))),(5,vI b),(6,vI a)],boxes:=[(1000000000,[lO 950001000 4 C,lI c,lI d,lO 950001003 8 E,lO 950001004 6 F,lO 950001005 5 G,lO 950001006 3 H,.sb q])] }
theorem qOg(h:Oo (y3D H a g i j A c d C E F G q r J e f K L M N s [.b r true,.u b,.u a])):
 Tp (qaa f131 0) (qfH H a b J e f K L M N s) .normal (qfH H (a+1) (b+1) A c d C E F G q):=
 h.lr [(1000000001000000,950001000,4),(1000000001000003,950001003,8),(1000000001000004,950001004,6),(1000000001000005,950001005,5),(1000000001000006,950001006,3)] [6,1,0,5] [1000000000]
theorem qOh(h:Oo (y3D H a g i j A b c C E F G q r J e f K L M N s [.b r false,.u a])):
 Tp (qaa f131 0) (qfH H a d J e f K L M N s) .normal (qfH H (a+1) d A b c C E F G q):=
 h.lr [(1000000001000000,950001000,4),(1000000001000003,950001003,8),(1000000001000004,950001004,6),(1000000001000005,950001005,5),(1000000001000006,950001006,3)] [6,1,0,5] [1000000000]
def qtq(a:Int)(A:LL)(b c:Int)(C E F G:LL)(q:Bool):St:=
 { env:=envOf 22 [(0,vP 1000000000),(5,vI a)],boxes:=[(1000000000,[lO 950001000 4 A,lI b,lI c,lO 950001003 8 C,lO 950001004 6 E,lO 950001005 5 F,lO 950001006 3 G,.sb q])] }
theorem qOi(h:Oo [.f H d false]):
 Tp (qaa f131 0) (qfH H d a A b c C E F G q) (.exit 0) (qtq a A b c C E F G q):=
 h.lp [5,0] [1000000000]
theorem qOj(h:Oo [.l [(1000000001000000,950001000,4),(1000000001000003,950001003,8),(1000000001000004,950001004,6),(1000000001000005,950001005,5),(1000000001000006,950001006,3)] [6,1,0,5] [1000000000] (qaa f131 0) (qfH N 0 0 A a d J K L M r) (.exit 0) (qtq e C b c E F G H q)]):
 Rr 131 [RA.ref [D.sl 4 A,I a,I d,D.sl 8 J,D.sl 6 K,D.sl 5 L,D.sl 3 M,B r] [D.sl 4 C,I b,I c,D.sl 8 E,D.sl 6 F,D.sl 5 G,D.sl 3 H,B q],RA.ro (cS 3 N)] (RR.vals [cI e]):=
 h.ofR
