import Derived.Test.YtdchjefneblpgaaGreatGE
set_option linter.unusedVariables false
set_option linter.unusedSimpArgs false
namespace Go.Proofs.YtdchjefneblpgaaGreat
open Go.Sx Go.RowKit Go.Proofs.Tryz
variable {a b c d e f g i j k l m n o p a0 bX cO d0 bu f0 i0 j0 cX ea m0 kW : Int} {A C E F G H af K L M N Q R S bb V X Y Z c7 dr dZ jk ei im e7 iP e8 jl e9 H1 ey Ap jW Aq jD Ar kj Au kk DK kl DM rT DN rU ux wi yf mC H3 H4 H5 : ae} {q r s t u v : Bool}
def rM(a:Int)(A:ae)(b c d e f:Int)(C:ae)(g i j k:Int)(q:Bool)(l:List O):List O:=.r 256 [.agg (bZ a A b c d e)] [.agg (bZ f C g i j k)]::.r 188 [.agg (bZ a A b c d e)] [ai q]::l
theorem asE(h:ad (rM a A b c d e i C j k f g q [.n q true])):
 al 157 [.agg (bZ a A b c d e)] [.agg (bZ i C j k f g),ai false]:=
 h.of
theorem asF(h:ad (rM b A c a d e i C j k f g q [.n q false,.b (a==0) true])):
 al 157 [.agg (bZ b A c a d e)] [.agg (bZ i C j k f g),ai false]:=
 h.of
theorem asG(h:ad (rM b A c a d e k C f g i j q [.n q false,.b (a==0) false,.v (g-1),.u f])):
 al 157 [.agg (bZ b A c a d e)] [.agg (bZ k C (f+1) (g-1) i j),ai true]:=
 h.of
def HQ(A C E F G H af K L M N P Q R S bb:ae)(l:List O):List O:=.r 255 [.agg (aW A C E F G H af K)] [.agg (aW L M N P Q R S bb)]::l
theorem asH(h:ad (HQ C E M Q R S bb V A F G H af K L N [.g A [(aS d e a b c)] 40,.h [(aS d e a b c)]])):
 al 148 [.agg (aW C E M Q R S bb V),.agg (aS d e a b c)] [.agg (aW (A++[(aS d e a b c)]) F G H af K L N)]:=
 h.of
theorem ar7(h:ad [.b (decide ((if b<a then b else a)<0)) true]):
 al 60 [.agg (bA A c d),ag a,ag b] [ag (-1)]:=
 h.of
theorem ar8(h:ad [.b (decide ((if b<a then b else a)<0)) false,.b (decide ((if b>a then b else a)>=c)) true]):
 al 60 [.agg (bA A c d),ag a,ag b] [ag (-1)]:=
 h.of
theorem ar9(h:ad [.b (decide ((if b<a then b else a)<0)) false,.b (decide ((if b>a then b else a)>=c)) false,.v (a*c),.v (a*c+b)]):
 al 60 [.agg (bA A c d),ag a,ag b] [ag (a*c+b)]:=
 h.of
def aaJ(A:ae)(a b:Int)(C E F G H:ae)(c d:Int)(af K L M:ae)(l:List O):List O:=.r 144 [.agg (cl A a b C E F G)] [.agg (cl H c d af K L M)]::l
def DA(A:ae)(a b:Int)(C E F G H:ae)(c d:Int)(af K L M:ae)(e f g:Int)(l:List O):List O:=aaJ A a b C E F G H c d af K L M (.r 153 [.agg (cl A a b C E F G),ag e,ag f] [ag g]::l)
theorem YK(h:ad (DA A a b C E F G M c d H af K L f g e [.b (decide (e<0)) true])):
 al 33 [.agg (cl A a b C E F G),ag f,ag g] [.agg (cl M c d H af K L),ai false]:=
 h.of
theorem asa{C:ae}{b c:Int}{F A G H:ae}{a0 bX:Int}{Q:ae}{d e:Int}{af E K L:ae}{a f:Int}{M:ae}{g i j k l:Int}{N:ae}{m n o p:Int}{q:Bool}{d30 d31 d32 d33 d34 d35:D}(h:ad (DA C b c F A G H Q d e af E K L a0 bX a [.b (decide (a<0)) false,.x A a (bZ f M g i j k),.r 157 [.agg (bZ f M g i j k)] [.agg (bZ l N m n o p),ai q],.x E a [d30,d31,d32,d33,d34,d35]])):
 al 33 [.agg (cl C b c F A G H),ag a0,ag bX] [.agg (cl Q d e af (E.set a.toNat (bZ l N m n o p)) K L),ai q]:=
 h.of
def x'(A:ae)(a b:Int)(C E F G H:ae)(c d:Int)(af K L M:ae)(e:Int)(q:Bool)(l:List O):List O:=aaJ A a b C E F G H c d af K L M (.r 145 [.agg (cl A a b C E F G),ag e] [ai q]::l)
theorem XW(h:ad (x' A a b C E F G M e c H af K L d q [.n q true])):
 al 36 [.agg (cl A a b C E F G),ag d] [.agg (cl M e c H af K L),ai false]:=
 h.of
theorem asb{A:ae}{b c:Int}{C F G H:ae}{a:Int}{ey:ae}{e d:Int}{E af K L:ae}{q:Bool}{M N Q R S bb V X Y Z c7 dZ ei e7 e8 e9:ae}{r:Bool}{d33 d34 d35 d36 d37 d38 d39 d40:D}(h:ad (x' A b c C F G H ey e d E af K L a q [.n q false,.x C a (aW M N Q R S bb V X),.r 164 [.agg (bA A b c),.agg (aW M N Q R S bb V X)] [.agg (aW Y Z c7 dZ ei e7 e8 e9),ai r],.x E a [d33,d34,d35,d36,d37,d38,d39,d40]])):
 al 36 [.agg (cl A b c C F G H),ag a] [.agg (cl ey e d (E.set a.toNat (aW Y Z c7 dZ ei e7 e8 e9)) af K L),ai r]:=
 h.of
theorem XX(h:ad (x' A a b C E F G M e c H af K L d q [.n q true])):
 al 28 [.agg (cl A a b C E F G),ag d] [.agg (cl M e c H af K L),ai false]:=
 h.of
theorem asc(h:ad (x' C a b A E F G N e d H af K L c q [.n q false,.x A c (aW Q M R S bb V X Y),.b ((M.length:Int)==0) true])):
 al 28 [.agg (cl C a b A E F G),ag c] [.agg (cl N e d H af K L),ai false]:=
 h.of
def Qj(A:ae)(a b:Int)(C E F G H:ae)(c d:Int)(af K L M:ae)(e:Int)(q:Bool)(N P Q R S bb V X Y Z dr jk im iP jl H1 Ap Aq Ar Au DK DM DN aaQ:ae)(f g i j k:Int)(r:Bool)(m:Int)(l:List O):List O:=x' A a b C E F G H c d af K L M e q (.n q false::.x C e (aW N P Q R S bb V X)::.b ((P.length:Int)==0) false::.x C e (aW Y Z dr jk im iP jl H1)::.r 146 [.agg (aW Y Z dr jk im iP jl H1)] [.agg (aW Ap Aq Ar Au DK DM DN aaQ),.agg (aS f g i j k),ai r]::.r 147 [ag j,ag a] [ag m]::l)
theorem asd(h:ad (Qj C b c A F G H wi l e E af K L a q yf M mC H3 H4 H5 dr jk N Q R S bb V X Y Z c7 dZ ei e7 e8 e9 ey f g i d j r k [.b (k==a) true,.r 148 [.agg (aW Z c7 dZ ei e7 e8 e9 ey),.agg (aS f g i d j)] [.agg (aW jW jD kj kk kl rT rU ux)],.x E a (aW im iP jl H1 Ap Aq Ar Au)])):
 al 28 [.agg (cl C b c A F G H),ag a] [.agg (cl wi l e (E.set a.toNat (aW jW jD kj kk kl rT rU ux)) af K L),ai true]:=
 h.of
theorem ase(h:ad (Qj C b c A E F G c7 bX f H af K L a q dZ M ei e7 e8 e9 ey jW N Q R S bb V X Y jD kj kk kl rT rU ux wi g i j d k s e [.b (e==a) false,.r 60 [.agg (bA C b c),ag a,ag e] [ag l],.x E l (bZ m Z n o p a0),.r 149 [.agg (bZ m Z n o p a0),.agg (aS g i j d k)] [.agg (bZ cO yf d0 bu f0 i0),ai r],.n r true])):
 al 28 [.agg (cl C b c A E F G),ag a] [.agg (cl c7 bX f H af K L),ai false]:=
 h.of
theorem asf(h:ad (Qj C b c A E H af mC i0 i F G K L a q H3 M H4 H5 dr jk im iP N Q R S bb V X Y Z c7 dZ ei e7 e8 e9 ey j e k f l s g [.b (g==a) false,.r 60 [.agg (bA C b c),ag a,ag g] [ag d],.x E d (bZ m jW n o p a0),.r 149 [.agg (bZ m jW n o p a0),.agg (aS j e k f l)] [.agg (bZ bX jD cO d0 bu f0),ai r],.n r false,.x G d (bZ j0 jl cX ea m0 kW),.r 150 [.agg (aW Z c7 dZ ei e7 e8 e9 ey),ag e] [.agg (aW kj kk kl rT rU ux wi yf)],.x F a (aW H1 Ap Aq Ar Au DK DM DN)])):
 al 28 [.agg (cl C b c A E H af),ag a] [.agg (cl mC i0 i (F.set a.toNat (aW kj kk kl rT rU ux wi yf)) (G.set d.toNat (bZ bX jD cO d0 bu f0)) K L),ai true]:=
 h.of
theorem XY(h:ad (DA A a b C E F G M c d H af K L f g e [.b (decide (e<0)) true])):
 al 31 [.agg (cl A a b C E F G),ag f,ag g] [.agg (cl M c d H af K L),ai false]:=
 h.of
theorem asg(h:ad (DA C a c E A F G N d e H af K L l m b [.b (decide (b<0)) false,.x A b (bZ f M g i j k),.r 154 [.agg (bZ f M g i j k)] [.agg (bZ n Q o p a0 bX),.agg (aS cO d0 bu f0 i0),ai q],.n q true])):
 al 31 [.agg (cl C a c E A F G),ag l,ag m] [.agg (cl N d e H af K L),ai false]:=
 h.of
theorem atH(h:ad (DA E c d A C H af jD e f F G K L i0 b a [.b (decide (a<0)) false,.x C a (bZ g M i j k l),.r 154 [.agg (bZ g M i j k l)] [.agg (bZ m N n o p a0),.agg (aS bX cO d0 bu f0),ai q],.n q false,.x G a (bZ j0 kj cX ea m0 kW),.x A b (aW Q R S bb V X Y Z),.r 155 [.agg (aW Q R S bb V X Y Z),.agg (aS bX cO d0 bu f0)] [.agg (aW c7 dZ ei e7 e8 e9 ey jW)],.x F b (aW kk kl rT rU ux wi yf mC)])):
 al 31 [.agg (cl E c d A C H af),ag i0,ag b] [.agg (cl jD e f (F.set b.toNat (aW c7 dZ ei e7 e8 e9 ey jW)) (G.set a.toNat (bZ m N n o p a0)) K L),ai true]:=
 h.of
theorem XZ(h:ad (x' A a b C E F G M e c H af K L d q [.n q true])):
 al 44 [.agg (cl A a b C E F G),ag d] [.agg (cl M e c H af K L),ai false]:=
 h.of
theorem atI(h:ad (x' A b c C F G H ey e d E af K L a q [.n q false,.x C a (aW M N Q R S bb V X),.r 169 [.agg (bA A b c),.agg (aW M N Q R S bb V X)] [.agg (aW Y Z c7 dZ ei e7 e8 e9),ai r],.x E a (aW jW jD kj kk kl rT rU ux)])):
 al 44 [.agg (cl A b c C F G H),ag a] [.agg (cl ey e d (E.set a.toNat (aW Y Z c7 dZ ei e7 e8 e9)) af K L),ai r]:=
 h.of
theorem atJ{G H Q S A C bb V:ae}{f a c d e:Int}{af K L M E F N R:ae}{q:Bool}{b:Int}{d23 d24:D}(h:ad [.r 148 [.agg (aW G H Q S A C bb V),.agg (aS f a c d e)] [.agg (aW af K L M E F N R)],.v ((if (C.length:Int)<(A.length:Int) then (C.length:Int) else (A.length:Int))-1),.r 190 [ag a,ag 0,ag ((if (C.length:Int)<(A.length:Int) then (C.length:Int) else (A.length:Int))-1)] [ai q],.b q true,.x E a [I b],.v (b-1),.x E a [d23],.x F a [d24]]):
 al 155 [.agg (aW G H Q S A C bb V),.agg (aS f a c d e)] [.agg (aW af K L M (E.set a.toNat [I (b-1)]) (F.set a.toNat [B true]) N R)]:=
 h.of
theorem atK(h:ad (rM a A b c d e f C g i j k q [.n q true])):
 al 149 [.agg (bZ a A b c d e),.agg (aS m n o p l)] [.agg (bZ f C g i j k),ai false]:=
 h.of
theorem atL(h:ad (rM a A b c d e g C i j k l q [.n q false,.r 180 [.agg (aS m n o p f)] [ai r],.n r true])):
 al 149 [.agg (bZ a A b c d e),.agg (aS m n o p f)] [.agg (bZ g C i j k l),ai false]:=
 h.of
theorem atM(h:ad (rM b A a c d e g C i j k l q [.n q false,.r 180 [.agg (aS m n o p f)] [ai r],.n r false,.b (a==0) true])):
 al 149 [.agg (bZ b A a c d e),.agg (aS m n o p f)] [.agg (bZ g C i j k l),ai false]:=
 h.of
theorem atN(h:ad (rM c A a d b e g C i j k l q [.n q false,.r 180 [.agg (aS m n o p f)] [ai r],.n r false,.b (a==0) false,.b (b==1000000000) true])):
 al 149 [.agg (bZ c A a d b e),.agg (aS m n o p f)] [.agg (bZ g C i j k l),ai false]:=
 h.of
theorem atO(h:ad (rM i A f l g m n C j o k p q [.n q false,.r 180 [.agg (aS b c d e a)] [ai r],.n r false,.b (f==0) false,.b (g==1000000000) false,.g C [(aS b c d e a)] 40,.h [(aS b c d e a)],.v (j-1),.u k])):
 al 149 [.agg (bZ i A f l g m),.agg (aS b c d e a)] [.agg (bZ n (C++[(aS b c d e a)]) (j-1) o (k+1) p),ai true]:=
 h.of
theorem atP{E F N Q C R S bb:ae}{a:Int}{V G H af A K L M:ae}{q:Bool}{b:Int}{d19:D}(h:ad (HQ E F N Q C R S bb V G H af A K L M [.v ((C.length:Int)-1),.r 190 [ag a,ag 0,ag ((C.length:Int)-1)] [ai q],.b q true,.x A a [I b],.u b,.x A a [d19]])):
 al 150 [.agg (aW E F N Q C R S bb),ag a] [.agg (aW V G H af (A.set a.toNat [I (b+1)]) K L M)]:=
 h.of
theorem atQ(h:ad [.b (e==1) true,.r 44 [.agg (cl A a d af K L M),ag f] [.agg (cl C b c E F G H),ai q]]):
 al 87 [.agg (cl A a d af K L M),.agg [I e,I f,I g]] [.agg (cl C b c E F G H),ai q]:=
 h.of
def Qk(a:Int)(l:List O):List O:=.b (a==1) false::l
theorem atS(h:ad (Qk a [.b (a==2) true,.r 36 [.agg (cl A b e af K L M),ag f] [.agg (cl C c d E F G H),ai q]])):
 al 87 [.agg (cl A b e af K L M),.agg [I a,I f,I g]] [.agg (cl C c d E F G H),ai q]:=
 h.of
def Ql(a:Int)(l:List O):List O:=Qk a (.b (a==2) false::l)
theorem atT(h:ad (Ql a [.b (a==3) true,.r 28 [.agg (cl A b e af K L M),ag f] [.agg (cl C c d E F G H),ai q]])):
 al 87 [.agg (cl A b e af K L M),.agg [I a,I f,I g]] [.agg (cl C c d E F G H),ai q]:=
 h.of
def Qm(a:Int)(l:List O):List O:=Ql a (.b (a==3) false::l)
theorem atU(h:ad (Qm a [.b (a==4) true,.r 31 [.agg (cl A b e af K L M),ag f,ag g] [.agg (cl C c d E F G H),ai q]])):
 al 87 [.agg (cl A b e af K L M),.agg [I a,I f,I g]] [.agg (cl C c d E F G H),ai q]:=
 h.of
def Qn(a:Int)(l:List O):List O:=Qm a (.b (a==4) false::l)
theorem atV(h:ad (Qn a [.b (a==5) true,.r 33 [.agg (cl A b e af K L M),ag f,ag g] [.agg (cl C c d E F G H),ai q]])):
 al 87 [.agg (cl A b e af K L M),.agg [I a,I f,I g]] [.agg (cl C c d E F G H),ai q]:=
 h.of
def Ai(a:Int)(l:List O):List O:=Qn a (.b (a==5) false::l)
theorem atW(h:ad (Ai a [.b (a==6) true,.r 223 [.agg (cl A b e af K L M),ag f] [.agg (cl C c d E F G H),ai q]])):
 al 87 [.agg (cl A b e af K L M),.agg [I a,I f,I g]] [.agg (cl C c d E F G H),ai q]:=
 h.of
theorem atX(h:ad (Ai a [.b (a==6) false,.b (a==7) true,.r 224 [.agg (cl A b e af K L M),ag f] [.agg (cl C c d E F G H),ai q]])):
 al 87 [.agg (cl A b e af K L M),.agg [I a,I f,I g]] [.agg (cl C c d E F G H),ai q]:=
 h.of
theorem atY(h:ad (Ai a [.b (a==6) false,.b (a==7) false,.r 144 [.agg (cl A b e af K L M)] [.agg (cl C c d E F G H)]])):
 al 87 [.agg (cl A b e af K L M),.agg [I a,I f,I g]] [.agg (cl C c d E F G H),ai false]:=
 h.of
theorem atZ(h:ad (rM a A b c d e i C j k f g q [.n q true])):
 al 154 [.agg (bZ a A b c d e)] [.agg (bZ i C j k f g),.agg (aS 0 0 0 0 0),ai false]:=
 h.of
theorem at0(h:ad (rM a A b c d e i C j k f g q [.n q false,.b ((A.length:Int)==0) true])):
 al 154 [.agg (bZ a A b c d e)] [.agg (bZ i C j k f g),.agg (aS 0 0 0 0 0),ai false]:=
 h.of
theorem at1(h:ad (rM a A c d e f o C p g i b q [.n q false,.b ((A.length:Int)==0) false,.a .own,.p ((0:Int)<=(some (1:Int)).getD 0),.p ((some (1:Int)).getD 0<=none.getD (C.length:Int)),.p (none.getD (C.length:Int)<=(C.length:Int)),.u b,.u g,.p ((0:Int)<=0),.p (0<(A.length:Int)),.e A 0 (aS j k l m n)])):
 al 154 [.agg (bZ a A c d e f)] [.agg (bZ o (List.take (C.length-1) (List.drop 1 C)) p (g+1) i (b+1)),.agg (aS j k l m n),ai true]:=
 h.of
def Qi(A C E F G H af K L M N P Q R S bb V:ae)(a b:Int)(q:Bool)(l:List O):List O:=HQ A C E F G H af K L M N P Q R S bb (.r 179 [.agg (bA V a b)] [ai q]::l)
theorem at2(h:ad (Qi N Q R S bb V X C E F G H af K L M A a b q [.n q true])):
 al 164 [.agg (bA A a b),.agg (aW N Q R S bb V X C)] [.agg (aW E F G H af K L M),ai false]:=
 h.of
def Dy(A C E F G H af K L M N P Q R S bb V:ae)(a b:Int)(q r:Bool)(l:List O):List O:=Qi A C E F G H af K L M N P Q R S bb V a b q (.n q false::.r 187 [.agg (bA V a b),.agg (aW A C E F G H af K)] [ai r]::l)
theorem at3(h:ad (Dy E F G H af K L C M N Q R S bb V X A a b q r [.n r true])):
 al 164 [.agg (bA A a b),.agg (aW E F G H af K L C)] [.agg (aW M N Q R S bb V X),ai false]:=
 h.of
theorem at4(h:ad (Dy F A G H af K L E M N Q R S bb V X C a b q r [.n r false,.b (decide ((A.length:Int)>0)) true])):
 al 164 [.agg (bA C a b),.agg (aW F A G H af K L E)] [.agg (aW M N Q R S bb V X),ai false]:=
 h.of
def Dz(A C E F G H af K L M N P Q R S bb V:ae)(a b:Int)(q r:Bool)(l:List O):List O:=Dy A C E F G H af K L M N P Q R S bb V a b q r (.n r false::.b (decide ((C.length:Int)>0)) false::l)
theorem at5(h:ad (Dz A C G H af K L F M N Q R S bb V X E a b q r [.b (decide ((A.length:Int)>0)) true])):
 al 164 [.agg (bA E a b),.agg (aW A C G H af K L F)] [.agg (aW M N Q R S bb V X),ai false]:=
 h.of
theorem at6(h:ad (Dz A C E H af K L G M N Q R S bb V X F a b q r [.b (decide ((A.length:Int)>0)) false,.b ((E.length:Int)==0) true])):
 al 164 [.agg (bA F a b),.agg (aW A C E H af K L G)] [.agg (aW M N Q R S bb V X),ai false]:=
 h.of
theorem at7(h:ad (Dz E F C K L M N H af Q A R S bb V X G f g q r [.b (decide ((E.length:Int)>0)) false,.b ((C.length:Int)==0) false,.p ((0:Int)<=0),.p (0<(C.length:Int)),.e C 0 (aS a b c d e),.a .own,.g af [(aS a b c d e)] 40,.h [(aS a b c d e)],.p ((0:Int)<=(some (1:Int)).getD 0),.p ((some (1:Int)).getD 0<=none.getD (A.length:Int)),.p (none.getD (A.length:Int)<=(A.length:Int))])):
 al 164 [.agg (bA G f g),.agg (aW E F C K L M N H)] [.agg (aW (af++[(aS a b c d e)]) Q (List.take (A.length-1) (List.drop 1 A)) R S bb V X),ai true]:=
 h.of
theorem ath(h:ad (HQ E C M N Q R S bb V A F G H af K L [.b ((C.length:Int)==0) false,.a .own,.p ((0:Int)<=(some (1:Int)).getD 0),.p ((some (1:Int)).getD 0<=none.getD (A.length:Int)),.p (none.getD (A.length:Int)<=(A.length:Int)),.p ((0:Int)<=0),.p (0<(C.length:Int)),.e C 0 (aS a b c d e)])):
 al 146 [.agg (aW E C M N Q R S bb)] [.agg (aW V (List.take (A.length-1) (List.drop 1 A)) F G H af K L),.agg (aS a b c d e),ai true]:=
 h.of
theorem ati(h:ad (Qi N Q R S bb V X C E F G H af K L M A a b q [.n q true])):
 al 169 [.agg (bA A a b),.agg (aW N Q R S bb V X C)] [.agg (aW E F G H af K L M),ai false]:=
 h.of
theorem atj(h:ad (Dy E F G H af K L C M N Q R S bb V X A a b q r [.n r true])):
 al 169 [.agg (bA A a b),.agg (aW E F G H af K L C)] [.agg (aW M N Q R S bb V X),ai false]:=
 h.of
theorem atk(h:ad (Dy F A G H af K L E M N Q R S bb V X C a b q r [.n r false,.b (decide ((A.length:Int)>0)) true])):
 al 169 [.agg (bA C a b),.agg (aW F A G H af K L E)] [.agg (aW M N Q R S bb V X),ai false]:=
 h.of
theorem atl(h:ad (Dz A C G H af K L F M N Q R S bb V X E a b q r [.b ((A.length:Int)==0) true])):
 al 169 [.agg (bA E a b),.agg (aW A C G H af K L F)] [.agg (aW M N Q R S bb V X),ai false]:=
 h.of
def aaI(A C E F G H af K L M N P Q R S bb V:ae)(a b:Int)(q r:Bool)(c d e f g:Int)(X Y:ae)(s t:Bool)(l:List O):List O:=Dz A C E F G H af K L M N P Q R S bb V a b q r (.b ((A.length:Int)==0) false::.p ((0:Int)<=0)::.p (0<(A.length:Int))::.e A 0 (aS c d e f g)::.a .own::.p ((0:Int)<=(some (1:Int)).getD 0)::.p ((some (1:Int)).getD 0<=none.getD (L.length:Int))::.p (none.getD (L.length:Int)<=(L.length:Int))::.r 232 [.agg (bA V a b),aC 4 F,.agg (aS c d e f g)] [aC 4 X,aC 5 Y,ai s]::.r 265 [.agg (bA V a b),.agg (aS c d e f g)] [ai t]::l)
theorem atm{E:ae}{a b:Int}{C F K G L M N H A Y Q Z R S af bb:ae}{q r:Bool}{d c e f g:Int}{V X:ae}{t s:Bool}{d30:D}(h:ad (aaI C F K G L M N H A Y Q Z R S af bb E a b q r d c e f g V X t s [.b s true,.x af c [d30]])):
 al 169 [.agg (bA E a b),.agg (aW C F K G L M N H)] [.agg (aW (List.take (A.length-1) (List.drop 1 A)) X Q V R S (af.set c.toNat [B true]) bb),ai true]:=
 h.of
theorem atn(h:ad (aaI C F af G K L M H A Y N Z Q R S bb E a b q r c d e f g V X t s [.b s false])):
 al 169 [.agg (bA E a b),.agg (aW C F af G K L M H)] [.agg (aW (List.take (A.length-1) (List.drop 1 A)) X N V Q R S bb),ai true]:=
 h.of
theorem X0(h:ad [.r 55 [.agg (cl C a b A E F G)] [ai q],.b q true,.v ((A.length:Int)-1),.r 190 [ag c,ag 0,ag ((A.length:Int)-1)] [ai r]]):
 al 145 [.agg (cl C a b A E F G),ag c] [ai r]:=
 h.of
theorem ato(h:ad [.r 55 [.agg (cl A a b C E F G)] [ai q],.b q false]):
 al 145 [.agg (cl A a b C E F G),ag c] [ai false]:=
 h.of
theorem atp(h:ad [.r 55 [.agg (cl A a b C E F G)] [ai q],.n q true]):
 al 153 [.agg (cl A a b C E F G),ag c,ag d] [ag (-1)]:=
 h.of
theorem atq(h:ad [.r 55 [.agg (cl A a b C E F G)] [ai q],.n q false,.b (c==d) true]):
 al 153 [.agg (cl A a b C E F G),ag c,ag d] [ag (-1)]:=
 h.of
theorem atr(h:ad [.r 55 [.agg (cl A a b C E F G)] [ai q],.n q false,.b (c==d) false,.r 60 [.agg (bA A a b),ag c,ag d] [ag e]]):
 al 153 [.agg (cl A a b C E F G),ag c,ag d] [ag e]:=
 h.of
end Go.Proofs.YtdchjefneblpgaaGreat
namespace Go.Proofs.YtdchjefneblpgaaGreat
open Go.Sx Go.RowKit Go.Proofs.Tryz
variable {a b c d e f g i j k l m n o p a0 bX cO d0 bu f0 i0 j0 cX ea m0 kW : Int} {A C E F G H af K L M N Q R S bb V X Y Z c7 dr dZ jk ei im e7 iP e8 jl e9 H1 ey Ap jW Aq jD Ar kj Au kk DK kl DM rT DN rU ux wi yf mC H3 H4 H5 : ae} {q r s t u v : Bool}
def rN(a:Int)(A:ae)(b c d e f:Int)(C:ae)(g i j k:Int)(q:Bool)(l:List O):List O:=.r 279 [.agg (bZ a A b c d e)] [.agg (bZ f C g i j k)]::.r 191 [.agg (bZ f C g i j k)] [ai q]::l
theorem ats(h:ad (rN f C g i j k c A d e a b q [.n q true])):
 al 261 [.agg (bZ f C g i j k)] [.agg (bZ c A d e a b),ai false]:=
 h.of
theorem att(h:ad (rN f C g i j k d A e a b c q [.n q false,.b (a==0) true])):
 al 261 [.agg (bZ f C g i j k)] [.agg (bZ d A e a b c),ai false]:=
 h.of
theorem atu(h:ad (rN f C g i j k e A b a c d q [.n q false,.b (a==0) false,.v (a-1),.u b])):
 al 261 [.agg (bZ f C g i j k)] [.agg (bZ e A (b+1) (a-1) c d),ai true]:=
 h.of
def vr(A:ae)(a d:Int)(C:ae)(e f:Int)(E F G H:ae)(q:Bool)(b c:Int):aJ:=bj 34 [(1,a6 a),(4,aR 4),(6,aR 10),(7,aL.aI (bn.one (aB 130000 3 A))),(8,a6 d)] [(10,[aB 900011000 4 C,au e,au f,aB 900011003 8 E,aB 900011004 6 F,aB 900011005 5 G,aB 900011006 3 H,.bg q]),(4,[.v (aQ),au b,au c,.v (aQ),.v (aQ),.v (aQ),.v (aQ)])]
def Od(a:Int)(A:ae)(b c:Int)(C E F G:ae):aJ:=bj 34 [(4,aR 4),(5,a6 a)] [(4,[aB 235000 4 A,au b,au c,aB 235003 8 C,aB 235004 6 E,aB 235005 5 F,aB 235006 3 G])]
def aaK(a b:Int)(A:ae)(c d:Int)(C E F G:ae)(q:Bool)(e:Int)(H:ae)(f g:Int)(af K L M:ae)(r:Bool)(N:ae)(l:List O):List O:=.b (decide (a<=b)) true::.a (.dp [some [D.J 4 A,I c,I d,D.J 8 C,D.J 6 E,D.J 5 F,D.J 3 G,B q],none] (aU.vals [ag e]))::.p (bW prog 131 [aN.ref [D.J 4 H,I f,I g,D.J 8 af,D.J 6 K,D.J 5 L,D.J 3 M,B r] [D.J 4 A,I c,I d,D.J 8 C,D.J 6 E,D.J 5 F,D.J 3 G,B q],aN.ro (aC 3 N)] (aU.vals [ag e]))::l
theorem atv(h:ad (aaK a e A b c C E F G r d af f g K L M N q H [.b (d==0) true])):
 a7 (ar f16 0) (vr H e a af f g K L M N q i j) .ret (Od a A b c C E F G):=
 h.aY [4,5] [4]
theorem X1(h:ad (aaK a b C c d E F G H q e af f g K L M N r A [.b (e==0) false,.u a])):
 a7 (ar f16 0) (vr A b a af f g K L M N r i j) .normal (vr A b (a+1) C c d E F G H q i j):=
 h.q' [(11000000,900011000,4),(11000003,900011003,8),(11000004,900011004,6),(11000005,900011005,5),(11000006,900011006,3)] [8,1,6,7,4] [10,4]
def Oe(a:Int)(A:ae)(c d:Int)(C E F G:ae)(q:Bool)(e b:Int):aJ:=bj 34 [(1,a6 a),(4,aR 4),(6,aR 10)] [(10,[aB 900011000 4 A,au c,au d,aB 900011003 8 C,aB 900011004 6 E,aB 900011005 5 F,aB 900011006 3 G,.bg q]),(4,[.v (aQ),au e,au b,.v (aQ),.v (aQ),.v (aQ),.v (aQ)])]
theorem atw(h:ad [.b (decide (b<=a)) false]):
 a7 (ar f16 0) (vr H a b A c d C E F G q e f) (.exit 0) (Oe a A c d C E F G q e f):=
 h.aY [6,1,4] [10,4]
def aaL(A:ae)(a b:Int)(C E F G:ae)(q:Bool)(l:List O):List O:=.a (.dp [none] (aU.new [D.J 4 A,I a,I b,D.J 8 C,D.J 6 E,D.J 5 F,D.J 3 G,B q]))::l
def Qo(A:ae)(a b:Int)(C E F G:ae)(q:Bool)(H:ae)(c d:Int)(af K L M:ae)(l:List O):List O:=aaL A a b C E F G q (.p (bW prog 127 [aN.ro (.agg (cl H c d af K L M))] (aU.new [D.J 4 A,I a,I b,D.J 8 C,D.J 6 E,D.J 5 F,D.J 3 G,B q]))::l)
theorem atx(h:ad (Qo M d b C E F G q A a c H af K L [.r 129 [.agg (cl A a c H af K L)] [aC 3 N],.r 130 [ag j,ag 0,ag 3000] [ag e],.l [(11000000,900011000,4),(11000003,900011003,8),(11000004,900011004,6),(11000005,900011005,5),(11000006,900011006,3)] [8,1,6,7,4] [10,4] (ar f16 0) (vr N e 1 M d b C E F G q 0 0) .ret (Od f Q g i R S bb V)])):
 al 16 [.agg (cl A a c H af K L),ag j] [.agg (cl Q g i R S bb V),ag f]:=
 h.of
theorem aty(h:ad (Qo M e c C E F G q A b d H af K L [.r 129 [.agg (cl A b d H af K L)] [aC 3 N],.r 130 [ag i,ag 0,ag 3000] [ag a],.l [(11000000,900011000,4),(11000003,900011003,8),(11000004,900011004,6),(11000005,900011005,5),(11000006,900011006,3)] [8,1,6,7,4] [10,4] (ar f16 0) (vr N a 1 M e c C E F G q 0 0) (.exit 0) (Oe a Q f g R S bb V r j k)])):
 al 16 [.agg (cl A b d H af K L),ag i] [.agg (cl Q f g R S bb V),ag a]:=
 h.of
def aaM(a b:Int)(q:Bool)(l:List O):List O:=.a .wr::.r 168 [ag a,ag 0,ag (IntKind.i64.wrap (b-1))] [ai q]::l
theorem X2(h:ad (aaM b a q [.n q true])):
 al 61 [.agg (bA A a c),ag b,ag d] [ag (-1)]:=
 h.of
def Qp(a b:Int)(q:Bool)(c:Int)(r:Bool)(l:List O):List O:=aaM a b q (.n q false::.a .wr::.r 168 [ag c,ag 0,ag (IntKind.i64.wrap (b-1))] [ai r]::l)
theorem X3(h:ad (Qp b a q c r [.n r true])):
 al 61 [.agg (bA A a d),ag b,ag c] [ag (-1)]:=
 h.of
theorem atz(h:ad (Qp b a q c r [.n r false,.b (decide (a<1)) true])):
 al 61 [.agg (bA A a d),ag b,ag c] [ag (-1)]:=
 h.of
theorem X4(h:ad (Qp b a q c r [.n r false,.b (decide (a<1)) false,.a .wr,.a .wr])):
 al 61 [.agg (bA A a d),ag b,ag c] [ag (IntKind.i64.wrap (IntKind.i64.wrap (b*a)+c))]:=
 h.of
def zX(A:ae)(a:Int)(C E:ae)(d e:Int)(F G H af:ae)(q:Bool)(b c:Int):aJ:=bj 32 [(1,dO 3 A),(4,aR 4),(6,aR 10),(7,aL.aI (bn.one (aB 11 1 C))),(8,a6 a)] [(10,[aB 900011000 4 E,au d,au e,aB 900011003 8 F,aB 900011004 6 G,aB 900011005 5 H,aB 900011006 3 af,.bg q]),(4,[.v (aQ),au b,au c,.v (aQ),.v (aQ),.v (aQ),.v (aQ)])]
def Qq(A:ae)(a b c d:Int)(C:ae)(e f:Int)(E F G H:ae)(q r:Bool)(af:ae)(g i:Int)(K L M N:ae)(s:Bool)(l:List O):List O:=.i A a [I b,I c,I d]::.a (.dp [some [D.J 4 C,I e,I f,D.J 8 E,D.J 6 F,D.J 5 G,D.J 3 H,B q],none] (aU.vals [ai r]))::.p (bW prog 128 [aN.ref [D.J 4 af,I g,I i,D.J 8 K,D.J 6 L,D.J 5 M,D.J 3 N,B s] [D.J 4 C,I e,I f,D.J 8 E,D.J 6 F,D.J 5 G,D.J 3 H,B q],aN.ro (.agg [I b,I c,I d])] (aU.vals [ai r]))::l
theorem atA(h:ad (Qq af a i j k C b c E F G H r q K d e L M N Q s [.g A [[B q]] 1,.h [[B q]],.u a])):
 a7 (ar f15 0) (zX af a A K d e L M N Q s f g) .normal (zX af (a+1) (A++[[B q]]) C b c E F G H r f g):=
 h.q' [(11000000,900011000,4),(11000003,900011003,8),(11000004,900011004,6),(11000005,900011005,5),(11000006,900011006,3)] [8,1,7,6,4] [10,4]
def Of(A C:ae)(b c:Int)(E F G H:ae)(q:Bool)(d a:Int):aJ:=bj 32 [(4,aR 4),(6,aR 10),(7,aL.aI (bn.one (aB 11 1 A)))] [(10,[aB 900011000 4 C,au b,au c,aB 900011003 8 E,aB 900011004 6 F,aB 900011005 5 G,aB 900011006 3 H,.bg q]),(4,[.v (aQ),au d,au a,.v (aQ),.v (aQ),.v (aQ),.v (aQ)])]
theorem atB(h:ad [.f af a false]):
 a7 (ar f15 0) (zX af a A C b c E F G H q d e) (.exit 0) (Of A C b c E F G H q d e):=
 h.aY [6,7,4] [10,4]
theorem atC(h:ad (Qo G b a A C E F q H c f R S bb V [.l [(11000000,900011000,4),(11000003,900011003,8),(11000004,900011004,6),(11000005,900011005,5),(11000006,900011006,3)] [8,1,7,6,4] [10,4] (ar f15 0) (zX X 0 [] G b a A C E F q 0 0) (.exit 0) (Of af K d e L M N Q r g i)])):
 al 15 [.agg (cl H c f R S bb V),aC 3 X] [.agg (cl K d e L M N Q),aC 1 af]:=
 h.of
theorem atD(h:ad (rN f C g i j k a A b c d e q [.n q true])):
 al 258 [.agg (bZ f C g i j k),.agg (aS m n o p l)] [.agg (bZ a A b c d e),ai false]:=
 h.of
theorem atE(h:ad (rN f C i j k l a A b c d e q [.n q false,.r 122 [.agg (aS m n o p g)] [ai r],.n r true])):
 al 258 [.agg (bZ f C i j k l),.agg (aS m n o p g)] [.agg (bZ a A b c d e),ai false]:=
 h.of
theorem atF(h:ad (rN f C i j k l b A a c d e q [.n q false,.r 122 [.agg (aS m n o p g)] [ai r],.n r false,.b (a==0) true])):
 al 258 [.agg (bZ f C i j k l),.agg (aS m n o p g)] [.agg (bZ b A a c d e),ai false]:=
 h.of
theorem atG(h:ad (rN f C i j k l c A a d b e q [.n q false,.r 122 [.agg (aS m n o p g)] [ai r],.n r false,.b (a==0) false,.b (decide (b>=1000000000)) true])):
 al 258 [.agg (bZ f C i j k l),.agg (aS m n o p g)] [.agg (bZ c A a d b e),ai false]:=
 h.of
theorem as7(h:ad (rN l C m n o p i A b j c k q [.n q false,.r 122 [.agg (aS d e f g a)] [ai r],.n r false,.b (b==0) false,.b (decide (c>=1000000000)) false,.g A [(aS d e f g a)] 40,.h [(aS d e f g a)],.v (b-1),.u c])):
 al 258 [.agg (bZ l C m n o p),.agg (aS d e f g a)] [.agg (bZ i (A++[(aS d e f g a)]) (b-1) j (c+1) k),ai true]:=
 h.of
theorem as8(h:ad (aaL A a b C E F G q [.a (.dp [some [D.J 4 H,I c,I d,D.J 8 af,D.J 6 K,D.J 5 L,D.J 3 M,B s],none] (aU.vals [ai r])),.p (bW prog 127 [aN.ro (.agg (cl N e f Q R S bb))] (aU.new [D.J 4 A,I a,I b,D.J 8 C,D.J 6 E,D.J 5 F,D.J 3 G,B q])),.p (bW prog 128 [aN.ref [D.J 4 A,I a,I b,D.J 8 C,D.J 6 E,D.J 5 F,D.J 3 G,B q] [D.J 4 H,I c,I d,D.J 8 af,D.J 6 K,D.J 5 L,D.J 3 M,B s],aN.ro (.agg [I g,I i,I j])] (aU.vals [ai r]))])):
 al 204 [.agg (cl N e f Q R S bb),.agg [I g,I i,I j]] [.agg (cl H c d af K L M),ai r]:=
 h.of
theorem as9(h:ad (rN f C g i j k c A d e a b q [.n q true])):
 al 260 [.agg (bZ f C g i j k)] [.agg (bZ c A d e a b),.agg (aS 0 0 0 0 0),ai false]:=
 h.of
theorem ata(h:ad (rN f C g i j k c A d e a b q [.n q false,.b ((A.length:Int)==0) true])):
 al 260 [.agg (bZ f C g i j k)] [.agg (bZ c A d e a b),.agg (aS 0 0 0 0 0),ai false]:=
 h.of
theorem atb(h:ad (rN f C m n o p d A e b c a q [.n q false,.b ((A.length:Int)==0) false,.p ((0:Int)<=0),.p (0<(A.length:Int)),.e A 0 (aS g i j k l),.p ((0:Int)<=(some (1:Int)).getD 0),.p ((some (1:Int)).getD 0<=none.getD (A.length:Int)),.p (none.getD (A.length:Int)<=(A.length:Int)),.g ([]:ae) (List.take (A.length-1) (List.drop 1 A)) 40,.h (List.take (A.length-1) (List.drop 1 A)),.u a,.u b])):
 al 260 [.agg (bZ f C m n o p)] [.agg (bZ d ([]++List.take (A.length-1) (List.drop 1 A)) e (b+1) c (a+1)),.agg (aS g i j k l),ai true]:=
 h.of
def Ds(A:ae)(a b c d e:Int)(l:List O):List O:=.r 61 [.agg (bA A a b),ag c,ag d] [ag e]::l
theorem atc(h:ad (Ds A a b c d e [.n q true])):
 b' 158 [aN.ref [D.J 4 A,I a,I b,D.J 8 C,D.J 6 E,D.J 5 F,D.J 3 G,B q] [D.J 4 A,I a,I b,D.J 8 C,D.J 6 E,D.J 5 F,D.J 3 G,B q],aN.ro (ag c),aN.ro (ag d)] (aU.vals [ai false]):=
 h.ca
theorem atd(h:ad (Ds A a b d e c [.n q false,.b (decide (c<0)) true])):
 b' 158 [aN.ref [D.J 4 A,I a,I b,D.J 8 C,D.J 6 E,D.J 5 F,D.J 3 G,B q] [D.J 4 A,I a,I b,D.J 8 C,D.J 6 E,D.J 5 F,D.J 3 G,B q],aN.ro (ag d),aN.ro (ag e)] (aU.vals [ai false]):=
 h.ca
def Dt(A:ae)(a b c d e:Int)(q:Bool)(l:List O):List O:=Ds A a b c d e (.n q false::.b (decide (e<0)) false::l)
theorem ate(h:ad (Dt A a b c d e q [.b (c==d) true])):
 b' 158 [aN.ref [D.J 4 A,I a,I b,D.J 8 C,D.J 6 E,D.J 5 F,D.J 3 G,B q] [D.J 4 A,I a,I b,D.J 8 C,D.J 6 E,D.J 5 F,D.J 3 G,B q],aN.ro (ag c),aN.ro (ag d)] (aU.vals [ai false]):=
 h.ca
theorem atf(h:ad (Dt C b i j k a q [.b (j==k) false,.a .sub,.x A a (bZ c E d e f g),.r 261 [.agg (bZ c E d e f g)] [.agg (bZ l F m n o p),ai r],.x A a (bZ c E d e f g)])):
 b' 158 [aN.ref [D.J 4 C,I b,I i,D.J 8 G,D.J 6 A,D.J 5 H,D.J 3 af,B q] [D.J 4 C,I b,I i,D.J 8 G,D.J 6 (A.set a.toNat (bZ l F m n o p)),D.J 5 H,D.J 3 af,B q],aN.ro (ag j),aN.ro (ag k)] (aU.vals [ai r]):=
 h.ca
def HO(A:ae)(a b:Int)(C E F G:ae)(q r:Bool)(H:ae)(c d:Int)(af K L M:ae)(s:Bool)(e:Int)(l:List O):List O:=.a (.dp [some [D.J 4 A,I a,I b,D.J 8 C,D.J 6 E,D.J 5 F,D.J 3 G,B q],none] (aU.vals [ai r]))::.p (bW prog 257 [aN.ref [D.J 4 H,I c,I d,D.J 8 af,D.J 6 K,D.J 5 L,D.J 3 M,B s] [D.J 4 A,I a,I b,D.J 8 C,D.J 6 E,D.J 5 F,D.J 3 G,B q],aN.ro (ag e)] (aU.vals [ai r]))::l
theorem X5(h:ad (HO G a b A C E F q r H c d af K L M s e [.n r true])):
 b' 171 [aN.ref [D.J 4 H,I c,I d,D.J 8 af,D.J 6 K,D.J 5 L,D.J 3 M,B s] [D.J 4 G,I a,I b,D.J 8 A,D.J 6 C,D.J 5 E,D.J 3 F,B q],aN.ro (ag e)] (aU.vals [ai false]):=
 h.ca
def Du(A:ae)(a b:Int)(C E F G:ae)(q r:Bool)(H:ae)(c d:Int)(af K L M:ae)(s:Bool)(e:Int)(N P Q R S bb V X:ae)(l:List O):List O:=HO A a b C E F G q r H c d af K L M s e (.n r false::.a .sub::.x C e (aW N P Q R S bb V X)::l)
theorem atg(h:ad (Du G a b A C E F q r H d e K L M N s c Q af R S bb V X Y [.b (decide ((af.length:Int)>0)) true])):
 b' 171 [aN.ref [D.J 4 H,I d,I e,D.J 8 K,D.J 6 L,D.J 5 M,D.J 3 N,B s] [D.J 4 G,I a,I b,D.J 8 A,D.J 6 C,D.J 5 E,D.J 3 F,B q],aN.ro (ag c)] (aU.vals [ai false]):=
 h.ca
def Dv(A:ae)(a b:Int)(C E F G:ae)(q r:Bool)(H:ae)(c d:Int)(af K L M:ae)(s:Bool)(e:Int)(N P Q R S bb V X:ae)(l:List O):List O:=Du A a b C E F G q r H c d af K L M s e N P Q R S bb V X (.b (decide ((P.length:Int)>0)) false::l)
theorem auJ(h:ad (Dv G a b A C E F q r H d e L M N Q s c af K R S bb V X Y [.b (decide ((af.length:Int)>0)) true])):
 b' 171 [aN.ref [D.J 4 H,I d,I e,D.J 8 L,D.J 6 M,D.J 5 N,D.J 3 Q,B s] [D.J 4 G,I a,I b,D.J 8 A,D.J 6 C,D.J 5 E,D.J 3 F,B q],aN.ro (ag c)] (aU.vals [ai false]):=
 h.ca
theorem auK(h:ad (Dv G a b A C E F q r H d e M N Q R s c af K L S bb V X Y [.b (decide ((af.length:Int)>0)) false,.b ((L.length:Int)==0) true])):
 b' 171 [aN.ref [D.J 4 H,I d,I e,D.J 8 M,D.J 6 N,D.J 5 Q,D.J 3 R,B s] [D.J 4 G,I a,I b,D.J 8 A,D.J 6 C,D.J 5 E,D.J 3 F,B q],aN.ro (ag c)] (aU.vals [ai false]):=
 h.ca
theorem auL(h:ad (Dv R b c C F G H q r S d e bb V X Y s a af E A K L M N Q [.b (decide ((af.length:Int)>0)) false,.b ((A.length:Int)==0) false,.p ((0:Int)<=0),.p (0<(A.length:Int)),.e A 0 (aS f g i j k),.p ((0:Int)<=(some (1:Int)).getD 0),.p ((some (1:Int)).getD 0<=none.getD (A.length:Int)),.p (none.getD (A.length:Int)<=(A.length:Int)),.g ([]:ae) (List.take (A.length-1) (List.drop 1 A)) 40,.h (List.take (A.length-1) (List.drop 1 A)),.x C a (aW af E A K L M N Q),.p (a.toNat=a.toNat),.p (a.toNat=a.toNat),.p (a.toNat=a.toNat),.p (a.toNat=a.toNat),.p (a.toNat=a.toNat),.p (a.toNat=a.toNat)])):
 b' 171 [aN.ref [D.J 4 S,I d,I e,D.J 8 bb,D.J 6 V,D.J 5 X,D.J 3 Y,B s] [D.J 4 R,I b,I c,D.J 8 (C.set a.toNat [D.J 5 [(aS f g i j k)],D.J 5 E,D.J 5 ([]++List.take (A.length-1) (List.drop 1 A)),D.J 4 K,D.J 1 L,D.J 1 M,D.J 1 N,D.J 2 Q]),D.J 6 F,D.J 5 G,D.J 3 H,B q],aN.ro (ag a)] (aU.vals [ai true]):=
 h.ca
theorem X6(h:ad [.b q true,.v ((A.length:Int)-1),.r 168 [ag c,ag 0,ag ((A.length:Int)-1)] [ai r]]):
 b' 257 [aN.ref [D.J 4 C,I a,I b,D.J 8 A,D.J 6 E,D.J 5 F,D.J 3 G,B q] [D.J 4 C,I a,I b,D.J 8 A,D.J 6 E,D.J 5 F,D.J 3 G,B q],aN.ro (ag c)] (aU.vals [ai r]):=
 h.ca
theorem auM(h:ad [.b q false]):
 b' 257 [aN.ref [D.J 4 A,I a,I b,D.J 8 C,D.J 6 E,D.J 5 F,D.J 3 G,B q] [D.J 4 A,I a,I b,D.J 8 C,D.J 6 E,D.J 5 F,D.J 3 G,B q],aN.ro (ag c)] (aU.vals [ai false]):=
 h.ca
theorem X7(h:ad (HO G a b A C E F q r H c d af K L M s e [.n r true])):
 b' 151 [aN.ref [D.J 4 H,I c,I d,D.J 8 af,D.J 6 K,D.J 5 L,D.J 3 M,B s] [D.J 4 G,I a,I b,D.J 8 A,D.J 6 C,D.J 5 E,D.J 3 F,B q],aN.ro (ag e)] (aU.vals [ai false]):=
 h.ca
theorem auN(h:ad (Du G a b A C E F q r H d e K L M N s c Q af R S bb V X Y [.b ((af.length:Int)==0) true])):
 b' 151 [aN.ref [D.J 4 H,I d,I e,D.J 8 K,D.J 6 L,D.J 5 M,D.J 3 N,B s] [D.J 4 G,I a,I b,D.J 8 A,D.J 6 C,D.J 5 E,D.J 3 F,B q],aN.ro (ag c)] (aU.vals [ai false]):=
 h.ca
def Qg(A:ae)(a b:Int)(C E F G:ae)(q r:Bool)(H:ae)(c d:Int)(af K L M:ae)(s:Bool)(e:Int)(N P Q R S bb V X:ae)(f g i j k m:Int)(l:List O):List O:=Du A a b C E F G q r H c d af K L M s e N P Q R S bb V X (.b ((P.length:Int)==0) false::.a .sub::.x C e (aW N P Q R S bb V X)::.p ((0:Int)<=0)::.p (0<(P.length:Int))::.e P 0 (aS f g i j k)::.r 245 [ag j,ag a] [ag m]::l)
theorem auO(h:ad (Qg F b c A E G H q r af f g bb X Y Z t a K C L M N Q R S i j k d l e [.b (e != a) true,.r 61 [.agg (bA F b c),ag a,ag e] [ag m],.a .sub,.x E m (bZ n V o p a0 bX),.r 258 [.agg (bZ n V o p a0 bX),.agg (aS i j k d l)] [.agg (bZ cO c7 d0 bu f0 i0),ai s],.n s true])):
 b' 151 [aN.ref [D.J 4 af,I f,I g,D.J 8 bb,D.J 6 X,D.J 5 Y,D.J 3 Z,B t] [D.J 4 F,I b,I c,D.J 8 A,D.J 6 E,D.J 5 G,D.J 3 H,B q],aN.ro (ag a)] (aU.vals [ai false]):=
 h.ca
theorem auP(h:ad (Qg H b c C E af K q r dZ p a0 kj kk rT rU u a ei F e7 e8 e9 ey jW jD bX e cO f d0 g [.b (g != a) true,.r 61 [.agg (bA H b c),ag a,ag g] [ag d],.a .sub,.x E d (bZ i L j k l m),.r 258 [.agg (bZ i L j k l m),.agg (aS bX e cO f d0)] [.agg (bZ bu kl f0 i0 j0 cX),ai t],.n t false,.x E d (bZ i L j k l m),.a (.dp [some [D.J 4 M,I n,I o,D.J 8 G,D.J 6 N,D.J 5 Q,D.J 3 R,B s],none,none,none] (aU.vals [])),.a .sub,.p (bW prog 259 [aN.ref [D.J 4 H,I b,I c,D.J 8 C,D.J 6 (E.set d.toNat (bZ bu kl f0 i0 j0 cX)),D.J 5 af,D.J 3 K,B q] [D.J 4 M,I n,I o,D.J 8 G,D.J 6 N,D.J 5 Q,D.J 3 R,B s],aN.ro (ag a),aN.ro (ag e),aN.ro (ag 1)] (aU.vals [])),.x G a (aW S A bb V X Y Z c7),.p ((0:Int)<=(some (1:Int)).getD 0),.p ((some (1:Int)).getD 0<=none.getD (A.length:Int)),.p (none.getD (A.length:Int)<=(A.length:Int)),.g ([]:ae) (List.take (A.length-1) (List.drop 1 A)) 40,.h (List.take (A.length-1) (List.drop 1 A)),.x G a (aW S A bb V X Y Z c7)])):
 b' 151 [aN.ref [D.J 4 dZ,I p,I a0,D.J 8 kj,D.J 6 kk,D.J 5 rT,D.J 3 rU,B u] [D.J 4 M,I n,I o,D.J 8 (G.set a.toNat (aW S ([]++List.take (A.length-1) (List.drop 1 A)) bb V X Y Z c7)),D.J 6 N,D.J 5 Q,D.J 3 R,B s],aN.ro (ag a)] (aU.vals [ai true]):=
 h.ca
theorem auQ(h:ad (Qg dZ g i A N Q R q r ei j k e7 e8 e9 ey s a C E F G H af K L c d e b f l [.b (l != a) false,.a .sub,.x A a (aW C E F G H af K L),.g C [(aS c d e b f)] 40,.e A a.toNat (aW C E F G H af K L),.p ((aW C E F G H af K L)[0]?=some (D.J 5 C)),.h [(aS c d e b f)],.p (A=A),.p (A=A),.p (A=A),.p (A=A),.p (A=A),.p (A=A),.p (A=A),.p (A=A),.p (A=A),.p (A=A),.p (A=A),.p (a.toNat=a.toNat),.p (C=C),.x A a (aW C E F G H af K L),.a .sub,.p (a.toNat=a.toNat),.p (0<=a),.p (a<(↑(A.set a.toNat (aW (C++[(aS c d e b f)]) E F G H af K L)).length:Int)),.e (A.set a.toNat (aW (C++[(aS c d e b f)]) E F G H af K L)) a.toNat (aW S M bb V X Y Z c7),.p ((0:Int)<=(some (1:Int)).getD 0),.p ((some (1:Int)).getD 0<=none.getD (M.length:Int)),.p (none.getD (M.length:Int)<=(M.length:Int)),.g ([]:ae) (List.take (M.length-1) (List.drop 1 M)) 40,.h (List.take (M.length-1) (List.drop 1 M)),.p (0<=a),.p (a<(↑(A.set a.toNat (aW (C++[(aS c d e b f)]) E F G H af K L)).length:Int)),.e (A.set a.toNat (aW (C++[(aS c d e b f)]) E F G H af K L)) a.toNat (aW S M bb V X Y Z c7)])):
 b' 151 [aN.ref [D.J 4 ei,I j,I k,D.J 8 e7,D.J 6 e8,D.J 5 e9,D.J 3 ey,B s] [D.J 4 dZ,I g,I i,D.J 8 ((A.set a.toNat (aW (C++[(aS c d e b f)]) E F G H af K L)).set a.toNat (aW S ([]++List.take (M.length-1) (List.drop 1 M)) bb V X Y Z c7)),D.J 6 N,D.J 5 Q,D.J 3 R,B q],aN.ro (ag a)] (aU.vals [ai true]):=
 h.ca
theorem auR(h:ad [.a .sub,.x L a (aW C E F G A H af K),.a .sub,.x L a (aW C E F G A H af K),.x A b [I d],.v (d+c),.x A b [I i],.e L a.toNat (aW C E F G A H af K),.p (a.toNat=a.toNat),.p (a.toNat=a.toNat),.p (a.toNat=a.toNat),.p (a.toNat=a.toNat),.b r true,.a .sub,.p (0<=a),.p (a<(↑(L.set a.toNat (aW C E F G (A.set b.toNat [I (d+c)]) H af K)).length:Int)),.e (L.set a.toNat (aW C E F G (A.set b.toNat [I (d+c)]) H af K)) a.toNat (aW C E F G (A.set b.toNat [I (d+c)]) H af K),.x (A.set b.toNat [I (d+c)]) b [I g],.r 168 [ag g,ag (-1000000),ag 1000000] [ai q]]):
 b' 259 [aN.ref [D.J 4 M,I e,I f,D.J 8 L,D.J 6 N,D.J 5 Q,D.J 3 R,B r] [D.J 4 M,I e,I f,D.J 8 (L.set a.toNat (aW C E F G (A.set b.toNat [I (d+c)]) H af K)),D.J 6 N,D.J 5 Q,D.J 3 R,B q],aN.ro (ag a),aN.ro (ag b),aN.ro (ag c)] (aU.vals []):=
 h.ca
theorem auS(h:ad (Ds A a b c d e [.n q true])):
 b' 156 [aN.ref [D.J 4 A,I a,I b,D.J 8 C,D.J 6 E,D.J 5 F,D.J 3 G,B q] [D.J 4 A,I a,I b,D.J 8 C,D.J 6 E,D.J 5 F,D.J 3 G,B q],aN.ro (ag c),aN.ro (ag d)] (aU.vals [ai false]):=
 h.ca
theorem auT(h:ad (Ds A a b d e c [.n q false,.b (decide (c<0)) true])):
 b' 156 [aN.ref [D.J 4 A,I a,I b,D.J 8 C,D.J 6 E,D.J 5 F,D.J 3 G,B q] [D.J 4 A,I a,I b,D.J 8 C,D.J 6 E,D.J 5 F,D.J 3 G,B q],aN.ro (ag d),aN.ro (ag e)] (aU.vals [ai false]):=
 h.ca
theorem auU(h:ad (Dt A a b c d e q [.b (c==d) true])):
 b' 156 [aN.ref [D.J 4 A,I a,I b,D.J 8 C,D.J 6 E,D.J 5 F,D.J 3 G,B q] [D.J 4 A,I a,I b,D.J 8 C,D.J 6 E,D.J 5 F,D.J 3 G,B q],aN.ro (ag c),aN.ro (ag d)] (aU.vals [ai false]):=
 h.ca
theorem auV(h:ad (Dt A a c d e b q [.b (d==e) false,.a .sub,.x C b (bZ f E g i j k),.r 260 [.agg (bZ f E g i j k)] [.agg (bZ l af m n o p),.agg (aS a0 bX cO d0 bu),ai r],.n r true])):
 b' 156 [aN.ref [D.J 4 A,I a,I c,D.J 8 F,D.J 6 C,D.J 5 G,D.J 3 H,B q] [D.J 4 A,I a,I c,D.J 8 F,D.J 6 C,D.J 5 G,D.J 3 H,B q],aN.ro (ag d),aN.ro (ag e)] (aU.vals [ai false]):=
 h.ca
theorem auW(h:ad (Dt Q i o bX a g r [.b (bX==a) false,.a .sub,.x M g (bZ j R k l m n),.r 260 [.agg (bZ j R k l m n)] [.agg (bZ cO ey d0 bu f0 i0),.agg (aS c b d e f),ai s],.n s false,.x M g (bZ j R k l m n),.a .sub,.x A a (aW C E F G H af K L),.g C [(aS c b d e f)] 40,.e A a.toNat (aW C E F G H af K L),.p ((aW C E F G H af K L)[0]?=some (D.J 5 C)),.h [(aS c b d e f)],.p (A=A),.p (A=A),.p (A=A),.p (A=A),.p (A=A),.p (a.toNat=a.toNat),.p (C=C),.x A a (aW C E F G H af K L),.a .sub,.p (a.toNat=a.toNat),.p (0<=a),.p (a<(↑(A.set a.toNat (aW (C++[(aS c b d e f)]) E F G H af K L)).length:Int)),.e (A.set a.toNat (aW (C++[(aS c b d e f)]) E F G H af K L)) a.toNat (aW S bb V X Y N Z c7),.x N b [B t],.e (A.set a.toNat (aW (C++[(aS c b d e f)]) E F G H af K L)) a.toNat (aW S bb V X Y N Z c7),.a (.dp [some [D.J 4 dZ,I p,I a0,D.J 8 ei,D.J 6 e7,D.J 5 e8,D.J 3 e9,B q],none,none,none] (aU.vals [])),.p (a.toNat=a.toNat),.p (a.toNat=a.toNat),.p (bW prog 259 [aN.ref [D.J 4 Q,I i,I o,D.J 8 ((A.set a.toNat (aW (C++[(aS c b d e f)]) E F G H af K L)).set a.toNat (aW S bb V X Y (N.set b.toNat [B true]) Z c7)),D.J 6 (M.set g.toNat (bZ cO ey d0 bu f0 i0)),D.J 5 jW,D.J 3 jD,B r] [D.J 4 dZ,I p,I a0,D.J 8 ei,D.J 6 e7,D.J 5 e8,D.J 3 e9,B q],aN.ro (ag a),aN.ro (ag b),aN.ro (ag (-1))] (aU.vals []))])):
 b' 156 [aN.ref [D.J 4 Q,I i,I o,D.J 8 A,D.J 6 M,D.J 5 jW,D.J 3 jD,B r] [D.J 4 dZ,I p,I a0,D.J 8 ei,D.J 6 e7,D.J 5 e8,D.J 3 e9,B q],aN.ro (ag bX),aN.ro (ag a)] (aU.vals [ai true]):=
 h.ca
theorem X8(h:ad (HO G a b A C E F q r H c d af K L M s e [.n r true])):
 b' 170 [aN.ref [D.J 4 H,I c,I d,D.J 8 af,D.J 6 K,D.J 5 L,D.J 3 M,B s] [D.J 4 G,I a,I b,D.J 8 A,D.J 6 C,D.J 5 E,D.J 3 F,B q],aN.ro (ag e)] (aU.vals [ai false]):=
 h.ca
theorem auX(h:ad (Du G a b A C E F q r H d e K L M N s c Q af R S bb V X Y [.b (decide ((af.length:Int)>0)) true])):
 b' 170 [aN.ref [D.J 4 H,I d,I e,D.J 8 K,D.J 6 L,D.J 5 M,D.J 3 N,B s] [D.J 4 G,I a,I b,D.J 8 A,D.J 6 C,D.J 5 E,D.J 3 F,B q],aN.ro (ag c)] (aU.vals [ai false]):=
 h.ca
theorem auY(h:ad (Dv G a b A C E F q r H d e L M N Q s c af K R S bb V X Y [.b ((af.length:Int)==0) true])):
 b' 170 [aN.ref [D.J 4 H,I d,I e,D.J 8 L,D.J 6 M,D.J 5 N,D.J 3 Q,B s] [D.J 4 G,I a,I b,D.J 8 A,D.J 6 C,D.J 5 E,D.J 3 F,B q],aN.ro (ag c)] (aU.vals [ai false]):=
 h.ca
def aaG(A:ae)(a b:Int)(C E F G:ae)(q r:Bool)(H:ae)(c d:Int)(af K L M:ae)(s:Bool)(e:Int)(N P Q R S bb V X:ae)(f g i j k:Int)(Y Z:ae)(t u:Bool)(l:List O):List O:=Dv A a b C E F G q r H c d af K L M s e N P Q R S bb V X (.b ((N.length:Int)==0) false::.p ((0:Int)<=0)::.p (0<(N.length:Int))::.e N 0 (aS f g i j k)::.r 176 [.agg (bA A a b),aC 4 R,.agg (aS f g i j k)] [aC 4 Y,aC 5 Z,ai t]::.p ((0:Int)<=(some (1:Int)).getD 0)::.p ((some (1:Int)).getD 0<=none.getD (N.length:Int))::.p (none.getD (N.length:Int)<=(N.length:Int))::.g ([]:ae) (List.take (N.length-1) (List.drop 1 N)) 40::.h (List.take (N.length-1) (List.drop 1 N))::.r 177 [.agg (bA A a b),.agg (aS f g i j k)] [ai u]::l)
theorem auZ(h:ad (aaG M c d E N Q R q r S j k bb Y Z c7 t a A F G H af K C L e b f g i V X u s [.b s true,.x C b [B v],.e E a.toNat (aW A F G H af K C L),.p (a.toNat=a.toNat),.p (a.toNat=a.toNat),.p (a.toNat=a.toNat),.p (a.toNat=a.toNat),.x (E.set a.toNat (aW A F G H af K (C.set b.toNat [B true]) L)) a (aW A F G H af K (C.set b.toNat [B true]) L),.p (a.toNat=a.toNat),.p (a.toNat=a.toNat),.p (a.toNat=a.toNat),.p (a.toNat=a.toNat),.p (a.toNat=a.toNat)])):
 b' 170 [aN.ref [D.J 4 S,I j,I k,D.J 8 bb,D.J 6 Y,D.J 5 Z,D.J 3 c7,B t] [D.J 4 M,I c,I d,D.J 8 ((E.set a.toNat (aW A F G H af K (C.set b.toNat [B true]) L)).set a.toNat (aW ([]++List.take (A.length-1) (List.drop 1 A)) X G V af K (C.set b.toNat [B true]) L)),D.J 6 N,D.J 5 Q,D.J 3 R,B q],aN.ro (ag a)] (aU.vals [ai true]):=
 h.ca
theorem au0(h:ad (aaG E b c C F G H q r S j k bb Y Z c7 t a A af K L M N Q R d e f g i V X u s [.b s false,.x C a (aW A af K L M N Q R),.p (a.toNat=a.toNat),.p (a.toNat=a.toNat),.p (a.toNat=a.toNat),.p (a.toNat=a.toNat),.p (a.toNat=a.toNat)])):
 b' 170 [aN.ref [D.J 4 S,I j,I k,D.J 8 bb,D.J 6 Y,D.J 5 Z,D.J 3 c7,B t] [D.J 4 E,I b,I c,D.J 8 (C.set a.toNat (aW ([]++List.take (A.length-1) (List.drop 1 A)) X K V M N Q R)),D.J 6 F,D.J 5 G,D.J 3 H,B q],aN.ro (ag a)] (aU.vals [ai true]):=
 h.ca
theorem au1(h:ad [.b (e==1) true,.a (.dp [some [D.J 4 A,I a,I b,D.J 8 C,D.J 6 E,D.J 5 F,D.J 3 G,B q],none] (aU.vals [ai r])),.p (bW prog 170 [aN.ref [D.J 4 H,I c,I d,D.J 8 af,D.J 6 K,D.J 5 L,D.J 3 M,B s] [D.J 4 A,I a,I b,D.J 8 C,D.J 6 E,D.J 5 F,D.J 3 G,B q],aN.ro (ag f)] (aU.vals [ai r]))]):
 b' 128 [aN.ref [D.J 4 H,I c,I d,D.J 8 af,D.J 6 K,D.J 5 L,D.J 3 M,B s] [D.J 4 A,I a,I b,D.J 8 C,D.J 6 E,D.J 5 F,D.J 3 G,B q],aN.ro (.agg [I e,I f,I g])] (aU.vals [ai r]):=
 h.ca
theorem au2(h:ad (Qk c [.b (c==2) true,.a (.dp [some [D.J 4 A,I a,I b,D.J 8 C,D.J 6 E,D.J 5 F,D.J 3 G,B q],none] (aU.vals [ai r])),.p (bW prog 171 [aN.ref [D.J 4 H,I d,I e,D.J 8 af,D.J 6 K,D.J 5 L,D.J 3 M,B s] [D.J 4 A,I a,I b,D.J 8 C,D.J 6 E,D.J 5 F,D.J 3 G,B q],aN.ro (ag f)] (aU.vals [ai r]))])):
 b' 128 [aN.ref [D.J 4 H,I d,I e,D.J 8 af,D.J 6 K,D.J 5 L,D.J 3 M,B s] [D.J 4 A,I a,I b,D.J 8 C,D.J 6 E,D.J 5 F,D.J 3 G,B q],aN.ro (.agg [I c,I f,I g])] (aU.vals [ai r]):=
 h.ca
theorem au3(h:ad (Ql a [.b (a==3) true,.a (.dp [some [D.J 4 A,I b,I c,D.J 8 C,D.J 6 E,D.J 5 F,D.J 3 G,B q],none] (aU.vals [ai r])),.p (bW prog 151 [aN.ref [D.J 4 H,I d,I e,D.J 8 af,D.J 6 K,D.J 5 L,D.J 3 M,B s] [D.J 4 A,I b,I c,D.J 8 C,D.J 6 E,D.J 5 F,D.J 3 G,B q],aN.ro (ag f)] (aU.vals [ai r]))])):
 b' 128 [aN.ref [D.J 4 H,I d,I e,D.J 8 af,D.J 6 K,D.J 5 L,D.J 3 M,B s] [D.J 4 A,I b,I c,D.J 8 C,D.J 6 E,D.J 5 F,D.J 3 G,B q],aN.ro (.agg [I a,I f,I g])] (aU.vals [ai r]):=
 h.ca
theorem au4(h:ad (Qm a [.b (a==4) true,.a (.dp [some [D.J 4 A,I b,I c,D.J 8 C,D.J 6 E,D.J 5 F,D.J 3 G,B q],none,none] (aU.vals [ai r])),.p (bW prog 156 [aN.ref [D.J 4 H,I d,I f,D.J 8 af,D.J 6 K,D.J 5 L,D.J 3 M,B s] [D.J 4 A,I b,I c,D.J 8 C,D.J 6 E,D.J 5 F,D.J 3 G,B q],aN.ro (ag g),aN.ro (ag e)] (aU.vals [ai r]))])):
 b' 128 [aN.ref [D.J 4 H,I d,I f,D.J 8 af,D.J 6 K,D.J 5 L,D.J 3 M,B s] [D.J 4 A,I b,I c,D.J 8 C,D.J 6 E,D.J 5 F,D.J 3 G,B q],aN.ro (.agg [I a,I g,I e])] (aU.vals [ai r]):=
 h.ca
theorem au5(h:ad (Qn a [.b (a==5) true,.a (.dp [some [D.J 4 A,I b,I c,D.J 8 C,D.J 6 E,D.J 5 F,D.J 3 G,B q],none,none] (aU.vals [ai r])),.p (bW prog 158 [aN.ref [D.J 4 H,I d,I f,D.J 8 af,D.J 6 K,D.J 5 L,D.J 3 M,B s] [D.J 4 A,I b,I c,D.J 8 C,D.J 6 E,D.J 5 F,D.J 3 G,B q],aN.ro (ag g),aN.ro (ag e)] (aU.vals [ai r]))])):
 b' 128 [aN.ref [D.J 4 H,I d,I f,D.J 8 af,D.J 6 K,D.J 5 L,D.J 3 M,B s] [D.J 4 A,I b,I c,D.J 8 C,D.J 6 E,D.J 5 F,D.J 3 G,B q],aN.ro (.agg [I a,I g,I e])] (aU.vals [ai r]):=
 h.ca
theorem au6(h:ad (Ai a [.b (a==6) true,.a (.dp [some [D.J 4 A,I b,I c,D.J 8 C,D.J 6 E,D.J 5 F,D.J 3 G,B q],none] (aU.vals [ai r])),.p (bW prog 246 [aN.ref [D.J 4 H,I d,I e,D.J 8 af,D.J 6 K,D.J 5 L,D.J 3 M,B s] [D.J 4 A,I b,I c,D.J 8 C,D.J 6 E,D.J 5 F,D.J 3 G,B q],aN.ro (ag f)] (aU.vals [ai r]))])):
 b' 128 [aN.ref [D.J 4 H,I d,I e,D.J 8 af,D.J 6 K,D.J 5 L,D.J 3 M,B s] [D.J 4 A,I b,I c,D.J 8 C,D.J 6 E,D.J 5 F,D.J 3 G,B q],aN.ro (.agg [I a,I f,I g])] (aU.vals [ai r]):=
 h.ca
theorem au7(h:ad (Ai a [.b (a==6) false,.b (a==7) true,.a (.dp [some [D.J 4 A,I b,I c,D.J 8 C,D.J 6 E,D.J 5 F,D.J 3 G,B q],none] (aU.vals [ai r])),.p (bW prog 247 [aN.ref [D.J 4 H,I d,I e,D.J 8 af,D.J 6 K,D.J 5 L,D.J 3 M,B s] [D.J 4 A,I b,I c,D.J 8 C,D.J 6 E,D.J 5 F,D.J 3 G,B q],aN.ro (ag f)] (aU.vals [ai r]))])):
 b' 128 [aN.ref [D.J 4 H,I d,I e,D.J 8 af,D.J 6 K,D.J 5 L,D.J 3 M,B s] [D.J 4 A,I b,I c,D.J 8 C,D.J 6 E,D.J 5 F,D.J 3 G,B q],aN.ro (.agg [I a,I f,I g])] (aU.vals [ai r]):=
 h.ca
theorem au8(h:ad (Ai a [.b (a==6) false,.b (a==7) false])):
 b' 128 [aN.ref [D.J 4 A,I b,I c,D.J 8 C,D.J 6 E,D.J 5 F,D.J 3 G,B q] [D.J 4 A,I b,I c,D.J 8 C,D.J 6 E,D.J 5 F,D.J 3 G,B q],aN.ro (.agg [I a,I e,I d])] (aU.vals [ai false]):=
 h.ca
def xU(A:ae)(a b:Int)(C:ae)(c d:Int)(E F G H:ae)(q:Bool):aJ:=bj 22 [(0,aR 1000000000),(1,.aI (.one (.dw 1000000200 3 A))),(5,a6 b),(6,a6 a)] [(1000000000,[aB 950001000 4 C,au c,au d,aB 950001003 8 E,aB 950001004 6 F,aB 950001005 5 G,aB 950001006 3 H,.bg q])]
theorem aui(h:ad (Qq H a g i j A c d C E F G q r af e f K L M N s [.b r true,.u b,.u a])):
 a7 (ar f131 0) (xU H a b af e f K L M N s) .normal (xU H (a+1) (b+1) A c d C E F G q):=
 h.q' [(1000000001000000,950001000,4),(1000000001000003,950001003,8),(1000000001000004,950001004,6),(1000000001000005,950001005,5),(1000000001000006,950001006,3)] [6,1,0,5] [1000000000]
theorem auj(h:ad (Qq H a g i j A b c C E F G q r af e f K L M N s [.b r false,.u a])):
 a7 (ar f131 0) (xU H a d af e f K L M N s) .normal (xU H (a+1) d A b c C E F G q):=
 h.q' [(1000000001000000,950001000,4),(1000000001000003,950001003,8),(1000000001000004,950001004,6),(1000000001000005,950001005,5),(1000000001000006,950001006,3)] [6,1,0,5] [1000000000]
def X9(a:Int)(A:ae)(b c:Int)(C E F G:ae)(q:Bool):aJ:=bj 22 [(0,aR 1000000000),(5,a6 a)] [(1000000000,[aB 950001000 4 A,au b,au c,aB 950001003 8 C,aB 950001004 6 E,aB 950001005 5 F,aB 950001006 3 G,.bg q])]
theorem auk(h:ad [.f H d false]):
 a7 (ar f131 0) (xU H d a A b c C E F G q) (.exit 0) (X9 a A b c C E F G q):=
 h.aY [5,0] [1000000000]
theorem aul(h:ad [.l [(1000000001000000,950001000,4),(1000000001000003,950001003,8),(1000000001000004,950001004,6),(1000000001000005,950001005,5),(1000000001000006,950001006,3)] [6,1,0,5] [1000000000] (ar f131 0) (xU N 0 0 A a d af K L M r) (.exit 0) (X9 e C b c E F G H q)]):
 b' 131 [aN.ref [D.J 4 A,I a,I d,D.J 8 af,D.J 6 K,D.J 5 L,D.J 3 M,B r] [D.J 4 C,I b,I c,D.J 8 E,D.J 6 F,D.J 5 G,D.J 3 H,B q],aN.ro (aC 3 N)] (aU.vals [ag e]):=
 h.ca
