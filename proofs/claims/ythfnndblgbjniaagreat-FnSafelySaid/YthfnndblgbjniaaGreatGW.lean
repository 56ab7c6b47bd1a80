import Derived.Test.YthfnndblgbjniaaGreatGE
namespace Go.Proofs.YthfnndblgbjniaaGreat
open Go.Sx Go.RowKit Go.Proofs.Tryz
variable {a b c d e f g i j k l m n o p a0 b8 c9 d0 bE f0 i0 j0 dw dn m0 mA : Int} {A C E F G H aj K L M N Q R S bc V X Y Z dz dD e6 il fD hN fK im fL iE fM H1 eU w6 jD Bf mj Bg nF Bh nG EZ nI E0 sr E1 ss ve w8 y4 mR Jw Jx Jy : af} {q r s t u v : Bool}
def sg(a:Int)(A:af)(b c d e f:Int)(C:af)(g i j k:Int)(q:Bool)(l:List O):List O:=.r 140 [.agg (bU a A b c d e)] [.agg (bU f C g i j k)]::.r 71 [.agg (bU a A b c d e)] [ak q]::l
theorem avd(h:ad (sg a A b c d e i C j k f g q [.n q true])):
 ar 134 [.agg (bU a A b c d e)] [.agg (bU i C j k f g),ak false]:=
 h.of
theorem ave(h:ad (sg b A c a d e i C j k f g q [.n q false,.b (a==0) true])):
 ar 134 [.agg (bU b A c a d e)] [.agg (bU i C j k f g),ak false]:=
 h.of
theorem avf(h:ad (sg b A c a d e k C f g i j q [.n q false,.b (a==0) false,.v (g-1),.u f])):
 ar 134 [.agg (bU b A c a d e)] [.agg (bU k C (f+1) (g-1) i j),ak true]:=
 h.of
def Jc(A C E F G H aj K L M N P Q R S bc:af)(l:List O):List O:=.r 139 [.agg (aX A C E F G H aj K)] [.agg (aX L M N P Q R S bc)]::l
theorem avg(h:ad (Jc C E M Q R S bc V A F G H aj K L N [.g A [(bi d e a b c)] 40,.h [(bi d e a b c)]])):
 ar 127 [.agg (aX C E M Q R S bc V),.agg (bi d e a b c)] [.agg (aX (A++[(bi d e a b c)]) F G H aj K L N)]:=
 h.of
theorem avh(h:ad [.b (decide ((if b<a then b else a)<0)) true]):
 ar 128 [.agg (bz A c d),ae a,ae b] [ae (-1)]:=
 h.of
theorem avi(h:ad [.b (decide ((if b<a then b else a)<0)) false,.b (decide ((if b>a then b else a)>=c)) true]):
 ar 128 [.agg (bz A c d),ae a,ae b] [ae (-1)]:=
 h.of
theorem avj(h:ad [.b (decide ((if b<a then b else a)<0)) false,.b (decide ((if b>a then b else a)>=c)) false,.v (a*c),.v (a*c+b)]):
 ar 128 [.agg (bz A c d),ae a,ae b] [ae (a*c+b)]:=
 h.of
def acf(A:af)(a b:Int)(C E F G H:af)(c d:Int)(aj K L M:af)(l:List O):List O:=.r 95 [.agg (cl A a b C E F G)] [.agg (cl H c d aj K L M)]::l
def EF(A:af)(a b:Int)(C E F G H:af)(c d:Int)(aj K L M:af)(e f g:Int)(l:List O):List O:=acf A a b C E F G H c d aj K L M (.r 131 [.agg (cl A a b C E F G),ae e,ae f] [ae g]::l)
theorem Zy(h:ad (EF A a b C E F G M c d H aj K L f g e [.b (decide (e<0)) true])):
 ar 92 [.agg (cl A a b C E F G),ae f,ae g] [.agg (cl M c d H aj K L),ak false]:=
 h.of
theorem avk{C:af}{b c:Int}{F A G H:af}{a0 b8:Int}{Q:af}{d e:Int}{aj E K L:af}{a f:Int}{M:af}{g i j k l:Int}{N:af}{m n o p:Int}{q:Bool}{d30 d31 d32 d33 d34 d35:D}(h:ad (EF C b c F A G H Q d e aj E K L a0 b8 a [.b (decide (a<0)) false,.x A a (bU f M g i j k),.r 134 [.agg (bU f M g i j k)] [.agg (bU l N m n o p),ak q],.x E a [d30,d31,d32,d33,d34,d35]])):
 ar 92 [.agg (cl C b c F A G H),ae a0,ae b8] [.agg (cl Q d e aj (E.set a.toNat (bU l N m n o p)) K L),ak q]:=
 h.of
def u7(A:af)(a b:Int)(C E F G H:af)(c d:Int)(aj K L M:af)(e:Int)(q:Bool)(l:List O):List O:=acf A a b C E F G H c d aj K L M (.r 123 [.agg (cl A a b C E F G),ae e] [ak q]::l)
theorem Zz(h:ad (u7 A a b C E F G M e c H aj K L d q [.n q true])):
 ar 89 [.agg (cl A a b C E F G),ae d] [.agg (cl M e c H aj K L),ak false]:=
 h.of
theorem avl{A:af}{b c:Int}{C F G H:af}{a:Int}{eU:af}{e d:Int}{E aj K L:af}{q:Bool}{M N Q R S bc V X Y Z dz e6 fD fK fL fM:af}{r:Bool}{d33 d34 d35 d36 d37 d38 d39 d40:D}(h:ad (u7 A b c C F G H eU e d E aj K L a q [.n q false,.x C a (aX M N Q R S bc V X),.r 125 [.agg (bz A b c),.agg (aX M N Q R S bc V X)] [.agg (aX Y Z dz e6 fD fK fL fM),ak r],.x E a [d33,d34,d35,d36,d37,d38,d39,d40]])):
 ar 89 [.agg (cl A b c C F G H),ae a] [.agg (cl eU e d (E.set a.toNat (aX Y Z dz e6 fD fK fL fM)) aj K L),ak r]:=
 h.of
theorem ZA(h:ad (u7 A a b C E F G M e c H aj K L d q [.n q true])):
 ar 90 [.agg (cl A a b C E F G),ae d] [.agg (cl M e c H aj K L),ak false]:=
 h.of
theorem avm(h:ad (u7 C a b A E F G N e d H aj K L c q [.n q false,.x A c (aX Q M R S bc V X Y),.b ((M.length:Int)==0) true])):
 ar 90 [.agg (cl C a b A E F G),ae c] [.agg (cl N e d H aj K L),ak false]:=
 h.of
def EH(A:af)(a b:Int)(C E F G H:af)(c d:Int)(aj K L M:af)(e:Int)(q:Bool)(N P Q R S bc V X Y Z dD il hN im iE H1 w6 Bf Bg Bh EZ E0 E1 acG:af)(f g i j k:Int)(r:Bool)(m:Int)(l:List O):List O:=u7 A a b C E F G H c d aj K L M e q (.n q false::.x C e (aX N P Q R S bc V X)::.b ((P.length:Int)==0) false::.x C e (aX Y Z dD il hN im iE H1)::.r 126 [.agg (aX Y Z dD il hN im iE H1)] [.agg (aX w6 Bf Bg Bh EZ E0 E1 acG),.agg (bi f g i j k),ak r]::.r 84 [ae j,ae a] [ae m]::l)
theorem avn(h:ad (EH C b c A F G H w8 l e E aj K L a q y4 M mR Jw Jx Jy dD il N Q R S bc V X Y Z dz e6 fD fK fL fM eU f g i d j r k [.b (k==a) true,.r 127 [.agg (aX Z dz e6 fD fK fL fM eU),.agg (bi f g i d j)] [.agg (aX jD mj nF nG nI sr ss ve)],.x E a (aX hN im iE H1 w6 Bf Bg Bh)])):
 ar 90 [.agg (cl C b c A F G H),ae a] [.agg (cl w8 l e (E.set a.toNat (aX jD mj nF nG nI sr ss ve)) aj K L),ak true]:=
 h.of
theorem avo(h:ad (EH C b c A E F G dz b8 f H aj K L a q e6 M fD fK fL fM eU jD N Q R S bc V X Y mj nF nG nI sr ss ve w8 g i j d k s e [.b (e==a) false,.r 128 [.agg (bz C b c),ae a,ae e] [ae l],.x E l (bU m Z n o p a0),.r 129 [.agg (bU m Z n o p a0),.agg (bi g i j d k)] [.agg (bU c9 y4 d0 bE f0 i0),ak r],.n r true])):
 ar 90 [.agg (cl C b c A E F G),ae a] [.agg (cl dz b8 f H aj K L),ak false]:=
 h.of
theorem avp(h:ad (EH C b c A E H aj mR i0 i F G K L a q Jw M Jx Jy dD il hN im N Q R S bc V X Y Z dz e6 fD fK fL fM eU j e k f l s g [.b (g==a) false,.r 128 [.agg (bz C b c),ae a,ae g] [ae d],.x E d (bU m jD n o p a0),.r 129 [.agg (bU m jD n o p a0),.agg (bi j e k f l)] [.agg (bU b8 mj c9 d0 bE f0),ak r],.n r false,.x G d (bU j0 iE dw dn m0 mA),.r 130 [.agg (aX Z dz e6 fD fK fL fM eU),ae e] [.agg (aX nF nG nI sr ss ve w8 y4)],.x F a (aX H1 w6 Bf Bg Bh EZ E0 E1)])):
 ar 90 [.agg (cl C b c A E H aj),ae a] [.agg (cl mR i0 i (F.set a.toNat (aX nF nG nI sr ss ve w8 y4)) (G.set d.toNat (bU b8 mj c9 d0 bE f0)) K L),ak true]:=
 h.of
theorem ZB(h:ad (EF A a b C E F G M c d H aj K L f g e [.b (decide (e<0)) true])):
 ar 91 [.agg (cl A a b C E F G),ae f,ae g] [.agg (cl M c d H aj K L),ak false]:=
 h.of
theorem avq(h:ad (EF C a c E A F G N d e H aj K L l m b [.b (decide (b<0)) false,.x A b (bU f M g i j k),.r 132 [.agg (bU f M g i j k)] [.agg (bU n Q o p a0 b8),.agg (bi c9 d0 bE f0 i0),ak q],.n q true])):
 ar 91 [.agg (cl C a c E A F G),ae l,ae m] [.agg (cl N d e H aj K L),ak false]:=
 h.of
theorem avr(h:ad (EF E c d A C H aj mj e f F G K L i0 b a [.b (decide (a<0)) false,.x C a (bU g M i j k l),.r 132 [.agg (bU g M i j k l)] [.agg (bU m N n o p a0),.agg (bi b8 c9 d0 bE f0),ak q],.n q false,.x G a (bU j0 nF dw dn m0 mA),.x A b (aX Q R S bc V X Y Z),.r 133 [.agg (aX Q R S bc V X Y Z),.agg (bi b8 c9 d0 bE f0)] [.agg (aX dz e6 fD fK fL fM eU jD)],.x F b (aX nG nI sr ss ve w8 y4 mR)])):
 ar 91 [.agg (cl E c d A C H aj),ae i0,ae b] [.agg (cl mj e f (F.set b.toNat (aX dz e6 fD fK fL fM eU jD)) (G.set a.toNat (bU m N n o p a0)) K L),ak true]:=
 h.of
theorem ZC(h:ad (u7 A a b C E F G M e c H aj K L d q [.n q true])):
 ar 88 [.agg (cl A a b C E F G),ae d] [.agg (cl M e c H aj K L),ak false]:=
 h.of
theorem avs(h:ad (u7 A b c C F G H eU e d E aj K L a q [.n q false,.x C a (aX M N Q R S bc V X),.r 124 [.agg (bz A b c),.agg (aX M N Q R S bc V X)] [.agg (aX Y Z dz e6 fD fK fL fM),ak r],.x E a (aX jD mj nF nG nI sr ss ve)])):
 ar 88 [.agg (cl A b c C F G H),ae a] [.agg (cl eU e d (E.set a.toNat (aX Y Z dz e6 fD fK fL fM)) aj K L),ak r]:=
 h.of
theorem avt{G H Q S A C bc V:af}{f a c d e:Int}{aj K L M E F N R:af}{q:Bool}{b:Int}{d23 d24:D}(h:ad [.r 127 [.agg (aX G H Q S A C bc V),.agg (bi f a c d e)] [.agg (aX aj K L M E F N R)],.v ((if (C.length:Int)<(A.length:Int) then (C.length:Int) else (A.length:Int))-1),.r 43 [ae a,ae 0,ae ((if (C.length:Int)<(A.length:Int) then (C.length:Int) else (A.length:Int))-1)] [ak q],.b q true,.x E a [I b],.v (b-1),.x E a [d23],.x F a [d24]]):
 ar 133 [.agg (aX G H Q S A C bc V),.agg (bi f a c d e)] [.agg (aX aj K L M (E.set a.toNat [I (b-1)]) (F.set a.toNat [B true]) N R)]:=
 h.of
theorem avu(h:ad (sg a A b c d e f C g i j k q [.n q true])):
 ar 129 [.agg (bU a A b c d e),.agg (bi m n o p l)] [.agg (bU f C g i j k),ak false]:=
 h.of
theorem avv(h:ad (sg a A b c d e g C i j k l q [.n q false,.r 116 [.agg (bi m n o p f)] [ak r],.n r true])):
 ar 129 [.agg (bU a A b c d e),.agg (bi m n o p f)] [.agg (bU g C i j k l),ak false]:=
 h.of
theorem auW(h:ad (sg b A a c d e g C i j k l q [.n q false,.r 116 [.agg (bi m n o p f)] [ak r],.n r false,.b (a==0) true])):
 ar 129 [.agg (bU b A a c d e),.agg (bi m n o p f)] [.agg (bU g C i j k l),ak false]:=
 h.of
theorem auX(h:ad (sg c A a d b e g C i j k l q [.n q false,.r 116 [.agg (bi m n o p f)] [ak r],.n r false,.b (a==0) false,.b (b==1000000000) true])):
 ar 129 [.agg (bU c A a d b e),.agg (bi m n o p f)] [.agg (bU g C i j k l),ak false]:=
 h.of
theorem auY(h:ad (sg i A f l g m n C j o k p q [.n q false,.r 116 [.agg (bi b c d e a)] [ak r],.n r false,.b (f==0) false,.b (g==1000000000) false,.g C [(bi b c d e a)] 40,.h [(bi b c d e a)],.v (j-1),.u k])):
 ar 129 [.agg (bU i A f l g m),.agg (bi b c d e a)] [.agg (bU n (C++[(bi b c d e a)]) (j-1) o (k+1) p),ak true]:=
 h.of
theorem auZ{E F N Q C R S bc:af}{a:Int}{V G H aj A K L M:af}{q:Bool}{b:Int}{d19:D}(h:ad (Jc E F N Q C R S bc V G H aj A K L M [.v ((C.length:Int)-1),.r 43 [ae a,ae 0,ae ((C.length:Int)-1)] [ak q],.b q true,.x A a [I b],.u b,.x A a [d19]])):
 ar 130 [.agg (aX E F N Q C R S bc),ae a] [.agg (aX V G H aj (A.set a.toNat [I (b+1)]) K L M)]:=
 h.of
theorem au0(h:ad [.b (e==1) true,.r 88 [.agg (cl A a d aj K L M),ae f] [.agg (cl C b c E F G H),ak q]]):
 ar 50 [.agg (cl A a d aj K L M),.agg [I e,I f,I g]] [.agg (cl C b c E F G H),ak q]:=
 h.of
def Rr(a:Int)(l:List O):List O:=.b (a==1) false::l
theorem au1(h:ad (Rr a [.b (a==2) true,.r 89 [.agg (cl A b e aj K L M),ae f] [.agg (cl C c d E F G H),ak q]])):
 ar 50 [.agg (cl A b e aj K L M),.agg [I a,I f,I g]] [.agg (cl C c d E F G H),ak q]:=
 h.of
def Rs(a:Int)(l:List O):List O:=Rr a (.b (a==2) false::l)
theorem au2(h:ad (Rs a [.b (a==3) true,.r 90 [.agg (cl A b e aj K L M),ae f] [.agg (cl C c d E F G H),ak q]])):
 ar 50 [.agg (cl A b e aj K L M),.agg [I a,I f,I g]] [.agg (cl C c d E F G H),ak q]:=
 h.of
def EI(a:Int)(l:List O):List O:=Rs a (.b (a==3) false::l)
theorem au3(h:ad (EI a [.b (a==4) true,.r 91 [.agg (cl A b e aj K L M),ae f,ae g] [.agg (cl C c d E F G H),ak q]])):
 ar 50 [.agg (cl A b e aj K L M),.agg [I a,I f,I g]] [.agg (cl C c d E F G H),ak q]:=
 h.of
def EJ(a:Int)(l:List O):List O:=EI a (.b (a==4) false::l)
theorem au4(h:ad (EJ a [.b (a==5) true,.r 92 [.agg (cl A b e aj K L M),ae f,ae g] [.agg (cl C c d E F G H),ak q]])):
 ar 50 [.agg (cl A b e aj K L M),.agg [I a,I f,I g]] [.agg (cl C c d E F G H),ak q]:=
 h.of
def A'(a:Int)(l:List O):List O:=EJ a (.b (a==5) false::l)
theorem au5(h:ad (A' a [.b (a==6) true,.r 93 [.agg (cl A b e aj K L M),ae f] [.agg (cl C c d E F G H),ak q]])):
 ar 50 [.agg (cl A b e aj K L M),.agg [I a,I f,I g]] [.agg (cl C c d E F G H),ak q]:=
 h.of
theorem aww(h:ad (A' a [.b (a==6) false,.b (a==7) true,.r 94 [.agg (cl A b e aj K L M),ae f] [.agg (cl C c d E F G H),ak q]])):
 ar 50 [.agg (cl A b e aj K L M),.agg [I a,I f,I g]] [.agg (cl C c d E F G H),ak q]:=
 h.of
theorem awx(h:ad (A' a [.b (a==6) false,.b (a==7) false,.r 95 [.agg (cl A b e aj K L M)] [.agg (cl C c d E F G H)]])):
 ar 50 [.agg (cl A b e aj K L M),.agg [I a,I f,I g]] [.agg (cl C c d E F G H),ak false]:=
 h.of
theorem awy(h:ad (sg a A b c d e i C j k f g q [.n q true])):
 ar 132 [.agg (bU a A b c d e)] [.agg (bU i C j k f g),.agg (bi 0 0 0 0 0),ak false]:=
 h.of
theorem awz(h:ad (sg a A b c d e i C j k f g q [.n q false,.b ((A.length:Int)==0) true])):
 ar 132 [.agg (bU a A b c d e)] [.agg (bU i C j k f g),.agg (bi 0 0 0 0 0),ak false]:=
 h.of
theorem awA(h:ad (sg a A c d e f o C p g i b q [.n q false,.b ((A.length:Int)==0) false,.a .own,.p ((0:Int)<=(some (1:Int)).getD 0),.p ((some (1:Int)).getD 0<=none.getD (C.length:Int)),.p (none.getD (C.length:Int)<=(C.length:Int)),.u b,.u g,.p ((0:Int)<=0),.p (0<(A.length:Int)),.e A 0 (bi j k l m n)])):
 ar 132 [.agg (bU a A c d e f)] [.agg (bU o (List.take (C.length-1) (List.drop 1 C)) p (g+1) i (b+1)),.agg (bi j k l m n),ak true]:=
 h.of
def Rn(A C E F G H aj K L M N P Q R S bc V:af)(a b:Int)(q:Bool)(l:List O):List O:=Jc A C E F G H aj K L M N P Q R S bc (.r 69 [.agg (bz V a b)] [ak q]::l)
theorem awB(h:ad (Rn N Q R S bc V X C E F G H aj K L M A a b q [.n q true])):
 ar 125 [.agg (bz A a b),.agg (aX N Q R S bc V X C)] [.agg (aX E F G H aj K L M),ak false]:=
 h.of
def ED(A C E F G H aj K L M N P Q R S bc V:af)(a b:Int)(q r:Bool)(l:List O):List O:=Rn A C E F G H aj K L M N P Q R S bc V a b q (.n q false::.r 70 [.agg (bz V a b),.agg (aX A C E F G H aj K)] [ak r]::l)
theorem awC(h:ad (ED E F G H aj K L C M N Q R S bc V X A a b q r [.n r true])):
 ar 125 [.agg (bz A a b),.agg (aX E F G H aj K L C)] [.agg (aX M N Q R S bc V X),ak false]:=
 h.of
theorem awD(h:ad (ED F A G H aj K L E M N Q R S bc V X C a b q r [.n r false,.b (decide ((A.length:Int)>0)) true])):
 ar 125 [.agg (bz C a b),.agg (aX F A G H aj K L E)] [.agg (aX M N Q R S bc V X),ak false]:=
 h.of
def EE(A C E F G H aj K L M N P Q R S bc V:af)(a b:Int)(q r:Bool)(l:List O):List O:=ED A C E F G H aj K L M N P Q R S bc V a b q r (.n r false::.b (decide ((C.length:Int)>0)) false::l)
theorem awE(h:ad (EE A C G H aj K L F M N Q R S bc V X E a b q r [.b (decide ((A.length:Int)>0)) true])):
 ar 125 [.agg (bz E a b),.agg (aX A C G H aj K L F)] [.agg (aX M N Q R S bc V X),ak false]:=
 h.of
theorem awF(h:ad (EE A C E H aj K L G M N Q R S bc V X F a b q r [.b (decide ((A.length:Int)>0)) false,.b ((E.length:Int)==0) true])):
 ar 125 [.agg (bz F a b),.agg (aX A C E H aj K L G)] [.agg (aX M N Q R S bc V X),ak false]:=
 h.of
theorem awG(h:ad (EE E F C K L M N H aj Q A R S bc V X G f g q r [.b (decide ((E.length:Int)>0)) false,.b ((C.length:Int)==0) false,.p ((0:Int)<=0),.p (0<(C.length:Int)),.e C 0 (bi a b c d e),.a .own,.g aj [(bi a b c d e)] 40,.h [(bi a b c d e)],.p ((0:Int)<=(some (1:Int)).getD 0),.p ((some (1:Int)).getD 0<=none.getD (A.length:Int)),.p (none.getD (A.length:Int)<=(A.length:Int))])):
 ar 125 [.agg (bz G f g),.agg (aX E F C K L M N H)] [.agg (aX (aj++[(bi a b c d e)]) Q (List.take (A.length-1) (List.drop 1 A)) R S bc V X),ak true]:=
 h.of
theorem awH(h:ad (Jc E C M N Q R S bc V A F G H aj K L [.b ((C.length:Int)==0) false,.a .own,.p ((0:Int)<=(some (1:Int)).getD 0),.p ((some (1:Int)).getD 0<=none.getD (A.length:Int)),.p (none.getD (A.length:Int)<=(A.length:Int)),.p ((0:Int)<=0),.p (0<(C.length:Int)),.e C 0 (bi a b c d e)])):
 ar 126 [.agg (aX E C M N Q R S bc)] [.agg (aX V (List.take (A.length-1) (List.drop 1 A)) F G H aj K L),.agg (bi a b c d e),ak true]:=
 h.of
theorem awI(h:ad (Rn N Q R S bc V X C E F G H aj K L M A a b q [.n q true])):
 ar 124 [.agg (bz A a b),.agg (aX N Q R S bc V X C)] [.agg (aX E F G H aj K L M),ak false]:=
 h.of
theorem awJ(h:ad (ED E F G H aj K L C M N Q R S bc V X A a b q r [.n r true])):
 ar 124 [.agg (bz A a b),.agg (aX E F G H aj K L C)] [.agg (aX M N Q R S bc V X),ak false]:=
 h.of
theorem awK(h:ad (ED F A G H aj K L E M N Q R S bc V X C a b q r [.n r false,.b (decide ((A.length:Int)>0)) true])):
 ar 124 [.agg (bz C a b),.agg (aX F A G H aj K L E)] [.agg (aX M N Q R S bc V X),ak false]:=
 h.of
theorem awL(h:ad (EE A C G H aj K L F M N Q R S bc V X E a b q r [.b ((A.length:Int)==0) true])):
 ar 124 [.agg (bz E a b),.agg (aX A C G H aj K L F)] [.agg (aX M N Q R S bc V X),ak false]:=
 h.of
def ace(A C E F G H aj K L M N P Q R S bc V:af)(a b:Int)(q r:Bool)(c d e f g:Int)(X Y:af)(s t:Bool)(l:List O):List O:=EE A C E F G H aj K L M N P Q R S bc V a b q r (.b ((A.length:Int)==0) false::.p ((0:Int)<=0)::.p (0<(A.length:Int))::.e A 0 (bi c d e f g)::.a .own::.p ((0:Int)<=(some (1:Int)).getD 0)::.p ((some (1:Int)).getD 0<=none.getD (L.length:Int))::.p (none.getD (L.length:Int)<=(L.length:Int))::.r 171 [.agg (bz V a b),aP 4 F,.agg (bi c d e f g)] [aP 4 X,aP 5 Y,ak s]::.r 172 [.agg (bz V a b),.agg (bi c d e f g)] [ak t]::l)
theorem awM{E:af}{a b:Int}{C F K G L M N H A Y Q Z R S aj bc:af}{q r:Bool}{d c e f g:Int}{V X:af}{t s:Bool}{d30:D}(h:ad (ace C F K G L M N H A Y Q Z R S aj bc E a b q r d c e f g V X t s [.b s true,.x aj c [d30]])):
 ar 124 [.agg (bz E a b),.agg (aX C F K G L M N H)] [.agg (aX (List.take (A.length-1) (List.drop 1 A)) X Q V R S (aj.set c.toNat [B true]) bc),ak true]:=
 h.of
theorem awN(h:ad (ace C F aj G K L M H A Y N Z Q R S bc E a b q r c d e f g V X t s [.b s false])):
 ar 124 [.agg (bz E a b),.agg (aX C F aj G K L M H)] [.agg (aX (List.take (A.length-1) (List.drop 1 A)) X N V Q R S bc),ak true]:=
 h.of
theorem ZD(h:ad [.r 27 [.agg (cl C a b A E F G)] [ak q],.b q true,.v ((A.length:Int)-1),.r 43 [ae c,ae 0,ae ((A.length:Int)-1)] [ak r]]):
 ar 123 [.agg (cl C a b A E F G),ae c] [ak r]:=
 h.of
theorem awO(h:ad [.r 27 [.agg (cl A a b C E F G)] [ak q],.b q false]):
 ar 123 [.agg (cl A a b C E F G),ae c] [ak false]:=
 h.of
theorem awP(h:ad [.r 27 [.agg (cl A a b C E F G)] [ak q],.n q true]):
 ar 131 [.agg (cl A a b C E F G),ae c,ae d] [ae (-1)]:=
 h.of
theorem awQ(h:ad [.r 27 [.agg (cl A a b C E F G)] [ak q],.n q false,.b (c==d) true]):
 ar 131 [.agg (cl A a b C E F G),ae c,ae d] [ae (-1)]:=
 h.of
theorem awR(h:ad [.r 27 [.agg (cl A a b C E F G)] [ak q],.n q false,.b (c==d) false,.r 128 [.agg (bz A a b),ae c,ae d] [ae e]]):
 ar 131 [.agg (cl A a b C E F G),ae c,ae d] [ae e]:=
 h.of
theorem awS(h:ad [.r 48 [.agg (cl A a b C E F G)] [aP 3 H],.r 47 [aP 3 H,.one (.cl 49 [D.ptr (cl A a b C E F G)])] [ak q]]):
 ar 18 [.agg (cl A a b C E F G)] [ak q]:=
 h.of
theorem awT(h:ad [.r 50 [.agg (cl A d e C E F G),.agg [I a,I b,I c]] [.agg (cl H f g aj K L M),ak q]]):
 ar 49 [.agg [I a,I b,I c],.one (.ptr (cl A d e C E F G))] [ak q]:=
 h.of
end Go.Proofs.YthfnndblgbjniaaGreat
namespace Go.Proofs.YthfnndblgbjniaaGreat
open Go.Sx Go.RowKit Go.Proofs.Tryz
variable {a b c d e f g i j k l m n o p a0 b8 c9 d0 bE f0 i0 j0 dw dn m0 mA : Int} {A C E F G H aj K L M N Q R S bc V X Y Z dz dD e6 il fD hN fK im fL iE fM H1 eU w6 jD Bf mj Bg nF Bh nG EZ nI E0 sr E1 ss ve w8 y4 mR Jw Jx Jy : af} {q r s t u v : Bool}
def ye(A:af)(a:Int)(C:af)(b c:Int)(E F G H:af):aD:=a' 25 [(1,aS 1),(3,aI.aF (bp.one (aB 90000 3 A))),(4,aT a)] [(1,[.J .free 4 C,av b,av c,.J .free 8 E,.J .free 6 F,.J .free 5 G,.J .free 3 H])]
def P2(q:Bool):aD:=a' 25 [(2,.aF (.one (.bg q)))] []
theorem awU(h:ad [.i G f [I c,I d,I e],.r 52 [.agg (cl H a b A C E F),.agg [I c,I d,I e]] [.agg (cl aj g i K L M N),ak q],.b q true]):
 aV (ap f19 0) (ye G f H a b A C E F) .ret (P2 true):=
 h.aQ [2] []
theorem awV(h:ad [.i G a [I d,I e,I f],.r 52 [.agg (cl H b c A C E F),.agg [I d,I e,I f]] [.agg (cl aj g i K L M N),ak q],.b q false,.u a]):
 aV (ap f19 0) (ye G a H b c A C E F) .normal (ye G (a+1) H b c A C E F):=
 h.aQ [4,3,1] [1]
def ZE:aD:=a' 25 [] []
theorem av6(h:ad [.f A a false]):
 aV (ap f19 0) (ye A a H b c C E F G) (.exit 0) ZE:=
 h.aQ [] []
theorem av7(h:ad [.r 51 [.agg (cl A a b C E F G)] [aP 3 H],.l [] [4,3,1] [1] (ap f19 0) (ye H 0 A a b C E F G) .ret (P2 q)]):
 ar 19 [.agg (cl A a b C E F G)] [ak q]:=
 h.of
theorem av8(h:ad [.r 51 [.agg (cl A a b C E F G)] [aP 3 H],.l [] [4,3,1] [1] (ap f19 0) (ye H 0 A a b C E F G) (.exit 0) ZE]):
 ar 19 [.agg (cl A a b C E F G)] [ak false]:=
 h.of
def sh(a:Int)(A:af)(b c d e f:Int)(C:af)(g i j k:Int)(q:Bool)(l:List O):List O:=.r 178 [.agg (bU a A b c d e)] [.agg (bU f C g i j k)]::.r 74 [.agg (bU f C g i j k)] [ak q]::l
theorem av9(h:ad (sh f C g i j k c A d e a b q [.n q true])):
 ar 160 [.agg (bU f C g i j k)] [.agg (bU c A d e a b),ak false]:=
 h.of
theorem awa(h:ad (sh f C g i j k d A e a b c q [.n q false,.b (a==0) true])):
 ar 160 [.agg (bU f C g i j k)] [.agg (bU d A e a b c),ak false]:=
 h.of
theorem awb(h:ad (sh f C g i j k e A b a c d q [.n q false,.b (a==0) false,.v (a-1),.u b])):
 ar 160 [.agg (bU f C g i j k)] [.agg (bU e A (b+1) (a-1) c d),ak true]:=
 h.of
def wb(A:af)(a d:Int)(C:af)(e f:Int)(E F G H:af)(q:Bool)(b c:Int):aD:=a' 34 [(1,aT a),(4,aS 4),(6,aS 10),(7,aI.aF (bp.one (aB 130000 3 A))),(8,aT d)] [(10,[aB 900011000 4 C,av e,av f,aB 900011003 8 E,aB 900011004 6 F,aB 900011005 5 G,aB 900011006 3 H,.bg q]),(4,[.v (aR),av b,av c,.v (aR),.v (aR),.v (aR),.v (aR)])]
def P3(a:Int)(A:af)(b c:Int)(C E F G:af):aD:=a' 34 [(4,aS 4),(5,aT a)] [(4,[aB 235000 4 A,av b,av c,aB 235003 8 C,aB 235004 6 E,aB 235005 5 F,aB 235006 3 G])]
def acy(a b:Int)(A:af)(c d:Int)(C E F G:af)(q:Bool)(e:Int)(H:af)(f g:Int)(aj K L M:af)(r:Bool)(N:af)(l:List O):List O:=.b (decide (a<=b)) true::.a (.dL [some [D.J 4 A,I c,I d,D.J 8 C,D.J 6 E,D.J 5 F,D.J 3 G,B q],none] (a1.vals [ae e]))::.p (b4 prog 112 [aM.ref [D.J 4 H,I f,I g,D.J 8 aj,D.J 6 K,D.J 5 L,D.J 3 M,B r] [D.J 4 A,I c,I d,D.J 8 C,D.J 6 E,D.J 5 F,D.J 3 G,B q],aM.ro (aP 3 N)] (a1.vals [ae e]))::l
theorem awc(h:ad (acy a e A b c C E F G r d aj f g K L M N q H [.b (d==0) true])):
 aV (ap f67 0) (wb H e a aj f g K L M N q i j) .ret (P3 a A b c C E F G):=
 h.aQ [4,5] [4]
theorem ZF(h:ad (acy a b C c d E F G H q e aj f g K L M N r A [.b (e==0) false,.u a])):
 aV (ap f67 0) (wb A b a aj f g K L M N r i j) .normal (wb A b (a+1) C c d E F G H q i j):=
 h.rK [(11000000,900011000,4),(11000003,900011003,8),(11000004,900011004,6),(11000005,900011005,5),(11000006,900011006,3)] [8,1,6,7,4] [10,4]
def P4(a:Int)(A:af)(c d:Int)(C E F G:af)(q:Bool)(e b:Int):aD:=a' 34 [(1,aT a),(4,aS 4),(6,aS 10)] [(10,[aB 900011000 4 A,av c,av d,aB 900011003 8 C,aB 900011004 6 E,aB 900011005 5 F,aB 900011006 3 G,.bg q]),(4,[.v (aR),av e,av b,.v (aR),.v (aR),.v (aR),.v (aR)])]
theorem awd(h:ad [.b (decide (b<=a)) false]):
 aV (ap f67 0) (wb H a b A c d C E F G q e f) (.exit 0) (P4 a A c d C E F G q e f):=
 h.aQ [6,1,4] [10,4]
def acz(A:af)(a b:Int)(C E F G:af)(q:Bool)(l:List O):List O:=.a (.dL [none] (a1.new [D.J 4 A,I a,I b,D.J 8 C,D.J 6 E,D.J 5 F,D.J 3 G,B q]))::l
def Ru(A:af)(a b:Int)(C E F G:af)(q:Bool)(H:af)(c d:Int)(aj K L M:af)(l:List O):List O:=acz A a b C E F G q (.p (b4 prog 97 [aM.ro (.agg (cl H c d aj K L M))] (a1.new [D.J 4 A,I a,I b,D.J 8 C,D.J 6 E,D.J 5 F,D.J 3 G,B q]))::l)
theorem awe(h:ad (Ru M d b C E F G q A a c H aj K L [.r 51 [.agg (cl A a c H aj K L)] [aP 3 N],.r 96 [ae j,ae 0,ae 3000] [ae e],.l [(11000000,900011000,4),(11000003,900011003,8),(11000004,900011004,6),(11000005,900011005,5),(11000006,900011006,3)] [8,1,6,7,4] [10,4] (ap f67 0) (wb N e 1 M d b C E F G q 0 0) .ret (P3 f Q g i R S bc V)])):
 ar 67 [.agg (cl A a c H aj K L),ae j] [.agg (cl Q g i R S bc V),ae f]:=
 h.of
theorem awf(h:ad (Ru M e c C E F G q A b d H aj K L [.r 51 [.agg (cl A b d H aj K L)] [aP 3 N],.r 96 [ae i,ae 0,ae 3000] [ae a],.l [(11000000,900011000,4),(11000003,900011003,8),(11000004,900011004,6),(11000005,900011005,5),(11000006,900011006,3)] [8,1,6,7,4] [10,4] (ap f67 0) (wb N a 1 M e c C E F G q 0 0) (.exit 0) (P4 a Q f g R S bc V r j k)])):
 ar 67 [.agg (cl A b d H aj K L),ae i] [.agg (cl Q f g R S bc V),ae a]:=
 h.of
def acA(a b:Int)(q:Bool)(l:List O):List O:=.a .wr::.r 44 [ae a,ae 0,ae (IntKind.i64.wrap (b-1))] [ak q]::l
theorem ZG(h:ad (acA b a q [.n q true])):
 ar 182 [.agg (bz A a c),ae b,ae d] [ae (-1)]:=
 h.of
def Rv(a b:Int)(q:Bool)(c:Int)(r:Bool)(l:List O):List O:=acA a b q (.n q false::.a .wr::.r 44 [ae c,ae 0,ae (IntKind.i64.wrap (b-1))] [ak r]::l)
theorem ZH(h:ad (Rv b a q c r [.n r true])):
 ar 182 [.agg (bz A a d),ae b,ae c] [ae (-1)]:=
 h.of
theorem awg(h:ad (Rv b a q c r [.n r false,.b (decide (a<1)) true])):
 ar 182 [.agg (bz A a d),ae b,ae c] [ae (-1)]:=
 h.of
theorem ZI(h:ad (Rv b a q c r [.n r false,.b (decide (a<1)) false,.a .wr,.a .wr])):
 ar 182 [.agg (bz A a d),ae b,ae c] [ae (IntKind.i64.wrap (IntKind.i64.wrap (b*a)+c))]:=
 h.of
def zT(A:af)(a:Int)(C E:af)(d e:Int)(F G H aj:af)(q:Bool)(b c:Int):aD:=a' 32 [(1,dW 3 A),(4,aS 4),(6,aS 10),(7,aI.aF (bp.one (aB 11 1 C))),(8,aT a)] [(10,[aB 900011000 4 E,av d,av e,aB 900011003 8 F,aB 900011004 6 G,aB 900011005 5 H,aB 900011006 3 aj,.bg q]),(4,[.v (aR),av b,av c,.v (aR),.v (aR),.v (aR),.v (aR)])]
def Rt(A:af)(a b c d:Int)(C:af)(e f:Int)(E F G H:af)(q r:Bool)(aj:af)(g i:Int)(K L M N:af)(s:Bool)(l:List O):List O:=.i A a [I b,I c,I d]::.a (.dL [some [D.J 4 C,I e,I f,D.J 8 E,D.J 6 F,D.J 5 G,D.J 3 H,B q],none] (a1.vals [ak r]))::.p (b4 prog 98 [aM.ref [D.J 4 aj,I g,I i,D.J 8 K,D.J 6 L,D.J 5 M,D.J 3 N,B s] [D.J 4 C,I e,I f,D.J 8 E,D.J 6 F,D.J 5 G,D.J 3 H,B q],aM.ro (.agg [I b,I c,I d])] (a1.vals [ak r]))::l
theorem awh(h:ad (Rt aj a i j k C b c E F G H r q K d e L M N Q s [.g A [[B q]] 1,.h [[B q]],.u a])):
 aV (ap f101 0) (zT aj a A K d e L M N Q s f g) .normal (zT aj (a+1) (A++[[B q]]) C b c E F G H r f g):=
 h.rK [(11000000,900011000,4),(11000003,900011003,8),(11000004,900011004,6),(11000005,900011005,5),(11000006,900011006,3)] [8,1,7,6,4] [10,4]
def P5(A C:af)(b c:Int)(E F G H:af)(q:Bool)(d a:Int):aD:=a' 32 [(4,aS 4),(6,aS 10),(7,aI.aF (bp.one (aB 11 1 A)))] [(10,[aB 900011000 4 C,av b,av c,aB 900011003 8 E,aB 900011004 6 F,aB 900011005 5 G,aB 900011006 3 H,.bg q]),(4,[.v (aR),av d,av a,.v (aR),.v (aR),.v (aR),.v (aR)])]
theorem awi(h:ad [.f aj a false]):
 aV (ap f101 0) (zT aj a A C b c E F G H q d e) (.exit 0) (P5 A C b c E F G H q d e):=
 h.aQ [6,7,4] [10,4]
theorem awj(h:ad (Ru G b a A C E F q H c f R S bc V [.l [(11000000,900011000,4),(11000003,900011003,8),(11000004,900011004,6),(11000005,900011005,5),(11000006,900011006,3)] [8,1,7,6,4] [10,4] (ap f101 0) (zT X 0 [] G b a A C E F q 0 0) (.exit 0) (P5 aj K d e L M N Q r g i)])):
 ar 101 [.agg (cl H c f R S bc V),aP 3 X] [.agg (cl K d e L M N Q),aP 1 aj]:=
 h.of
theorem awk(h:ad (sh f C g i j k a A b c d e q [.n q true])):
 ar 161 [.agg (bU f C g i j k),.agg (bi m n o p l)] [.agg (bU a A b c d e),ak false]:=
 h.of
theorem awl(h:ad (sh f C i j k l a A b c d e q [.n q false,.r 56 [.agg (bi m n o p g)] [ak r],.n r true])):
 ar 161 [.agg (bU f C i j k l),.agg (bi m n o p g)] [.agg (bU a A b c d e),ak false]:=
 h.of
theorem awm(h:ad (sh f C i j k l b A a c d e q [.n q false,.r 56 [.agg (bi m n o p g)] [ak r],.n r false,.b (a==0) true])):
 ar 161 [.agg (bU f C i j k l),.agg (bi m n o p g)] [.agg (bU b A a c d e),ak false]:=
 h.of
theorem awn(h:ad (sh f C i j k l c A a d b e q [.n q false,.r 56 [.agg (bi m n o p g)] [ak r],.n r false,.b (a==0) false,.b (decide (b>=1000000000)) true])):
 ar 161 [.agg (bU f C i j k l),.agg (bi m n o p g)] [.agg (bU c A a d b e),ak false]:=
 h.of
theorem awo(h:ad (sh l C m n o p i A b j c k q [.n q false,.r 56 [.agg (bi d e f g a)] [ak r],.n r false,.b (b==0) false,.b (decide (c>=1000000000)) false,.g A [(bi d e f g a)] 40,.h [(bi d e f g a)],.v (b-1),.u c])):
 ar 161 [.agg (bU l C m n o p),.agg (bi d e f g a)] [.agg (bU i (A++[(bi d e f g a)]) (b-1) j (c+1) k),ak true]:=
 h.of
theorem awp(h:ad (acz A a b C E F G q [.a (.dL [some [D.J 4 H,I c,I d,D.J 8 aj,D.J 6 K,D.J 5 L,D.J 3 M,B s],none] (a1.vals [ak r])),.p (b4 prog 97 [aM.ro (.agg (cl N e f Q R S bc))] (a1.new [D.J 4 A,I a,I b,D.J 8 C,D.J 6 E,D.J 5 F,D.J 3 G,B q])),.p (b4 prog 98 [aM.ref [D.J 4 A,I a,I b,D.J 8 C,D.J 6 E,D.J 5 F,D.J 3 G,B q] [D.J 4 H,I c,I d,D.J 8 aj,D.J 6 K,D.J 5 L,D.J 3 M,B s],aM.ro (.agg [I g,I i,I j])] (a1.vals [ak r]))])):
 ar 52 [.agg (cl N e f Q R S bc),.agg [I g,I i,I j]] [.agg (cl H c d aj K L M),ak r]:=
 h.of
theorem awq(h:ad (sh f C g i j k c A d e a b q [.n q true])):
 ar 159 [.agg (bU f C g i j k)] [.agg (bU c A d e a b),.agg (bi 0 0 0 0 0),ak false]:=
 h.of
theorem awr(h:ad (sh f C g i j k c A d e a b q [.n q false,.b ((A.length:Int)==0) true])):
 ar 159 [.agg (bU f C g i j k)] [.agg (bU c A d e a b),.agg (bi 0 0 0 0 0),ak false]:=
 h.of
theorem aws(h:ad (sh f C m n o p d A e b c a q [.n q false,.b ((A.length:Int)==0) false,.p ((0:Int)<=0),.p (0<(A.length:Int)),.e A 0 (bi g i j k l),.p ((0:Int)<=(some (1:Int)).getD 0),.p ((some (1:Int)).getD 0<=none.getD (A.length:Int)),.p (none.getD (A.length:Int)<=(A.length:Int)),.g ([]:af) (List.take (A.length-1) (List.drop 1 A)) 40,.h (List.take (A.length-1) (List.drop 1 A)),.u a,.u b])):
 ar 159 [.agg (bU f C m n o p)] [.agg (bU d ([]++List.take (A.length-1) (List.drop 1 A)) e (b+1) c (a+1)),.agg (bi g i j k l),ak true]:=
 h.of
def EK(A:af)(a b c d e:Int)(l:List O):List O:=.r 182 [.agg (bz A a b),ae c,ae d] [ae e]::l
theorem awt(h:ad (EK A a b c d e [.n q true])):
 cb 146 [aM.ref [D.J 4 A,I a,I b,D.J 8 C,D.J 6 E,D.J 5 F,D.J 3 G,B q] [D.J 4 A,I a,I b,D.J 8 C,D.J 6 E,D.J 5 F,D.J 3 G,B q],aM.ro (ae c),aM.ro (ae d)] (a1.vals [ak false]):=
 h.cc
theorem awu(h:ad (EK A a b d e c [.n q false,.b (decide (c<0)) true])):
 cb 146 [aM.ref [D.J 4 A,I a,I b,D.J 8 C,D.J 6 E,D.J 5 F,D.J 3 G,B q] [D.J 4 A,I a,I b,D.J 8 C,D.J 6 E,D.J 5 F,D.J 3 G,B q],aM.ro (ae d),aM.ro (ae e)] (a1.vals [ak false]):=
 h.cc
def EL(A:af)(a b c d e:Int)(q:Bool)(l:List O):List O:=EK A a b c d e (.n q false::.b (decide (e<0)) false::l)
theorem awv(h:ad (EL A a b c d e q [.b (c==d) true])):
 cb 146 [aM.ref [D.J 4 A,I a,I b,D.J 8 C,D.J 6 E,D.J 5 F,D.J 3 G,B q] [D.J 4 A,I a,I b,D.J 8 C,D.J 6 E,D.J 5 F,D.J 3 G,B q],aM.ro (ae c),aM.ro (ae d)] (a1.vals [ak false]):=
 h.cc
theorem avW(h:ad (EL C b i j k a q [.b (j==k) false,.a .sub,.x A a (bU c E d e f g),.r 160 [.agg (bU c E d e f g)] [.agg (bU l F m n o p),ak r],.x A a (bU c E d e f g)])):
 cb 146 [aM.ref [D.J 4 C,I b,I i,D.J 8 G,D.J 6 A,D.J 5 H,D.J 3 aj,B q] [D.J 4 C,I b,I i,D.J 8 G,D.J 6 (A.set a.toNat (bU l F m n o p)),D.J 5 H,D.J 3 aj,B q],aM.ro (ae j),aM.ro (ae k)] (a1.vals [ak r]):=
 h.cc
def Ji(A:af)(a b:Int)(C E F G:af)(q r:Bool)(H:af)(c d:Int)(aj K L M:af)(s:Bool)(e:Int)(l:List O):List O:=.a (.dL [some [D.J 4 A,I a,I b,D.J 8 C,D.J 6 E,D.J 5 F,D.J 3 G,B q],none] (a1.vals [ak r]))::.p (b4 prog 179 [aM.ref [D.J 4 H,I c,I d,D.J 8 aj,D.J 6 K,D.J 5 L,D.J 3 M,B s] [D.J 4 A,I a,I b,D.J 8 C,D.J 6 E,D.J 5 F,D.J 3 G,B q],aM.ro (ae e)] (a1.vals [ak r]))::l
theorem ZJ(h:ad (Ji G a b A C E F q r H c d aj K L M s e [.n r true])):
 cb 143 [aM.ref [D.J 4 H,I c,I d,D.J 8 aj,D.J 6 K,D.J 5 L,D.J 3 M,B s] [D.J 4 G,I a,I b,D.J 8 A,D.J 6 C,D.J 5 E,D.J 3 F,B q],aM.ro (ae e)] (a1.vals [ak false]):=
 h.cc
def EM(A:af)(a b:Int)(C E F G:af)(q r:Bool)(H:af)(c d:Int)(aj K L M:af)(s:Bool)(e:Int)(N P Q R S bc V X:af)(l:List O):List O:=Ji A a b C E F G q r H c d aj K L M s e (.n r false::.a .sub::.x C e (aX N P Q R S bc V X)::l)
theorem avX(h:ad (EM G a b A C E F q r H d e K L M N s c Q aj R S bc V X Y [.b (decide ((aj.length:Int)>0)) true])):
 cb 143 [aM.ref [D.J 4 H,I d,I e,D.J 8 K,D.J 6 L,D.J 5 M,D.J 3 N,B s] [D.J 4 G,I a,I b,D.J 8 A,D.J 6 C,D.J 5 E,D.J 3 F,B q],aM.ro (ae c)] (a1.vals [ak false]):=
 h.cc
def EN(A:af)(a b:Int)(C E F G:af)(q r:Bool)(H:af)(c d:Int)(aj K L M:af)(s:Bool)(e:Int)(N P Q R S bc V X:af)(l:List O):List O:=EM A a b C E F G q r H c d aj K L M s e N P Q R S bc V X (.b (decide ((P.length:Int)>0)) false::l)
theorem avY(h:ad (EN G a b A C E F q r H d e L M N Q s c aj K R S bc V X Y [.b (decide ((aj.length:Int)>0)) true])):
 cb 143 [aM.ref [D.J 4 H,I d,I e,D.J 8 L,D.J 6 M,D.J 5 N,D.J 3 Q,B s] [D.J 4 G,I a,I b,D.J 8 A,D.J 6 C,D.J 5 E,D.J 3 F,B q],aM.ro (ae c)] (a1.vals [ak false]):=
 h.cc
theorem avZ(h:ad (EN G a b A C E F q r H d e M N Q R s c aj K L S bc V X Y [.b (decide ((aj.length:Int)>0)) false,.b ((L.length:Int)==0) true])):
 cb 143 [aM.ref [D.J 4 H,I d,I e,D.J 8 M,D.J 6 N,D.J 5 Q,D.J 3 R,B s] [D.J 4 G,I a,I b,D.J 8 A,D.J 6 C,D.J 5 E,D.J 3 F,B q],aM.ro (ae c)] (a1.vals [ak false]):=
 h.cc
theorem av0(h:ad (EN R b c C F G H q r S d e bc V X Y s a aj E A K L M N Q [.b (decide ((aj.length:Int)>0)) false,.b ((A.length:Int)==0) false,.p ((0:Int)<=0),.p (0<(A.length:Int)),.e A 0 (bi f g i j k),.p ((0:Int)<=(some (1:Int)).getD 0),.p ((some (1:Int)).getD 0<=none.getD (A.length:Int)),.p (none.getD (A.length:Int)<=(A.length:Int)),.g ([]:af) (List.take (A.length-1) (List.drop 1 A)) 40,.h (List.take (A.length-1) (List.drop 1 A)),.x C a (aX aj E A K L M N Q),.p (a.toNat=a.toNat),.p (a.toNat=a.toNat),.p (a.toNat=a.toNat),.p (a.toNat=a.toNat),.p (a.toNat=a.toNat),.p (a.toNat=a.toNat)])):
 cb 143 [aM.ref [D.J 4 S,I d,I e,D.J 8 bc,D.J 6 V,D.J 5 X,D.J 3 Y,B s] [D.J 4 R,I b,I c,D.J 8 (C.set a.toNat [D.J 5 [(bi f g i j k)],D.J 5 E,D.J 5 ([]++List.take (A.length-1) (List.drop 1 A)),D.J 4 K,D.J 1 L,D.J 1 M,D.J 1 N,D.J 2 Q]),D.J 6 F,D.J 5 G,D.J 3 H,B q],aM.ro (ae a)] (a1.vals [ak true]):=
 h.cc
theorem ZK(h:ad [.b q true,.v ((A.length:Int)-1),.r 44 [ae c,ae 0,ae ((A.length:Int)-1)] [ak r]]):
 cb 179 [aM.ref [D.J 4 C,I a,I b,D.J 8 A,D.J 6 E,D.J 5 F,D.J 3 G,B q] [D.J 4 C,I a,I b,D.J 8 A,D.J 6 E,D.J 5 F,D.J 3 G,B q],aM.ro (ae c)] (a1.vals [ak r]):=
 h.cc
theorem av1(h:ad [.b q false]):
 cb 179 [aM.ref [D.J 4 A,I a,I b,D.J 8 C,D.J 6 E,D.J 5 F,D.J 3 G,B q] [D.J 4 A,I a,I b,D.J 8 C,D.J 6 E,D.J 5 F,D.J 3 G,B q],aM.ro (ae c)] (a1.vals [ak false]):=
 h.cc
theorem YX(h:ad (Ji G a b A C E F q r H c d aj K L M s e [.n r true])):
 cb 144 [aM.ref [D.J 4 H,I c,I d,D.J 8 aj,D.J 6 K,D.J 5 L,D.J 3 M,B s] [D.J 4 G,I a,I b,D.J 8 A,D.J 6 C,D.J 5 E,D.J 3 F,B q],aM.ro (ae e)] (a1.vals [ak false]):=
 h.cc
theorem av2(h:ad (EM G a b A C E F q r H d e K L M N s c Q aj R S bc V X Y [.b ((aj.length:Int)==0) true])):
 cb 144 [aM.ref [D.J 4 H,I d,I e,D.J 8 K,D.J 6 L,D.J 5 M,D.J 3 N,B s] [D.J 4 G,I a,I b,D.J 8 A,D.J 6 C,D.J 5 E,D.J 3 F,B q],aM.ro (ae c)] (a1.vals [ak false]):=
 h.cc
def Rw(A:af)(a b:Int)(C E F G:af)(q r:Bool)(H:af)(c d:Int)(aj K L M:af)(s:Bool)(e:Int)(N P Q R S bc V X:af)(f g i j k m:Int)(l:List O):List O:=EM A a b C E F G q r H c d aj K L M s e N P Q R S bc V X (.b ((P.length:Int)==0) false::.a .sub::.x C e (aX N P Q R S bc V X)::.p ((0:Int)<=0)::.p (0<(P.length:Int))::.e P 0 (bi f g i j k)::.r 85 [ae j,ae a] [ae m]::l)
theorem av3(h:ad (Rw F b c A E G H q r aj f g bc X Y Z t a K C L M N Q R S i j k d l e [.b (e != a) true,.r 182 [.agg (bz F b c),ae a,ae e] [ae m],.a .sub,.x E m (bU n V o p a0 b8),.r 161 [.agg (bU n V o p a0 b8),.agg (bi i j k d l)] [.agg (bU c9 dz d0 bE f0 i0),ak s],.n s true])):
 cb 144 [aM.ref [D.J 4 aj,I f,I g,D.J 8 bc,D.J 6 X,D.J 5 Y,D.J 3 Z,B t] [D.J 4 F,I b,I c,D.J 8 A,D.J 6 E,D.J 5 G,D.J 3 H,B q],aM.ro (ae a)] (a1.vals [ak false]):=
 h.cc
theorem av4(h:ad (Rw H b c C E aj K q r e6 p a0 nF nG sr ss u a fD F fK fL fM eU jD mj b8 e c9 f d0 g [.b (g != a) true,.r 182 [.agg (bz H b c),ae a,ae g] [ae d],.a .sub,.x E d (bU i L j k l m),.r 161 [.agg (bU i L j k l m),.agg (bi b8 e c9 f d0)] [.agg (bU bE nI f0 i0 j0 dw),ak t],.n t false,.x E d (bU i L j k l m),.a (.dL [some [D.J 4 M,I n,I o,D.J 8 G,D.J 6 N,D.J 5 Q,D.J 3 R,B s],none,none,none] (a1.vals [])),.a .sub,.p (b4 prog 183 [aM.ref [D.J 4 H,I b,I c,D.J 8 C,D.J 6 (E.set d.toNat (bU bE nI f0 i0 j0 dw)),D.J 5 aj,D.J 3 K,B q] [D.J 4 M,I n,I o,D.J 8 G,D.J 6 N,D.J 5 Q,D.J 3 R,B s],aM.ro (ae a),aM.ro (ae e),aM.ro (ae 1)] (a1.vals [])),.x G a (aX S A bc V X Y Z dz),.p ((0:Int)<=(some (1:Int)).getD 0),.p ((some (1:Int)).getD 0<=none.getD (A.length:Int)),.p (none.getD (A.length:Int)<=(A.length:Int)),.g ([]:af) (List.take (A.length-1) (List.drop 1 A)) 40,.h (List.take (A.length-1) (List.drop 1 A)),.x G a (aX S A bc V X Y Z dz)])):
 cb 144 [aM.ref [D.J 4 e6,I p,I a0,D.J 8 nF,D.J 6 nG,D.J 5 sr,D.J 3 ss,B u] [D.J 4 M,I n,I o,D.J 8 (G.set a.toNat (aX S ([]++List.take (A.length-1) (List.drop 1 A)) bc V X Y Z dz)),D.J 6 N,D.J 5 Q,D.J 3 R,B s],aM.ro (ae a)] (a1.vals [ak true]):=
 h.cc
theorem av5(h:ad (Rw e6 g i A N Q R q r fD j k fK fL fM eU s a C E F G H aj K L c d e b f l [.b (l != a) false,.a .sub,.x A a (aX C E F G H aj K L),.g C [(bi c d e b f)] 40,.e A a.toNat (aX C E F G H aj K L),.p ((aX C E F G H aj K L)[0]?=some (D.J 5 C)),.h [(bi c d e b f)],.p (A=A),.p (A=A),.p (A=A),.p (A=A),.p (A=A),.p (A=A),.p (A=A),.p (A=A),.p (A=A),.p (A=A),.p (A=A),.p (a.toNat=a.toNat),.p (C=C),.x A a (aX C E F G H aj K L),.a .sub,.p (a.toNat=a.toNat),.p (0<=a),.p (a<(↑(A.set a.toNat (aX (C++[(bi c d e b f)]) E F G H aj K L)).length:Int)),.e (A.set a.toNat (aX (C++[(bi c d e b f)]) E F G H aj K L)) a.toNat (aX S M bc V X Y Z dz),.p ((0:Int)<=(some (1:Int)).getD 0),.p ((some (1:Int)).getD 0<=none.getD (M.length:Int)),.p (none.getD (M.length:Int)<=(M.length:Int)),.g ([]:af) (List.take (M.length-1) (List.drop 1 M)) 40,.h (List.take (M.length-1) (List.drop 1 M)),.p (0<=a),.p (a<(↑(A.set a.toNat (aX (C++[(bi c d e b f)]) E F G H aj K L)).length:Int)),.e (A.set a.toNat (aX (C++[(bi c d e b f)]) E F G H aj K L)) a.toNat (aX S M bc V X Y Z dz)])):
 cb 144 [aM.ref [D.J 4 fD,I j,I k,D.J 8 fK,D.J 6 fL,D.J 5 fM,D.J 3 eU,B s] [D.J 4 e6,I g,I i,D.J 8 ((A.set a.toNat (aX (C++[(bi c d e b f)]) E F G H aj K L)).set a.toNat (aX S ([]++List.take (M.length-1) (List.drop 1 M)) bc V X Y Z dz)),D.J 6 N,D.J 5 Q,D.J 3 R,B q],aM.ro (ae a)] (a1.vals [ak true]):=
 h.cc
theorem axw(h:ad [.a .sub,.x L a (aX C E F G A H aj K),.a .sub,.x L a (aX C E F G A H aj K),.x A b [I d],.v (d+c),.x A b [I i],.e L a.toNat (aX C E F G A H aj K),.p (a.toNat=a.toNat),.p (a.toNat=a.toNat),.p (a.toNat=a.toNat),.p (a.toNat=a.toNat),.b r true,.a .sub,.p (0<=a),.p (a<(↑(L.set a.toNat (aX C E F G (A.set b.toNat [I (d+c)]) H aj K)).length:Int)),.e (L.set a.toNat (aX C E F G (A.set b.toNat [I (d+c)]) H aj K)) a.toNat (aX C E F G (A.set b.toNat [I (d+c)]) H aj K),.x (A.set b.toNat [I (d+c)]) b [I g],.r 44 [ae g,ae (-1000000),ae 1000000] [ak q]]):
 cb 183 [aM.ref [D.J 4 M,I e,I f,D.J 8 L,D.J 6 N,D.J 5 Q,D.J 3 R,B r] [D.J 4 M,I e,I f,D.J 8 (L.set a.toNat (aX C E F G (A.set b.toNat [I (d+c)]) H aj K)),D.J 6 N,D.J 5 Q,D.J 3 R,B q],aM.ro (ae a),aM.ro (ae b),aM.ro (ae c)] (a1.vals []):=
 h.cc
theorem axx(h:ad (EK A a b c d e [.n q true])):
 cb 145 [aM.ref [D.J 4 A,I a,I b,D.J 8 C,D.J 6 E,D.J 5 F,D.J 3 G,B q] [D.J 4 A,I a,I b,D.J 8 C,D.J 6 E,D.J 5 F,D.J 3 G,B q],aM.ro (ae c),aM.ro (ae d)] (a1.vals [ak false]):=
 h.cc
theorem axy(h:ad (EK A a b d e c [.n q false,.b (decide (c<0)) true])):
 cb 145 [aM.ref [D.J 4 A,I a,I b,D.J 8 C,D.J 6 E,D.J 5 F,D.J 3 G,B q] [D.J 4 A,I a,I b,D.J 8 C,D.J 6 E,D.J 5 F,D.J 3 G,B q],aM.ro (ae d),aM.ro (ae e)] (a1.vals [ak false]):=
 h.cc
theorem axz(h:ad (EL A a b c d e q [.b (c==d) true])):
 cb 145 [aM.ref [D.J 4 A,I a,I b,D.J 8 C,D.J 6 E,D.J 5 F,D.J 3 G,B q] [D.J 4 A,I a,I b,D.J 8 C,D.J 6 E,D.J 5 F,D.J 3 G,B q],aM.ro (ae c),aM.ro (ae d)] (a1.vals [ak false]):=
 h.cc
theorem axA(h:ad (EL A a c d e b q [.b (d==e) false,.a .sub,.x C b (bU f E g i j k),.r 159 [.agg (bU f E g i j k)] [.agg (bU l aj m n o p),.agg (bi a0 b8 c9 d0 bE),ak r],.n r true])):
 cb 145 [aM.ref [D.J 4 A,I a,I c,D.J 8 F,D.J 6 C,D.J 5 G,D.J 3 H,B q] [D.J 4 A,I a,I c,D.J 8 F,D.J 6 C,D.J 5 G,D.J 3 H,B q],aM.ro (ae d),aM.ro (ae e)] (a1.vals [ak false]):=
 h.cc
theorem axB(h:ad (EL Q i o b8 a g r [.b (b8==a) false,.a .sub,.x M g (bU j R k l m n),.r 159 [.agg (bU j R k l m n)] [.agg (bU c9 eU d0 bE f0 i0),.agg (bi c b d e f),ak s],.n s false,.x M g (bU j R k l m n),.a .sub,.x A a (aX C E F G H aj K L),.g C [(bi c b d e f)] 40,.e A a.toNat (aX C E F G H aj K L),.p ((aX C E F G H aj K L)[0]?=some (D.J 5 C)),.h [(bi c b d e f)],.p (A=A),.p (A=A),.p (A=A),.p (A=A),.p (A=A),.p (a.toNat=a.toNat),.p (C=C),.x A a (aX C E F G H aj K L),.a .sub,.p (a.toNat=a.toNat),.p (0<=a),.p (a<(↑(A.set a.toNat (aX (C++[(bi c b d e f)]) E F G H aj K L)).length:Int)),.e (A.set a.toNat (aX (C++[(bi c b d e f)]) E F G H aj K L)) a.toNat (aX S bc V X Y N Z dz),.x N b [B t],.e (A.set a.toNat (aX (C++[(bi c b d e f)]) E F G H aj K L)) a.toNat (aX S bc V X Y N Z dz),.a (.dL [some [D.J 4 e6,I p,I a0,D.J 8 fD,D.J 6 fK,D.J 5 fL,D.J 3 fM,B q],none,none,none] (a1.vals [])),.p (a.toNat=a.toNat),.p (a.toNat=a.toNat),.p (b4 prog 183 [aM.ref [D.J 4 Q,I i,I o,D.J 8 ((A.set a.toNat (aX (C++[(bi c b d e f)]) E F G H aj K L)).set a.toNat (aX S bc V X Y (N.set b.toNat [B true]) Z dz)),D.J 6 (M.set g.toNat (bU c9 eU d0 bE f0 i0)),D.J 5 jD,D.J 3 mj,B r] [D.J 4 e6,I p,I a0,D.J 8 fD,D.J 6 fK,D.J 5 fL,D.J 3 fM,B q],aM.ro (ae a),aM.ro (ae b),aM.ro (ae (-1))] (a1.vals []))])):
 cb 145 [aM.ref [D.J 4 Q,I i,I o,D.J 8 A,D.J 6 M,D.J 5 jD,D.J 3 mj,B r] [D.J 4 e6,I p,I a0,D.J 8 fD,D.J 6 fK,D.J 5 fL,D.J 3 fM,B q],aM.ro (ae b8),aM.ro (ae a)] (a1.vals [ak true]):=
 h.cc
theorem YY(h:ad (Ji G a b A C E F q r H c d aj K L M s e [.n r true])):
 cb 142 [aM.ref [D.J 4 H,I c,I d,D.J 8 aj,D.J 6 K,D.J 5 L,D.J 3 M,B s] [D.J 4 G,I a,I b,D.J 8 A,D.J 6 C,D.J 5 E,D.J 3 F,B q],aM.ro (ae e)] (a1.vals [ak false]):=
 h.cc
theorem axC(h:ad (EM G a b A C E F q r H d e K L M N s c Q aj R S bc V X Y [.b (decide ((aj.length:Int)>0)) true])):
 cb 142 [aM.ref [D.J 4 H,I d,I e,D.J 8 K,D.J 6 L,D.J 5 M,D.J 3 N,B s] [D.J 4 G,I a,I b,D.J 8 A,D.J 6 C,D.J 5 E,D.J 3 F,B q],aM.ro (ae c)] (a1.vals [ak false]):=
 h.cc
theorem axD(h:ad (EN G a b A C E F q r H d e L M N Q s c aj K R S bc V X Y [.b ((aj.length:Int)==0) true])):
 cb 142 [aM.ref [D.J 4 H,I d,I e,D.J 8 L,D.J 6 M,D.J 5 N,D.J 3 Q,B s] [D.J 4 G,I a,I b,D.J 8 A,D.J 6 C,D.J 5 E,D.J 3 F,B q],aM.ro (ae c)] (a1.vals [ak false]):=
 h.cc
def acB(A:af)(a b:Int)(C E F G:af)(q r:Bool)(H:af)(c d:Int)(aj K L M:af)(s:Bool)(e:Int)(N P Q R S bc V X:af)(f g i j k:Int)(Y Z:af)(t u:Bool)(l:List O):List O:=EN A a b C E F G q r H c d aj K L M s e N P Q R S bc V X (.b ((N.length:Int)==0) false::.p ((0:Int)<=0)::.p (0<(N.length:Int))::.e N 0 (bi f g i j k)::.r 180 [.agg (bz A a b),aP 4 R,.agg (bi f g i j k)] [aP 4 Y,aP 5 Z,ak t]::.p ((0:Int)<=(some (1:Int)).getD 0)::.p ((some (1:Int)).getD 0<=none.getD (N.length:Int))::.p (none.getD (N.length:Int)<=(N.length:Int))::.g ([]:af) (List.take (N.length-1) (List.drop 1 N)) 40::.h (List.take (N.length-1) (List.drop 1 N))::.r 181 [.agg (bz A a b),.agg (bi f g i j k)] [ak u]::l)
theorem axE(h:ad (acB M c d E N Q R q r S j k bc Y Z dz t a A F G H aj K C L e b f g i V X u s [.b s true,.x C b [B v],.e E a.toNat (aX A F G H aj K C L),.p (a.toNat=a.toNat),.p (a.toNat=a.toNat),.p (a.toNat=a.toNat),.p (a.toNat=a.toNat),.x (E.set a.toNat (aX A F G H aj K (C.set b.toNat [B true]) L)) a (aX A F G H aj K (C.set b.toNat [B true]) L),.p (a.toNat=a.toNat),.p (a.toNat=a.toNat),.p (a.toNat=a.toNat),.p (a.toNat=a.toNat),.p (a.toNat=a.toNat)])):
 cb 142 [aM.ref [D.J 4 S,I j,I k,D.J 8 bc,D.J 6 Y,D.J 5 Z,D.J 3 dz,B t] [D.J 4 M,I c,I d,D.J 8 ((E.set a.toNat (aX A F G H aj K (C.set b.toNat [B true]) L)).set a.toNat (aX ([]++List.take (A.length-1) (List.drop 1 A)) X G V aj K (C.set b.toNat [B true]) L)),D.J 6 N,D.J 5 Q,D.J 3 R,B q],aM.ro (ae a)] (a1.vals [ak true]):=
 h.cc
theorem axF(h:ad (acB E b c C F G H q r S j k bc Y Z dz t a A aj K L M N Q R d e f g i V X u s [.b s false,.x C a (aX A aj K L M N Q R),.p (a.toNat=a.toNat),.p (a.toNat=a.toNat),.p (a.toNat=a.toNat),.p (a.toNat=a.toNat),.p (a.toNat=a.toNat)])):
 cb 142 [aM.ref [D.J 4 S,I j,I k,D.J 8 bc,D.J 6 Y,D.J 5 Z,D.J 3 dz,B t] [D.J 4 E,I b,I c,D.J 8 (C.set a.toNat (aX ([]++List.take (A.length-1) (List.drop 1 A)) X K V M N Q R)),D.J 6 F,D.J 5 G,D.J 3 H,B q],aM.ro (ae a)] (a1.vals [ak true]):=
 h.cc
theorem axG(h:ad [.b (e==1) true,.a (.dL [some [D.J 4 A,I a,I b,D.J 8 C,D.J 6 E,D.J 5 F,D.J 3 G,B q],none] (a1.vals [ak r])),.p (b4 prog 142 [aM.ref [D.J 4 H,I c,I d,D.J 8 aj,D.J 6 K,D.J 5 L,D.J 3 M,B s] [D.J 4 A,I a,I b,D.J 8 C,D.J 6 E,D.J 5 F,D.J 3 G,B q],aM.ro (ae f)] (a1.vals [ak r]))]):
 cb 98 [aM.ref [D.J 4 H,I c,I d,D.J 8 aj,D.J 6 K,D.J 5 L,D.J 3 M,B s] [D.J 4 A,I a,I b,D.J 8 C,D.J 6 E,D.J 5 F,D.J 3 G,B q],aM.ro (.agg [I e,I f,I g])] (a1.vals [ak r]):=
 h.cc
theorem axH(h:ad (Rr c [.b (c==2) true,.a (.dL [some [D.J 4 A,I a,I b,D.J 8 C,D.J 6 E,D.J 5 F,D.J 3 G,B q],none] (a1.vals [ak r])),.p (b4 prog 143 [aM.ref [D.J 4 H,I d,I e,D.J 8 aj,D.J 6 K,D.J 5 L,D.J 3 M,B s] [D.J 4 A,I a,I b,D.J 8 C,D.J 6 E,D.J 5 F,D.J 3 G,B q],aM.ro (ae f)] (a1.vals [ak r]))])):
 cb 98 [aM.ref [D.J 4 H,I d,I e,D.J 8 aj,D.J 6 K,D.J 5 L,D.J 3 M,B s] [D.J 4 A,I a,I b,D.J 8 C,D.J 6 E,D.J 5 F,D.J 3 G,B q],aM.ro (.agg [I c,I f,I g])] (a1.vals [ak r]):=
 h.cc
theorem axI(h:ad (Rs a [.b (a==3) true,.a (.dL [some [D.J 4 A,I b,I c,D.J 8 C,D.J 6 E,D.J 5 F,D.J 3 G,B q],none] (a1.vals [ak r])),.p (b4 prog 144 [aM.ref [D.J 4 H,I d,I e,D.J 8 aj,D.J 6 K,D.J 5 L,D.J 3 M,B s] [D.J 4 A,I b,I c,D.J 8 C,D.J 6 E,D.J 5 F,D.J 3 G,B q],aM.ro (ae f)] (a1.vals [ak r]))])):
 cb 98 [aM.ref [D.J 4 H,I d,I e,D.J 8 aj,D.J 6 K,D.J 5 L,D.J 3 M,B s] [D.J 4 A,I b,I c,D.J 8 C,D.J 6 E,D.J 5 F,D.J 3 G,B q],aM.ro (.agg [I a,I f,I g])] (a1.vals [ak r]):=
 h.cc
theorem axJ(h:ad (EI a [.b (a==4) true,.a (.dL [some [D.J 4 A,I b,I c,D.J 8 C,D.J 6 E,D.J 5 F,D.J 3 G,B q],none,none] (a1.vals [ak r])),.p (b4 prog 145 [aM.ref [D.J 4 H,I d,I f,D.J 8 aj,D.J 6 K,D.J 5 L,D.J 3 M,B s] [D.J 4 A,I b,I c,D.J 8 C,D.J 6 E,D.J 5 F,D.J 3 G,B q],aM.ro (ae g),aM.ro (ae e)] (a1.vals [ak r]))])):
 cb 98 [aM.ref [D.J 4 H,I d,I f,D.J 8 aj,D.J 6 K,D.J 5 L,D.J 3 M,B s] [D.J 4 A,I b,I c,D.J 8 C,D.J 6 E,D.J 5 F,D.J 3 G,B q],aM.ro (.agg [I a,I g,I e])] (a1.vals [ak r]):=
 h.cc
theorem axK(h:ad (EJ a [.b (a==5) true,.a (.dL [some [D.J 4 A,I b,I c,D.J 8 C,D.J 6 E,D.J 5 F,D.J 3 G,B q],none,none] (a1.vals [ak r])),.p (b4 prog 146 [aM.ref [D.J 4 H,I d,I f,D.J 8 aj,D.J 6 K,D.J 5 L,D.J 3 M,B s] [D.J 4 A,I b,I c,D.J 8 C,D.J 6 E,D.J 5 F,D.J 3 G,B q],aM.ro (ae g),aM.ro (ae e)] (a1.vals [ak r]))])):
 cb 98 [aM.ref [D.J 4 H,I d,I f,D.J 8 aj,D.J 6 K,D.J 5 L,D.J 3 M,B s] [D.J 4 A,I b,I c,D.J 8 C,D.J 6 E,D.J 5 F,D.J 3 G,B q],aM.ro (.agg [I a,I g,I e])] (a1.vals [ak r]):=
 h.cc
theorem axL(h:ad (A' a [.b (a==6) true,.a (.dL [some [D.J 4 A,I b,I c,D.J 8 C,D.J 6 E,D.J 5 F,D.J 3 G,B q],none] (a1.vals [ak r])),.p (b4 prog 147 [aM.ref [D.J 4 H,I d,I e,D.J 8 aj,D.J 6 K,D.J 5 L,D.J 3 M,B s] [D.J 4 A,I b,I c,D.J 8 C,D.J 6 E,D.J 5 F,D.J 3 G,B q],aM.ro (ae f)] (a1.vals [ak r]))])):
 cb 98 [aM.ref [D.J 4 H,I d,I e,D.J 8 aj,D.J 6 K,D.J 5 L,D.J 3 M,B s] [D.J 4 A,I b,I c,D.J 8 C,D.J 6 E,D.J 5 F,D.J 3 G,B q],aM.ro (.agg [I a,I f,I g])] (a1.vals [ak r]):=
 h.cc
theorem axM(h:ad (A' a [.b (a==6) false,.b (a==7) true,.a (.dL [some [D.J 4 A,I b,I c,D.J 8 C,D.J 6 E,D.J 5 F,D.J 3 G,B q],none] (a1.vals [ak r])),.p (b4 prog 148 [aM.ref [D.J 4 H,I d,I e,D.J 8 aj,D.J 6 K,D.J 5 L,D.J 3 M,B s] [D.J 4 A,I b,I c,D.J 8 C,D.J 6 E,D.J 5 F,D.J 3 G,B q],aM.ro (ae f)] (a1.vals [ak r]))])):
 cb 98 [aM.ref [D.J 4 H,I d,I e,D.J 8 aj,D.J 6 K,D.J 5 L,D.J 3 M,B s] [D.J 4 A,I b,I c,D.J 8 C,D.J 6 E,D.J 5 F,D.J 3 G,B q],aM.ro (.agg [I a,I f,I g])] (a1.vals [ak r]):=
 h.cc
theorem axN(h:ad (A' a [.b (a==6) false,.b (a==7) false])):
 cb 98 [aM.ref [D.J 4 A,I b,I c,D.J 8 C,D.J 6 E,D.J 5 F,D.J 3 G,B q] [D.J 4 A,I b,I c,D.J 8 C,D.J 6 E,D.J 5 F,D.J 3 G,B q],aM.ro (.agg [I a,I e,I d])] (a1.vals [ak false]):=
 h.cc
def yf(A:af)(a b:Int)(C:af)(c d:Int)(E F G H:af)(q:Bool):aD:=a' 22 [(0,aS 1000000000),(1,.aF (.one (.dC 1000000200 3 A))),(5,aT b),(6,aT a)] [(1000000000,[aB 950001000 4 C,av c,av d,aB 950001003 8 E,aB 950001004 6 F,aB 950001005 5 G,aB 950001006 3 H,.bg q])]
theorem axO(h:ad (Rt H a g i j A c d C E F G q r aj e f K L M N s [.b r true,.u b,.u a])):
 aV (ap f112 0) (yf H a b aj e f K L M N s) .normal (yf H (a+1) (b+1) A c d C E F G q):=
 h.rK [(1000000001000000,950001000,4),(1000000001000003,950001003,8),(1000000001000004,950001004,6),(1000000001000005,950001005,5),(1000000001000006,950001006,3)] [6,1,0,5] [1000000000]
theorem axP(h:ad (Rt H a g i j A b c C E F G q r aj e f K L M N s [.b r false,.u a])):
 aV (ap f112 0) (yf H a d aj e f K L M N s) .normal (yf H (a+1) d A b c C E F G q):=
 h.rK [(1000000001000000,950001000,4),(1000000001000003,950001003,8),(1000000001000004,950001004,6),(1000000001000005,950001005,5),(1000000001000006,950001006,3)] [6,1,0,5] [1000000000]
def YZ(a:Int)(A:af)(b c:Int)(C E F G:af)(q:Bool):aD:=a' 22 [(0,aS 1000000000),(5,aT a)] [(1000000000,[aB 950001000 4 A,av b,av c,aB 950001003 8 C,aB 950001004 6 E,aB 950001005 5 F,aB 950001006 3 G,.bg q])]
theorem axQ(h:ad [.f H d false]):
 aV (ap f112 0) (yf H d a A b c C E F G q) (.exit 0) (YZ a A b c C E F G q):=
 h.aQ [5,0] [1000000000]
theorem axR(h:ad [.l [(1000000001000000,950001000,4),(1000000001000003,950001003,8),(1000000001000004,950001004,6),(1000000001000005,950001005,5),(1000000001000006,950001006,3)] [6,1,0,5] [1000000000] (ap f112 0) (yf N 0 0 A a d aj K L M r) (.exit 0) (YZ e C b c E F G H q)]):
 cb 112 [aM.ref [D.J 4 A,I a,I d,D.J 8 aj,D.J 6 K,D.J 5 L,D.J 3 M,B r] [D.J 4 C,I b,I c,D.J 8 E,D.J 6 F,D.J 5 G,D.J 3 H,B q],aM.ro (aP 3 N)] (a1.vals [ae e]):=
 h.cc
