import Derived.Test.YtdchjefneblpgaaGreatGE
set_option linter.unusedVariables false
set_option linter.unusedSimpArgs false
namespace Go.Proofs.YtdchjefneblpgaaGreat
open Go.Sx Go.RowKit
variable {a b c d e f g i j k l m n o p a0 ck dT d0 cc f0 i0 j0 dw fS m0 wP : Int} {A C E F G H au K L M N Q R S bi V X Y Z dz dO ft jA gf iv gg iZ gh jB gi H1 e8 Dy lu Dz mb DA nn DC np HD nq HE rS HF rT wa yj Ar nt OG OH OI : ak} {q r s t : Bool}
def rJ(a:Int)(A:ak)(b c d e f:Int)(C:ak)(g i j k:Int)(q:Bool)(l:List O):List O:=.r 256 [.agg (b7 a A b c d e)] [.agg (b7 f C g i j k)]::.r 188 [.agg (b7 a A b c d e)] [al q]::l
theorem ajS(h:ah (rJ a A b c d e i C j k f g q [.n q true])):
 aw 157 [.agg (b7 a A b c d e)] [.agg (b7 i C j k f g),al false]:=
 h.of
theorem ajT(h:ah (rJ b A c a d e i C j k f g q [.n q false,.b (a==0) true])):
 aw 157 [.agg (b7 b A c a d e)] [.agg (b7 i C j k f g),al false]:=
 h.of
theorem ajk(h:ah (rJ b A c a d e k C f g i j q [.n q false,.b (a==0) false,.v (g-1),.u f])):
 aw 157 [.agg (b7 b A c a d e)] [.agg (b7 k C (f+1) (g-1) i j),al true]:=
 h.of
def xS(C:ak)(a b:Int)(E F G H A:ak)(c d:Int):aG:=bp 28 [(2,bE 2),(4,bE 4),(6,bf d),(16,aI.bd (bS.one (aV 140100 1 A))),(17,bf (A.length:Int)),(18,bf c)] [(4,[aV 140000 4 C,aM a,aM b,aV 140003 8 E,aV 140004 6 F,aV 140005 5 G,aV 140006 3 H]),(2,[.v (a8),aM 0,aM 0,.v (a8),.v (a8),.v (a8),.v (a8)])]
theorem ajl(h:ah [.i A a [B q],.b q true,.u b,.u a]):
 aY (av Tryz.f64 0) (xS H d c C E F G A a b) .normal (xS H d c C E F G A (a+1) (b+1)):=
 h.aR [18,17,16,6,4,2] [4,2]
theorem ajm(h:ah [.i A a [B q],.b q false,.u a]):
 aY (av Tryz.f64 0) (xS H d b C E F G A a c) .normal (xS H d b C E F G A (a+1) c):=
 h.aR [18,17,16,6,4,2] [4,2]
def VJ(A:ak)(a b:Int)(C E F G:ak)(c:Int):aG:=bp 28 [(2,bE 2),(4,bE 4),(6,bf c)] [(4,[aV 140000 4 A,aM a,aM b,aV 140003 8 C,aV 140004 6 E,aV 140005 5 F,aV 140006 3 G]),(2,[.v (a8),aM 0,aM 0,.v (a8),.v (a8),.v (a8),.v (a8)])]
theorem ajn(h:ah [.f G b false]):
 aY (av Tryz.f64 0) (xS H d a A C E F G b c) (.exit 0) (VJ H d a A C E F c):=
 h.aR [4,6,2] [4,2]
theorem ajo(h:ah [.r 201 [.agg (cl H c d au K L M)] [aS 3 Q],.r 200 [.agg (cl H c d au K L M),aS 3 Q] [.agg (cl G b a A C E F),aS 1 N],.l [] [18,17,16,6,4,2] [4,2] (av Tryz.f64 0) (xS G b a A C E F N 0 0) (.exit 0) (VJ G b a A C E F e)]):
 aw 64 [.agg (cl H c d au K L M)] [.agg (cl G b a A C E F),ag e]:=
 h.of
def vJ(a b:Int)(A:ak)(d e:Int)(C E F G:ak)(f c:Int):aG:=bp 28 [(1,bf a),(4,bE 4),(6,bE 6),(7,bf b)] [(6,[aV 900007000 4 A,aM d,aM e,aV 900007003 8 C,aV 900007004 6 E,aV 900007005 5 F,aV 900007006 3 G]),(4,[.v (a8),aM f,aM c,.v (a8),.v (a8),.v (a8),.v (a8)])]
def Nf(a:Int)(A:ak)(b c:Int)(C E F G:ak)(d e:Int):aG:=bp 28 [(4,bE 4),(6,bE 6),(7,bf a)] [(6,[aV 190000 4 A,aM b,aM c,aV 190003 8 C,aV 190004 6 E,aV 190005 5 F,aV 190006 3 G]),(4,[.v (a8),aM d,aM e,.v (a8),.v (a8),.v (a8),.v (a8)])]
theorem ajp(h:ah [.r 167 [ag k,ag 0,ag 3000] [ag f],.b (decide (a<f)) true,.r 64 [.agg (cl A b c C E F G)] [.agg (cl H g i au K L M),ag j],.u a,.b (j==0) true]):
 aY (av Tryz.f40 0) (vJ k a A b c C E F G d e) (.exit 0) (Nf (a+1) H g i au K L M d e):=
 h.aR [6,7,4] [6,4]
theorem VK(h:ah [.r 167 [ag b,ag 0,ag 3000] [ag g],.b (decide (a<g)) true,.r 64 [.agg (cl A c d C E F G)] [.agg (cl H i j au K L M),ag k],.u a,.b (k==0) false]):
 aY (av Tryz.f40 0) (vJ b a A c d C E F G e f) .normal (vJ b (a+1) H i j au K L M e f):=
 h.y2 [(7000000,900007000,4),(7000003,900007003,8),(7000004,900007004,6),(7000005,900007005,5),(7000006,900007006,3)] [7,1,6,4] [6,4]
def Ng(a:Int)(A:ak)(b c:Int)(C E F G:ak)(d e:Int):aG:=bp 28 [(4,bE 4),(6,bE 6),(7,bf a)] [(6,[aV 900007000 4 A,aM b,aM c,aV 900007003 8 C,aV 900007004 6 E,aV 900007005 5 F,aV 900007006 3 G]),(4,[.v (a8),aM d,aM e,.v (a8),.v (a8),.v (a8),.v (a8)])]
theorem ajq(h:ah [.r 167 [ag g,ag 0,ag 3000] [ag f],.b (decide (a<f)) false]):
 aY (av Tryz.f40 0) (vJ g a A b c C E F G d e) (.exit 0) (Ng a A b c C E F G d e):=
 h.aR [6,7,4] [6,4]
def Dl(A:ak)(a b:Int)(C E F G H:ak)(c d:Int)(au K L M:ak)(l:List O):List O:=.r 144 [.agg (cl A a b C E F G)] [.agg (cl H c d au K L M)]::l
theorem ajr(h:ah (Dl A a f N Q R S bi i b C E F G [.l [(7000000,900007000,4),(7000003,900007003,8),(7000004,900007004,6),(7000005,900007005,5),(7000006,900007006,3)] [7,1,6,4] [6,4] (av Tryz.f40 0) (vJ g 0 bi i b C E F G 0 0) (.exit 0) (Nf c H d e au K L M j k)])):
 aw 40 [.agg (cl A a f N Q R S),ag g] [.agg (cl H d e au K L M),ag c]:=
 h.of
theorem ajs(h:ah (Dl A a f N Q R S bi i b C E F G [.l [(7000000,900007000,4),(7000003,900007003,8),(7000004,900007004,6),(7000005,900007005,5),(7000006,900007006,3)] [7,1,6,4] [6,4] (av Tryz.f40 0) (vJ g 0 bi i b C E F G 0 0) (.exit 0) (Ng c H d e au K L M j k)])):
 aw 40 [.agg (cl A a f N Q R S),ag g] [.agg (cl H d e au K L M),ag c]:=
 h.of
def Hs(A C E F G H au K L M N P Q R S bi:ak)(l:List O):List O:=.r 255 [.agg (a' A C E F G H au K)] [.agg (a' L M N P Q R S bi)]::l
theorem ajt(h:ah (Hs C E M Q R S bi V A F G H au K L N [.g A [(bA d e a b c)] 40,.h [(bA d e a b c)]])):
 aw 148 [.agg (a' C E M Q R S bi V),.agg (bA d e a b c)] [.agg (a' (A++[(bA d e a b c)]) F G H au K L N)]:=
 h.of
theorem akU(h:ah [.b (decide ((if b<a then b else a)<0)) true]):
 aw 60 [.agg (bP A c d),ag a,ag b] [ag (-1)]:=
 h.of
theorem akV(h:ah [.b (decide ((if b<a then b else a)<0)) false,.b (decide ((if b>a then b else a)>=c)) true]):
 aw 60 [.agg (bP A c d),ag a,ag b] [ag (-1)]:=
 h.of
theorem akW(h:ah [.b (decide ((if b<a then b else a)<0)) false,.b (decide ((if b>a then b else a)>=c)) false,.v (a*c),.v (a*c+b)]):
 aw 60 [.agg (bP A c d),ag a,ag b] [ag (a*c+b)]:=
 h.of
def Dm(A:ak)(a b:Int)(C E F G H:ak)(c d:Int)(au K L M:ak)(e f g:Int)(l:List O):List O:=Dl A a b C E F G H c d au K L M (.r 153 [.agg (cl A a b C E F G),ag e,ag f] [ag g]::l)
theorem VL(h:ah (Dm A a b C E F G M c d H au K L f g e [.b (decide (e<0)) true])):
 aw 33 [.agg (cl A a b C E F G),ag f,ag g] [.agg (cl M c d H au K L),al false]:=
 h.of
theorem akX{C:ak}{b c:Int}{F A G H:ak}{a0 ck:Int}{Q:ak}{d e:Int}{au E K L:ak}{a f:Int}{M:ak}{g i j k l:Int}{N:ak}{m n o p:Int}{q:Bool}{d30 d31 d32 d33 d34 d35:D}(h:ah (Dm C b c F A G H Q d e au E K L a0 ck a [.b (decide (a<0)) false,.x A a (b7 f M g i j k),.r 157 [.agg (b7 f M g i j k)] [.agg (b7 l N m n o p),al q],.x E a [d30,d31,d32,d33,d34,d35]])):
 aw 33 [.agg (cl C b c F A G H),ag a0,ag ck] [.agg (cl Q d e au (E.set a.toNat (b7 l N m n o p)) K L),al q]:=
 h.of
def x8(A:ak)(a b:Int)(C E F G H:ak)(c d:Int)(au K L M:ak)(e:Int)(q:Bool)(l:List O):List O:=Dl A a b C E F G H c d au K L M (.r 145 [.agg (cl A a b C E F G),ag e] [al q]::l)
theorem VM(h:ah (x8 A a b C E F G M e c H au K L d q [.n q true])):
 aw 36 [.agg (cl A a b C E F G),ag d] [.agg (cl M e c H au K L),al false]:=
 h.of
theorem akY{A:ak}{b c:Int}{C F G H:ak}{a:Int}{e8:ak}{e d:Int}{E au K L:ak}{q:Bool}{M N Q R S bi V X Y Z dz ft gf gg gh gi:ak}{r:Bool}{d33 d34 d35 d36 d37 d38 d39 d40:D}(h:ah (x8 A b c C F G H e8 e d E au K L a q [.n q false,.x C a (a' M N Q R S bi V X),.r 164 [.agg (bP A b c),.agg (a' M N Q R S bi V X)] [.agg (a' Y Z dz ft gf gg gh gi),al r],.x E a [d33,d34,d35,d36,d37,d38,d39,d40]])):
 aw 36 [.agg (cl A b c C F G H),ag a] [.agg (cl e8 e d (E.set a.toNat (a' Y Z dz ft gf gg gh gi)) au K L),al r]:=
 h.of
theorem UY(h:ah (x8 A a b C E F G M e c H au K L d q [.n q true])):
 aw 28 [.agg (cl A a b C E F G),ag d] [.agg (cl M e c H au K L),al false]:=
 h.of
theorem akZ(h:ah (x8 C a b A E F G N e d H au K L c q [.n q false,.x A c (a' Q M R S bi V X Y),.b ((M.length:Int)==0) true])):
 aw 28 [.agg (cl C a b A E F G),ag c] [.agg (cl N e d H au K L),al false]:=
 h.of
def Ou(A:ak)(a b:Int)(C E F G H:ak)(c d:Int)(au K L M:ak)(e:Int)(q:Bool)(N P Q R S bi V X Y Z dO jA iv iZ jB H1 Dy Dz DA DC HD HE HF X3:ak)(f g i j k:Int)(r:Bool)(m:Int)(l:List O):List O:=x8 A a b C E F G H c d au K L M e q (.n q false::.x C e (a' N P Q R S bi V X)::.b ((P.length:Int)==0) false::.x C e (a' Y Z dO jA iv iZ jB H1)::.r 146 [.agg (a' Y Z dO jA iv iZ jB H1)] [.agg (a' Dy Dz DA DC HD HE HF X3),.agg (bA f g i j k),al r]::.r 147 [ag j,ag a] [ag m]::l)
theorem ak0(h:ah (Ou C b c A F G H yj l e E au K L a q Ar M nt OG OH OI dO jA N Q R S bi V X Y Z dz ft gf gg gh gi e8 f g i d j r k [.b (k==a) true,.r 148 [.agg (a' Z dz ft gf gg gh gi e8),.agg (bA f g i d j)] [.agg (a' lu mb nn np nq rS rT wa)],.x E a (a' iv iZ jB H1 Dy Dz DA DC)])):
 aw 28 [.agg (cl C b c A F G H),ag a] [.agg (cl yj l e (E.set a.toNat (a' lu mb nn np nq rS rT wa)) au K L),al true]:=
 h.of
theorem ak1(h:ah (Ou C b c A E F G dz ck f H au K L a q ft M gf gg gh gi e8 lu N Q R S bi V X Y mb nn np nq rS rT wa yj g i j d k s e [.b (e==a) false,.r 60 [.agg (bP C b c),ag a,ag e] [ag l],.x E l (b7 m Z n o p a0),.r 149 [.agg (b7 m Z n o p a0),.agg (bA g i j d k)] [.agg (b7 dT Ar d0 cc f0 i0),al r],.n r true])):
 aw 28 [.agg (cl C b c A E F G),ag a] [.agg (cl dz ck f H au K L),al false]:=
 h.of
theorem ak2(h:ah (Ou C b c A E H au nt i0 i F G K L a q OG M OH OI dO jA iv iZ N Q R S bi V X Y Z dz ft gf gg gh gi e8 j e k f l s g [.b (g==a) false,.r 60 [.agg (bP C b c),ag a,ag g] [ag d],.x E d (b7 m lu n o p a0),.r 149 [.agg (b7 m lu n o p a0),.agg (bA j e k f l)] [.agg (b7 ck mb dT d0 cc f0),al r],.n r false,.x G d (b7 j0 jB dw fS m0 wP),.r 150 [.agg (a' Z dz ft gf gg gh gi e8),ag e] [.agg (a' nn np nq rS rT wa yj Ar)],.x F a (a' H1 Dy Dz DA DC HD HE HF)])):
 aw 28 [.agg (cl C b c A E H au),ag a] [.agg (cl nt i0 i (F.set a.toNat (a' nn np nq rS rT wa yj Ar)) (G.set d.toNat (b7 ck mb dT d0 cc f0)) K L),al true]:=
 h.of
theorem UZ(h:ah (Dm A a b C E F G M c d H au K L f g e [.b (decide (e<0)) true])):
 aw 31 [.agg (cl A a b C E F G),ag f,ag g] [.agg (cl M c d H au K L),al false]:=
 h.of
theorem ak3(h:ah (Dm C a c E A F G N d e H au K L l m b [.b (decide (b<0)) false,.x A b (b7 f M g i j k),.r 154 [.agg (b7 f M g i j k)] [.agg (b7 n Q o p a0 ck),.agg (bA dT d0 cc f0 i0),al q],.n q true])):
 aw 31 [.agg (cl C a c E A F G),ag l,ag m] [.agg (cl N d e H au K L),al false]:=
 h.of
theorem ak4(h:ah (Dm E c d A C H au mb e f F G K L i0 b a [.b (decide (a<0)) false,.x C a (b7 g M i j k l),.r 154 [.agg (b7 g M i j k l)] [.agg (b7 m N n o p a0),.agg (bA ck dT d0 cc f0),al q],.n q false,.x G a (b7 j0 nn dw fS m0 wP),.x A b (a' Q R S bi V X Y Z),.r 155 [.agg (a' Q R S bi V X Y Z),.agg (bA ck dT d0 cc f0)] [.agg (a' dz ft gf gg gh gi e8 lu)],.x F b (a' np nq rS rT wa yj Ar nt)])):
 aw 31 [.agg (cl E c d A C H au),ag i0,ag b] [.agg (cl mb e f (F.set b.toNat (a' dz ft gf gg gh gi e8 lu)) (G.set a.toNat (b7 m N n o p a0)) K L),al true]:=
 h.of
theorem U0(h:ah (x8 A a b C E F G M e c H au K L d q [.n q true])):
 aw 44 [.agg (cl A a b C E F G),ag d] [.agg (cl M e c H au K L),al false]:=
 h.of
theorem ak5(h:ah (x8 A b c C F G H e8 e d E au K L a q [.n q false,.x C a (a' M N Q R S bi V X),.r 169 [.agg (bP A b c),.agg (a' M N Q R S bi V X)] [.agg (a' Y Z dz ft gf gg gh gi),al r],.x E a (a' lu mb nn np nq rS rT wa)])):
 aw 44 [.agg (cl A b c C F G H),ag a] [.agg (cl e8 e d (E.set a.toNat (a' Y Z dz ft gf gg gh gi)) au K L),al r]:=
 h.of
theorem ak6{G H Q S A C bi V:ak}{f a c d e:Int}{au K L M E F N R:ak}{q:Bool}{b:Int}{d23 d24:D}(h:ah [.r 148 [.agg (a' G H Q S A C bi V),.agg (bA f a c d e)] [.agg (a' au K L M E F N R)],.v ((if (C.length:Int)<(A.length:Int) then (C.length:Int) else (A.length:Int))-1),.r 190 [ag a,ag 0,ag ((if (C.length:Int)<(A.length:Int) then (C.length:Int) else (A.length:Int))-1)] [al q],.b q true,.x E a [I b],.v (b-1),.x E a [d23],.x F a [d24]]):
 aw 155 [.agg (a' G H Q S A C bi V),.agg (bA f a c d e)] [.agg (a' au K L M (E.set a.toNat [I (b-1)]) (F.set a.toNat [B true]) N R)]:=
 h.of
def Cf(A:ak)(a:Int)(C E:ak)(d e:Int)(F G H au:ak)(b c:Int):aG:=bp 34 [(4,bE 4),(6,bE 6),(7,aI.bd (bS.one (aV 30 1 C))),(14,eP 3 A),(15,bf (A.length:Int)),(16,bf a)] [(6,[aV 900007000 4 E,aM d,aM e,aV 900007003 8 F,aV 900007004 6 G,aV 900007005 5 H,aV 900007006 3 au]),(4,[.v (a8),aM b,aM c,.v (a8),.v (a8),.v (a8),.v (a8)])]
theorem ak7(h:ah [.i C a [I f,I g,I i],.r 87 [.agg (cl E b c F G H au),.agg [I f,I g,I i]] [.agg (cl K j k L M N Q),al q],.g A [[B q]] 1,.h [[B q]],.u a]):
 aY (av Tryz.f200 0) (Cf C a A E b c F G H au d e) .normal (Cf C (a+1) (A++[[B q]]) K j k L M N Q d e):=
 h.y2 [(7000000,900007000,4),(7000003,900007003,8),(7000004,900007004,6),(7000005,900007005,5),(7000006,900007006,3)] [16,15,14,6,7,4] [6,4]
def U1(A C:ak)(a b:Int)(E F G H:ak)(c d:Int):aG:=bp 34 [(4,bE 4),(6,bE 6),(7,aI.bd (bS.one (aV 30 1 A)))] [(6,[aV 900007000 4 C,aM a,aM b,aV 900007003 8 E,aV 900007004 6 F,aV 900007005 5 G,aV 900007006 3 H]),(4,[.v (a8),aM c,aM d,.v (a8),.v (a8),.v (a8),.v (a8)])]
theorem ak8(h:ah [.f au a false]):
 aY (av Tryz.f200 0) (Cf au a A C b c E F G H d e) (.exit 0) (U1 A C b c E F G H d e):=
 h.aR [6,7,4] [6,4]
theorem ak9(h:ah (Dl A a e Q R S bi X f b C E F G [.l [(7,30,1),(7000000,900007000,4),(7000003,900007003,8),(7000004,900007004,6),(7000005,900007005,5),(7000006,900007006,3)] [16,15,14,6,7,4] [6,4] (av Tryz.f200 0) (Cf V 0 [] X f b C E F G 0 0) (.exit 0) (U1 H au c d K L M N g i)])):
 aw 200 [.agg (cl A a e Q R S bi),aS 3 V] [.agg (cl au c d K L M N),aS 1 H]:=
 h.of
theorem ala(h:ah (rJ a A b c d e f C g i j k q [.n q true])):
 aw 149 [.agg (b7 a A b c d e),.agg (bA m n o p l)] [.agg (b7 f C g i j k),al false]:=
 h.of
theorem alb(h:ah (rJ a A b c d e g C i j k l q [.n q false,.r 180 [.agg (bA m n o p f)] [al r],.n r true])):
 aw 149 [.agg (b7 a A b c d e),.agg (bA m n o p f)] [.agg (b7 g C i j k l),al false]:=
 h.of
theorem alc(h:ah (rJ b A a c d e g C i j k l q [.n q false,.r 180 [.agg (bA m n o p f)] [al r],.n r false,.b (a==0) true])):
 aw 149 [.agg (b7 b A a c d e),.agg (bA m n o p f)] [.agg (b7 g C i j k l),al false]:=
 h.of
theorem ald(h:ah (rJ c A a d b e g C i j k l q [.n q false,.r 180 [.agg (bA m n o p f)] [al r],.n r false,.b (a==0) false,.b (b==1000000000) true])):
 aw 149 [.agg (b7 c A a d b e),.agg (bA m n o p f)] [.agg (b7 g C i j k l),al false]:=
 h.of
theorem ale(h:ah (rJ i A f l g m n C j o k p q [.n q false,.r 180 [.agg (bA b c d e a)] [al r],.n r false,.b (f==0) false,.b (g==1000000000) false,.g C [(bA b c d e a)] 40,.h [(bA b c d e a)],.v (j-1),.u k])):
 aw 149 [.agg (b7 i A f l g m),.agg (bA b c d e a)] [.agg (b7 n (C++[(bA b c d e a)]) (j-1) o (k+1) p),al true]:=
 h.of
theorem alf{E F N Q C R S bi:ak}{a:Int}{V G H au A K L M:ak}{q:Bool}{b:Int}{d19:D}(h:ah (Hs E F N Q C R S bi V G H au A K L M [.v ((C.length:Int)-1),.r 190 [ag a,ag 0,ag ((C.length:Int)-1)] [al q],.b q true,.x A a [I b],.u b,.x A a [d19]])):
 aw 150 [.agg (a' E F N Q C R S bi),ag a] [.agg (a' V G H au (A.set a.toNat [I (b+1)]) K L M)]:=
 h.of
theorem alg(h:ah [.b (e==1) true,.r 44 [.agg (cl A a d au K L M),ag f] [.agg (cl C b c E F G H),al q]]):
 aw 87 [.agg (cl A a d au K L M),.agg [I e,I f,I g]] [.agg (cl C b c E F G H),al q]:=
 h.of
theorem alh(h:ah [.b (a==1) false,.b (a==2) true,.r 36 [.agg (cl A b e au K L M),ag f] [.agg (cl C c d E F G H),al q]]):
 aw 87 [.agg (cl A b e au K L M),.agg [I a,I f,I g]] [.agg (cl C c d E F G H),al q]:=
 h.of
def XV(a:Int)(l:List O):List O:=.b (a==1) false::.b (a==2) false::l
theorem ali(h:ah (XV a [.b (a==3) true,.r 28 [.agg (cl A b e au K L M),ag f] [.agg (cl C c d E F G H),al q]])):
 aw 87 [.agg (cl A b e au K L M),.agg [I a,I f,I g]] [.agg (cl C c d E F G H),al q]:=
 h.of
def Ow(a:Int)(l:List O):List O:=XV a (.b (a==3) false::l)
theorem alj(h:ah (Ow a [.b (a==4) true,.r 31 [.agg (cl A b e au K L M),ag f,ag g] [.agg (cl C c d E F G H),al q]])):
 aw 87 [.agg (cl A b e au K L M),.agg [I a,I f,I g]] [.agg (cl C c d E F G H),al q]:=
 h.of
theorem aku(h:ah (Ow a [.b (a==4) false,.b (a==5) true,.r 33 [.agg (cl A b e au K L M),ag f,ag g] [.agg (cl C c d E F G H),al q]])):
 aw 87 [.agg (cl A b e au K L M),.agg [I a,I f,I g]] [.agg (cl C c d E F G H),al q]:=
 h.of
def Ox(a:Int)(l:List O):List O:=Ow a (.b (a==4) false::.b (a==5) false::l)
theorem akv(h:ah (Ox a [.b (a==6) true,.r 223 [.agg (cl A b e au K L M),ag f] [.agg (cl C c d E F G H),al q]])):
 aw 87 [.agg (cl A b e au K L M),.agg [I a,I f,I g]] [.agg (cl C c d E F G H),al q]:=
 h.of
theorem akw(h:ah (Ox a [.b (a==6) false,.b (a==7) true,.r 224 [.agg (cl A b e au K L M),ag f] [.agg (cl C c d E F G H),al q]])):
 aw 87 [.agg (cl A b e au K L M),.agg [I a,I f,I g]] [.agg (cl C c d E F G H),al q]:=
 h.of
theorem akx(h:ah (Ox a [.b (a==6) false,.b (a==7) false,.r 144 [.agg (cl A b e au K L M)] [.agg (cl C c d E F G H)]])):
 aw 87 [.agg (cl A b e au K L M),.agg [I a,I f,I g]] [.agg (cl C c d E F G H),al false]:=
 h.of
theorem aky(h:ah (rJ a A b c d e i C j k f g q [.n q true])):
 aw 154 [.agg (b7 a A b c d e)] [.agg (b7 i C j k f g),.agg (bA 0 0 0 0 0),al false]:=
 h.of
theorem akz(h:ah (rJ a A b c d e i C j k f g q [.n q false,.b ((A.length:Int)==0) true])):
 aw 154 [.agg (b7 a A b c d e)] [.agg (b7 i C j k f g),.agg (bA 0 0 0 0 0),al false]:=
 h.of
theorem akA(h:ah (rJ a A c d e f o C p g i b q [.n q false,.b ((A.length:Int)==0) false,.a .own,.p ((0:Int)<=(some (1:Int)).getD 0),.p ((some (1:Int)).getD 0<=none.getD (C.length:Int)),.p (none.getD (C.length:Int)<=(C.length:Int)),.u b,.u g,.p ((0:Int)<=0),.p (0<(A.length:Int)),.e A 0 (bA j k l m n)])):
 aw 154 [.agg (b7 a A c d e f)] [.agg (b7 o (List.take (C.length-1) (List.drop 1 C)) p (g+1) i (b+1)),.agg (bA j k l m n),al true]:=
 h.of
def Ov(A C E F G H au K L M N P Q R S bi V:ak)(a b:Int)(q:Bool)(l:List O):List O:=Hs A C E F G H au K L M N P Q R S bi (.r 179 [.agg (bP V a b)] [al q]::l)
theorem akB(h:ah (Ov N Q R S bi V X C E F G H au K L M A a b q [.n q true])):
 aw 164 [.agg (bP A a b),.agg (a' N Q R S bi V X C)] [.agg (a' E F G H au K L M),al false]:=
 h.of
def Dn(A C E F G H au K L M N P Q R S bi V:ak)(a b:Int)(q r:Bool)(l:List O):List O:=Ov A C E F G H au K L M N P Q R S bi V a b q (.n q false::.r 187 [.agg (bP V a b),.agg (a' A C E F G H au K)] [al r]::l)
theorem akC(h:ah (Dn E F G H au K L C M N Q R S bi V X A a b q r [.n r true])):
 aw 164 [.agg (bP A a b),.agg (a' E F G H au K L C)] [.agg (a' M N Q R S bi V X),al false]:=
 h.of
theorem akD(h:ah (Dn F A G H au K L E M N Q R S bi V X C a b q r [.n r false,.b (decide ((A.length:Int)>0)) true])):
 aw 164 [.agg (bP C a b),.agg (a' F A G H au K L E)] [.agg (a' M N Q R S bi V X),al false]:=
 h.of
def Dp(A C E F G H au K L M N P Q R S bi V:ak)(a b:Int)(q r:Bool)(l:List O):List O:=Dn A C E F G H au K L M N P Q R S bi V a b q r (.n r false::.b (decide ((C.length:Int)>0)) false::l)
theorem akE(h:ah (Dp A C G H au K L F M N Q R S bi V X E a b q r [.b (decide ((A.length:Int)>0)) true])):
 aw 164 [.agg (bP E a b),.agg (a' A C G H au K L F)] [.agg (a' M N Q R S bi V X),al false]:=
 h.of
theorem akF(h:ah (Dp A C E H au K L G M N Q R S bi V X F a b q r [.b (decide ((A.length:Int)>0)) false,.b ((E.length:Int)==0) true])):
 aw 164 [.agg (bP F a b),.agg (a' A C E H au K L G)] [.agg (a' M N Q R S bi V X),al false]:=
 h.of
theorem akG(h:ah (Dp E F C K L M N H au Q A R S bi V X G f g q r [.b (decide ((E.length:Int)>0)) false,.b ((C.length:Int)==0) false,.p ((0:Int)<=0),.p (0<(C.length:Int)),.e C 0 (bA a b c d e),.a .own,.g au [(bA a b c d e)] 40,.h [(bA a b c d e)],.p ((0:Int)<=(some (1:Int)).getD 0),.p ((some (1:Int)).getD 0<=none.getD (A.length:Int)),.p (none.getD (A.length:Int)<=(A.length:Int))])):
 aw 164 [.agg (bP G f g),.agg (a' E F C K L M N H)] [.agg (a' (au++[(bA a b c d e)]) Q (List.take (A.length-1) (List.drop 1 A)) R S bi V X),al true]:=
 h.of
theorem akH(h:ah (Hs E C M N Q R S bi V A F G H au K L [.b ((C.length:Int)==0) false,.a .own,.p ((0:Int)<=(some (1:Int)).getD 0),.p ((some (1:Int)).getD 0<=none.getD (A.length:Int)),.p (none.getD (A.length:Int)<=(A.length:Int)),.p ((0:Int)<=0),.p (0<(C.length:Int)),.e C 0 (bA a b c d e)])):
 aw 146 [.agg (a' E C M N Q R S bi)] [.agg (a' V (List.take (A.length-1) (List.drop 1 A)) F G H au K L),.agg (bA a b c d e),al true]:=
 h.of
theorem akI(h:ah (Ov N Q R S bi V X C E F G H au K L M A a b q [.n q true])):
 aw 169 [.agg (bP A a b),.agg (a' N Q R S bi V X C)] [.agg (a' E F G H au K L M),al false]:=
 h.of
theorem akJ(h:ah (Dn E F G H au K L C M N Q R S bi V X A a b q r [.n r true])):
 aw 169 [.agg (bP A a b),.agg (a' E F G H au K L C)] [.agg (a' M N Q R S bi V X),al false]:=
 h.of
theorem akK(h:ah (Dn F A G H au K L E M N Q R S bi V X C a b q r [.n r false,.b (decide ((A.length:Int)>0)) true])):
 aw 169 [.agg (bP C a b),.agg (a' F A G H au K L E)] [.agg (a' M N Q R S bi V X),al false]:=
 h.of
theorem akL(h:ah (Dp A C G H au K L F M N Q R S bi V X E a b q r [.b ((A.length:Int)==0) true])):
 aw 169 [.agg (bP E a b),.agg (a' A C G H au K L F)] [.agg (a' M N Q R S bi V X),al false]:=
 h.of
def XU(A C E F G H au K L M N P Q R S bi V:ak)(a b:Int)(q r:Bool)(c d e f g:Int)(X Y:ak)(s t:Bool)(l:List O):List O:=Dp A C E F G H au K L M N P Q R S bi V a b q r (.b ((A.length:Int)==0) false::.p ((0:Int)<=0)::.p (0<(A.length:Int))::.e A 0 (bA c d e f g)::.a .own::.p ((0:Int)<=(some (1:Int)).getD 0)::.p ((some (1:Int)).getD 0<=none.getD (L.length:Int))::.p (none.getD (L.length:Int)<=(L.length:Int))::.r 232 [.agg (bP V a b),aS 4 F,.agg (bA c d e f g)] [aS 4 X,aS 5 Y,al s]::.r 265 [.agg (bP V a b),.agg (bA c d e f g)] [al t]::l)
theorem akM{E:ak}{a b:Int}{C F K G L M N H A Y Q Z R S au bi:ak}{q r:Bool}{d c e f g:Int}{V X:ak}{t s:Bool}{d30:D}(h:ah (XU C F K G L M N H A Y Q Z R S au bi E a b q r d c e f g V X t s [.b s true,.x au c [d30]])):
 aw 169 [.agg (bP E a b),.agg (a' C F K G L M N H)] [.agg (a' (List.take (A.length-1) (List.drop 1 A)) X Q V R S (au.set c.toNat [B true]) bi),al true]:=
 h.of
theorem akN(h:ah (XU C F au G K L M H A Y N Z Q R S bi E a b q r c d e f g V X t s [.b s false])):
 aw 169 [.agg (bP E a b),.agg (a' C F au G K L M H)] [.agg (a' (List.take (A.length-1) (List.drop 1 A)) X N V Q R S bi),al true]:=
 h.of
theorem U2(h:ah [.r 55 [.agg (cl C a b A E F G)] [al q],.b q true,.v ((A.length:Int)-1),.r 190 [ag c,ag 0,ag ((A.length:Int)-1)] [al r]]):
 aw 145 [.agg (cl C a b A E F G),ag c] [al r]:=
 h.of
theorem akO(h:ah [.r 55 [.agg (cl A a b C E F G)] [al q],.b q false]):
 aw 145 [.agg (cl A a b C E F G),ag c] [al false]:=
 h.of
theorem akP(h:ah [.r 55 [.agg (cl A a b C E F G)] [al q],.n q true]):
 aw 153 [.agg (cl A a b C E F G),ag c,ag d] [ag (-1)]:=
 h.of
theorem akQ(h:ah [.r 55 [.agg (cl A a b C E F G)] [al q],.n q false,.b (c==d) true]):
 aw 153 [.agg (cl A a b C E F G),ag c,ag d] [ag (-1)]:=
 h.of
theorem akR(h:ah [.r 55 [.agg (cl A a b C E F G)] [al q],.n q false,.b (c==d) false,.r 60 [.agg (bP A a b),ag c,ag d] [ag e]]):
 aw 153 [.agg (cl A a b C E F G),ag c,ag d] [ag e]:=
 h.of
