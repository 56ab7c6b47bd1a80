import Derived.Test.YtdchjefneblpgaaGreatGE
set_option linter.unusedVariables false
set_option linter.unusedSimpArgs false
namespace Go.Proofs.YtdchjefneblpgaaGreat
open Go.Sx Go.RowKit
variable {a b c d e f g i j k l m n o p a0 b6 c5 d0 bE f0 i0 j0 dm eF m0 lA : Int} {A C E F G H ah K L M N Q R S ba V X Y Z dC dL fh iu fu hF fI ib fJ iv fK H1 eW wB kg wC kX wD lO wE lP yH lQ yI oN yJ oO r6 tg uK lR AZ A0 A1 : ag} {q r s t : Bool}
def rZ(a:Int)(A:ag)(b c d e f:Int)(C:ag)(g i j k:Int)(q:Bool)(l:List O):List O:=.r 256 [.agg (bY a A b c d e)] [.agg (bY f C g i j k)]::.r 188 [.agg (bY a A b c d e)] [aj q]::l
theorem arC(h:ad (rZ a A b c d e i C j k f g q [.n q true])):
 aq 157 [.agg (bY a A b c d e)] [.agg (bY i C j k f g),aj false]:=
 h.of
theorem arD(h:ad (rZ b A c a d e i C j k f g q [.n q false,.b (a==0) true])):
 aq 157 [.agg (bY b A c a d e)] [.agg (bY i C j k f g),aj false]:=
 h.of
theorem as5(h:ad (rZ b A c a d e k C f g i j q [.n q false,.b (a==0) false,.v (g-1),.u f])):
 aq 157 [.agg (bY b A c a d e)] [.agg (bY k C (f+1) (g-1) i j),aj true]:=
 h.of
def xM(C:ag)(a b:Int)(E F G H A:ag)(c d:Int):aC:=bb 28 [(2,aR 2),(4,aR 4),(6,aU d),(16,aI.aG (bl.one (aB 140100 1 A))),(17,aU (A.length:Int)),(18,aU c)] [(4,[aB 140000 4 C,au a,au b,aB 140003 8 E,aB 140004 6 F,aB 140005 5 G,aB 140006 3 H]),(2,[.v (aN),au 0,au 0,.v (aN),.v (aN),.v (aN),.v (aN)])]
theorem as6(h:ad [.i A a [B q],.b q true,.u b,.u a]):
 aV (ap Tryz.f64 0) (xM H d c C E F G A a b) .normal (xM H d c C E F G A (a+1) (b+1)):=
 h.aS [18,17,16,6,4,2] [4,2]
theorem as7(h:ad [.i A a [B q],.b q false,.u a]):
 aV (ap Tryz.f64 0) (xM H d b C E F G A a c) .normal (xM H d b C E F G A (a+1) c):=
 h.aS [18,17,16,6,4,2] [4,2]
def Yd(A:ag)(a b:Int)(C E F G:ag)(c:Int):aC:=bb 28 [(2,aR 2),(4,aR 4),(6,aU c)] [(4,[aB 140000 4 A,au a,au b,aB 140003 8 C,aB 140004 6 E,aB 140005 5 F,aB 140006 3 G]),(2,[.v (aN),au 0,au 0,.v (aN),.v (aN),.v (aN),.v (aN)])]
theorem as8(h:ad [.f G b false]):
 aV (ap Tryz.f64 0) (xM H d a A C E F G b c) (.exit 0) (Yd H d a A C E F c):=
 h.aS [4,6,2] [4,2]
theorem as9(h:ad [.r 201 [.agg (cl H c d ah K L M)] [aO 3 Q],.r 200 [.agg (cl H c d ah K L M),aO 3 Q] [.agg (cl G b a A C E F),aO 1 N],.l [] [18,17,16,6,4,2] [4,2] (ap Tryz.f64 0) (xM G b a A C E F N 0 0) (.exit 0) (Yd G b a A C E F e)]):
 aq 64 [.agg (cl H c d ah K L M)] [.agg (cl G b a A C E F),ae e]:=
 h.of
def vy(a b:Int)(A:ag)(d e:Int)(C E F G:ag)(f c:Int):aC:=bb 28 [(1,aU a),(4,aR 4),(6,aR 6),(7,aU b)] [(6,[aB 900007000 4 A,au d,au e,aB 900007003 8 C,aB 900007004 6 E,aB 900007005 5 F,aB 900007006 3 G]),(4,[.v (aN),au f,au c,.v (aN),.v (aN),.v (aN),.v (aN)])]
def On(a:Int)(A:ag)(b c:Int)(C E F G:ag)(d e:Int):aC:=bb 28 [(4,aR 4),(6,aR 6),(7,aU a)] [(6,[aB 190000 4 A,au b,au c,aB 190003 8 C,aB 190004 6 E,aB 190005 5 F,aB 190006 3 G]),(4,[.v (aN),au d,au e,.v (aN),.v (aN),.v (aN),.v (aN)])]
theorem ata(h:ad [.r 167 [ae k,ae 0,ae 3000] [ae f],.b (decide (a<f)) true,.r 64 [.agg (cl A b c C E F G)] [.agg (cl H g i ah K L M),ae j],.u a,.b (j==0) true]):
 aV (ap Tryz.f40 0) (vy k a A b c C E F G d e) (.exit 0) (On (a+1) H g i ah K L M d e):=
 h.aS [6,7,4] [6,4]
theorem Xp(h:ad [.r 167 [ae b,ae 0,ae 3000] [ae g],.b (decide (a<g)) true,.r 64 [.agg (cl A c d C E F G)] [.agg (cl H i j ah K L M),ae k],.u a,.b (k==0) false]):
 aV (ap Tryz.f40 0) (vy b a A c d C E F G e f) .normal (vy b (a+1) H i j ah K L M e f):=
 h.pf [(7000000,900007000,4),(7000003,900007003,8),(7000004,900007004,6),(7000005,900007005,5),(7000006,900007006,3)] [7,1,6,4] [6,4]
def Oo(a:Int)(A:ag)(b c:Int)(C E F G:ag)(d e:Int):aC:=bb 28 [(4,aR 4),(6,aR 6),(7,aU a)] [(6,[aB 900007000 4 A,au b,au c,aB 900007003 8 C,aB 900007004 6 E,aB 900007005 5 F,aB 900007006 3 G]),(4,[.v (aN),au d,au e,.v (aN),.v (aN),.v (aN),.v (aN)])]
theorem atb(h:ad [.r 167 [ae g,ae 0,ae 3000] [ae f],.b (decide (a<f)) false]):
 aV (ap Tryz.f40 0) (vy g a A b c C E F G d e) (.exit 0) (Oo a A b c C E F G d e):=
 h.aS [6,7,4] [6,4]
def Eh(A:ag)(a b:Int)(C E F G H:ag)(c d:Int)(ah K L M:ag)(l:List O):List O:=.r 144 [.agg (cl A a b C E F G)] [.agg (cl H c d ah K L M)]::l
theorem atc(h:ad (Eh A a f N Q R S ba i b C E F G [.l [(7000000,900007000,4),(7000003,900007003,8),(7000004,900007004,6),(7000005,900007005,5),(7000006,900007006,3)] [7,1,6,4] [6,4] (ap Tryz.f40 0) (vy g 0 ba i b C E F G 0 0) (.exit 0) (On c H d e ah K L M j k)])):
 aq 40 [.agg (cl A a f N Q R S),ae g] [.agg (cl H d e ah K L M),ae c]:=
 h.of
theorem atd(h:ad (Eh A a f N Q R S ba i b C E F G [.l [(7000000,900007000,4),(7000003,900007003,8),(7000004,900007004,6),(7000005,900007005,5),(7000006,900007006,3)] [7,1,6,4] [6,4] (ap Tryz.f40 0) (vy g 0 ba i b C E F G 0 0) (.exit 0) (Oo c H d e ah K L M j k)])):
 aq 40 [.agg (cl A a f N Q R S),ae g] [.agg (cl H d e ah K L M),ae c]:=
 h.of
def IC(A C E F G H ah K L M N P Q R S ba:ag)(l:List O):List O:=.r 255 [.agg (aW A C E F G H ah K)] [.agg (aW L M N P Q R S ba)]::l
theorem ate(h:ad (IC C E M Q R S ba V A F G H ah K L N [.g A [(bh d e a b c)] 40,.h [(bh d e a b c)]])):
 aq 148 [.agg (aW C E M Q R S ba V),.agg (bh d e a b c)] [.agg (aW (A++[(bh d e a b c)]) F G H ah K L N)]:=
 h.of
theorem atf(h:ad [.b (decide ((if b<a then b else a)<0)) true]):
 aq 60 [.agg (br A c d),ae a,ae b] [ae (-1)]:=
 h.of
theorem atg(h:ad [.b (decide ((if b<a then b else a)<0)) false,.b (decide ((if b>a then b else a)>=c)) true]):
 aq 60 [.agg (br A c d),ae a,ae b] [ae (-1)]:=
 h.of
theorem ath(h:ad [.b (decide ((if b<a then b else a)<0)) false,.b (decide ((if b>a then b else a)>=c)) false,.v (a*c),.v (a*c+b)]):
 aq 60 [.agg (br A c d),ae a,ae b] [ae (a*c+b)]:=
 h.of
def Ei(A:ag)(a b:Int)(C E F G H:ag)(c d:Int)(ah K L M:ag)(e f g:Int)(l:List O):List O:=Eh A a b C E F G H c d ah K L M (.r 153 [.agg (cl A a b C E F G),ae e,ae f] [ae g]::l)
theorem Xq(h:ad (Ei A a b C E F G M c d H ah K L f g e [.b (decide (e<0)) true])):
 aq 33 [.agg (cl A a b C E F G),ae f,ae g] [.agg (cl M c d H ah K L),aj false]:=
 h.of
theorem ati{C:ag}{b c:Int}{F A G H:ag}{a0 b6:Int}{Q:ag}{d e:Int}{ah E K L:ag}{a f:Int}{M:ag}{g i j k l:Int}{N:ag}{m n o p:Int}{q:Bool}{d30 d31 d32 d33 d34 d35:D}(h:ad (Ei C b c F A G H Q d e ah E K L a0 b6 a [.b (decide (a<0)) false,.x A a (bY f M g i j k),.r 157 [.agg (bY f M g i j k)] [.agg (bY l N m n o p),aj q],.x E a [d30,d31,d32,d33,d34,d35]])):
 aq 33 [.agg (cl C b c F A G H),ae a0,ae b6] [.agg (cl Q d e ah (E.set a.toNat (bY l N m n o p)) K L),aj q]:=
 h.of
def yw(A:ag)(a b:Int)(C E F G H:ag)(c d:Int)(ah K L M:ag)(e:Int)(q:Bool)(l:List O):List O:=Eh A a b C E F G H c d ah K L M (.r 145 [.agg (cl A a b C E F G),ae e] [aj q]::l)
theorem Xr(h:ad (yw A a b C E F G M e c H ah K L d q [.n q true])):
 aq 36 [.agg (cl A a b C E F G),ae d] [.agg (cl M e c H ah K L),aj false]:=
 h.of
theorem atj{A:ag}{b c:Int}{C F G H:ag}{a:Int}{eW:ag}{e d:Int}{E ah K L:ag}{q:Bool}{M N Q R S ba V X Y Z dC fh fu fI fJ fK:ag}{r:Bool}{d33 d34 d35 d36 d37 d38 d39 d40:D}(h:ad (yw A b c C F G H eW e d E ah K L a q [.n q false,.x C a (aW M N Q R S ba V X),.r 164 [.agg (br A b c),.agg (aW M N Q R S ba V X)] [.agg (aW Y Z dC fh fu fI fJ fK),aj r],.x E a [d33,d34,d35,d36,d37,d38,d39,d40]])):
 aq 36 [.agg (cl A b c C F G H),ae a] [.agg (cl eW e d (E.set a.toNat (aW Y Z dC fh fu fI fJ fK)) ah K L),aj r]:=
 h.of
theorem Xs(h:ad (yw A a b C E F G M e c H ah K L d q [.n q true])):
 aq 28 [.agg (cl A a b C E F G),ae d] [.agg (cl M e c H ah K L),aj false]:=
 h.of
theorem qOp(h:ad (yw C a b A E F G N e d H ah K L c q [.n q false,.x A c (aW Q M R S ba V X Y),.b ((M.length:Int)==0) true])):
 aq 28 [.agg (cl C a b A E F G),ae c] [.agg (cl N e d H ah K L),aj false]:=
 h.of
def Qn(A:ag)(a b:Int)(C E F G H:ag)(c d:Int)(ah K L M:ag)(e:Int)(q:Bool)(N P Q R S ba V X Y Z dL iu hF ib iv H1 wB wC wD wE yH yI yJ Ey:ag)(f g i j k:Int)(r:Bool)(m:Int)(l:List O):List O:=yw A a b C E F G H c d ah K L M e q (.n q false::.x C e (aW N P Q R S ba V X)::.b ((P.length:Int)==0) false::.x C e (aW Y Z dL iu hF ib iv H1)::.r 146 [.agg (aW Y Z dL iu hF ib iv H1)] [.agg (aW wB wC wD wE yH yI yJ Ey),.agg (bh f g i j k),aj r]::.r 147 [ae j,ae a] [ae m]::l)
theorem atk(h:ad (Qn C b c A F G H tg l e E ah K L a q uK M lR AZ A0 A1 dL iu N Q R S ba V X Y Z dC fh fu fI fJ fK eW f g i d j r k [.b (k==a) true,.r 148 [.agg (aW Z dC fh fu fI fJ fK eW),.agg (bh f g i d j)] [.agg (aW kg kX lO lP lQ oN oO r6)],.x E a (aW hF ib iv H1 wB wC wD wE)])):
 aq 28 [.agg (cl C b c A F G H),ae a] [.agg (cl tg l e (E.set a.toNat (aW kg kX lO lP lQ oN oO r6)) ah K L),aj true]:=
 h.of
theorem atl(h:ad (Qn C b c A E F G dC b6 f H ah K L a q fh M fu fI fJ fK eW kg N Q R S ba V X Y kX lO lP lQ oN oO r6 tg g i j d k s e [.b (e==a) false,.r 60 [.agg (br C b c),ae a,ae e] [ae l],.x E l (bY m Z n o p a0),.r 149 [.agg (bY m Z n o p a0),.agg (bh g i j d k)] [.agg (bY c5 uK d0 bE f0 i0),aj r],.n r true])):
 aq 28 [.agg (cl C b c A E F G),ae a] [.agg (cl dC b6 f H ah K L),aj false]:=
 h.of
theorem atm(h:ad (Qn C b c A E H ah lR i0 i F G K L a q AZ M A0 A1 dL iu hF ib N Q R S ba V X Y Z dC fh fu fI fJ fK eW j e k f l s g [.b (g==a) false,.r 60 [.agg (br C b c),ae a,ae g] [ae d],.x E d (bY m kg n o p a0),.r 149 [.agg (bY m kg n o p a0),.agg (bh j e k f l)] [.agg (bY b6 kX c5 d0 bE f0),aj r],.n r false,.x G d (bY j0 iv dm eF m0 lA),.r 150 [.agg (aW Z dC fh fu fI fJ fK eW),ae e] [.agg (aW lO lP lQ oN oO r6 tg uK)],.x F a (aW H1 wB wC wD wE yH yI yJ)])):
 aq 28 [.agg (cl C b c A E H ah),ae a] [.agg (cl lR i0 i (F.set a.toNat (aW lO lP lQ oN oO r6 tg uK)) (G.set d.toNat (bY b6 kX c5 d0 bE f0)) K L),aj true]:=
 h.of
theorem Xt(h:ad (Ei A a b C E F G M c d H ah K L f g e [.b (decide (e<0)) true])):
 aq 31 [.agg (cl A a b C E F G),ae f,ae g] [.agg (cl M c d H ah K L),aj false]:=
 h.of
theorem atn(h:ad (Ei C a c E A F G N d e H ah K L l m b [.b (decide (b<0)) false,.x A b (bY f M g i j k),.r 154 [.agg (bY f M g i j k)] [.agg (bY n Q o p a0 b6),.agg (bh c5 d0 bE f0 i0),aj q],.n q true])):
 aq 31 [.agg (cl C a c E A F G),ae l,ae m] [.agg (cl N d e H ah K L),aj false]:=
 h.of
theorem ato(h:ad (Ei E c d A C H ah kX e f F G K L i0 b a [.b (decide (a<0)) false,.x C a (bY g M i j k l),.r 154 [.agg (bY g M i j k l)] [.agg (bY m N n o p a0),.agg (bh b6 c5 d0 bE f0),aj q],.n q false,.x G a (bY j0 lO dm eF m0 lA),.x A b (aW Q R S ba V X Y Z),.r 155 [.agg (aW Q R S ba V X Y Z),.agg (bh b6 c5 d0 bE f0)] [.agg (aW dC fh fu fI fJ fK eW kg)],.x F b (aW lP lQ oN oO r6 tg uK lR)])):
 aq 31 [.agg (cl E c d A C H ah),ae i0,ae b] [.agg (cl kX e f (F.set b.toNat (aW dC fh fu fI fJ fK eW kg)) (G.set a.toNat (bY m N n o p a0)) K L),aj true]:=
 h.of
theorem Xu(h:ad (yw A a b C E F G M e c H ah K L d q [.n q true])):
 aq 44 [.agg (cl A a b C E F G),ae d] [.agg (cl M e c H ah K L),aj false]:=
 h.of
theorem atp(h:ad (yw A b c C F G H eW e d E ah K L a q [.n q false,.x C a (aW M N Q R S ba V X),.r 169 [.agg (br A b c),.agg (aW M N Q R S ba V X)] [.agg (aW Y Z dC fh fu fI fJ fK),aj r],.x E a (aW kg kX lO lP lQ oN oO r6)])):
 aq 44 [.agg (cl A b c C F G H),ae a] [.agg (cl eW e d (E.set a.toNat (aW Y Z dC fh fu fI fJ fK)) ah K L),aj r]:=
 h.of
theorem atq{G H Q S A C ba V:ag}{f a c d e:Int}{ah K L M E F N R:ag}{q:Bool}{b:Int}{d23 d24:D}(h:ad [.r 148 [.agg (aW G H Q S A C ba V),.agg (bh f a c d e)] [.agg (aW ah K L M E F N R)],.v ((if (C.length:Int)<(A.length:Int) then (C.length:Int) else (A.length:Int))-1),.r 190 [ae a,ae 0,ae ((if (C.length:Int)<(A.length:Int) then (C.length:Int) else (A.length:Int))-1)] [aj q],.b q true,.x E a [I b],.v (b-1),.x E a [d23],.x F a [d24]]):
 aq 155 [.agg (aW G H Q S A C ba V),.agg (bh f a c d e)] [.agg (aW ah K L M (E.set a.toNat [I (b-1)]) (F.set a.toNat [B true]) N R)]:=
 h.of
def Dw(A:ag)(a:Int)(C E:ag)(d e:Int)(F G H ah:ag)(b c:Int):aC:=bb 34 [(4,aR 4),(6,aR 6),(7,aI.aG (bl.one (aB 30 1 C))),(14,dB 3 A),(15,aU (A.length:Int)),(16,aU a)] [(6,[aB 900007000 4 E,au d,au e,aB 900007003 8 F,aB 900007004 6 G,aB 900007005 5 H,aB 900007006 3 ah]),(4,[.v (aN),au b,au c,.v (aN),.v (aN),.v (aN),.v (aN)])]
theorem atr(h:ad [.i C a [I f,I g,I i],.r 87 [.agg (cl E b c F G H ah),.agg [I f,I g,I i]] [.agg (cl K j k L M N Q),aj q],.g A [[B q]] 1,.h [[B q]],.u a]):
 aV (ap Tryz.f200 0) (Dw C a A E b c F G H ah d e) .normal (Dw C (a+1) (A++[[B q]]) K j k L M N Q d e):=
 h.pf [(7000000,900007000,4),(7000003,900007003,8),(7000004,900007004,6),(7000005,900007005,5),(7000006,900007006,3)] [16,15,14,6,7,4] [6,4]
def Xv(A C:ag)(a b:Int)(E F G H:ag)(c d:Int):aC:=bb 34 [(4,aR 4),(6,aR 6),(7,aI.aG (bl.one (aB 30 1 A)))] [(6,[aB 900007000 4 C,au a,au b,aB 900007003 8 E,aB 900007004 6 F,aB 900007005 5 G,aB 900007006 3 H]),(4,[.v (aN),au c,au d,.v (aN),.v (aN),.v (aN),.v (aN)])]
theorem ats(h:ad [.f ah a false]):
 aV (ap Tryz.f200 0) (Dw ah a A C b c E F G H d e) (.exit 0) (Xv A C b c E F G H d e):=
 h.aS [6,7,4] [6,4]
theorem att(h:ad (Eh A a e Q R S ba X f b C E F G [.l [(7,30,1),(7000000,900007000,4),(7000003,900007003,8),(7000004,900007004,6),(7000005,900007005,5),(7000006,900007006,3)] [16,15,14,6,7,4] [6,4] (ap Tryz.f200 0) (Dw V 0 [] X f b C E F G 0 0) (.exit 0) (Xv H ah c d K L M N g i)])):
 aq 200 [.agg (cl A a e Q R S ba),aO 3 V] [.agg (cl ah c d K L M N),aO 1 H]:=
 h.of
theorem asF(h:ad (rZ a A b c d e f C g i j k q [.n q true])):
 aq 149 [.agg (bY a A b c d e),.agg (bh m n o p l)] [.agg (bY f C g i j k),aj false]:=
 h.of
theorem asG(h:ad (rZ a A b c d e g C i j k l q [.n q false,.r 180 [.agg (bh m n o p f)] [aj r],.n r true])):
 aq 149 [.agg (bY a A b c d e),.agg (bh m n o p f)] [.agg (bY g C i j k l),aj false]:=
 h.of
theorem asH(h:ad (rZ b A a c d e g C i j k l q [.n q false,.r 180 [.agg (bh m n o p f)] [aj r],.n r false,.b (a==0) true])):
 aq 149 [.agg (bY b A a c d e),.agg (bh m n o p f)] [.agg (bY g C i j k l),aj false]:=
 h.of
theorem asI(h:ad (rZ c A a d b e g C i j k l q [.n q false,.r 180 [.agg (bh m n o p f)] [aj r],.n r false,.b (a==0) false,.b (b==1000000000) true])):
 aq 149 [.agg (bY c A a d b e),.agg (bh m n o p f)] [.agg (bY g C i j k l),aj false]:=
 h.of
theorem asJ(h:ad (rZ i A f l g m n C j o k p q [.n q false,.r 180 [.agg (bh b c d e a)] [aj r],.n r false,.b (f==0) false,.b (g==1000000000) false,.g C [(bh b c d e a)] 40,.h [(bh b c d e a)],.v (j-1),.u k])):
 aq 149 [.agg (bY i A f l g m),.agg (bh b c d e a)] [.agg (bY n (C++[(bh b c d e a)]) (j-1) o (k+1) p),aj true]:=
 h.of
theorem asK{E F N Q C R S ba:ag}{a:Int}{V G H ah A K L M:ag}{q:Bool}{b:Int}{d19:D}(h:ad (IC E F N Q C R S ba V G H ah A K L M [.v ((C.length:Int)-1),.r 190 [ae a,ae 0,ae ((C.length:Int)-1)] [aj q],.b q true,.x A a [I b],.u b,.x A a [d19]])):
 aq 150 [.agg (aW E F N Q C R S ba),ae a] [.agg (aW V G H ah (A.set a.toNat [I (b+1)]) K L M)]:=
 h.of
theorem asL(h:ad [.b (e==1) true,.r 44 [.agg (cl A a d ah K L M),ae f] [.agg (cl C b c E F G H),aj q]]):
 aq 87 [.agg (cl A a d ah K L M),.agg [I e,I f,I g]] [.agg (cl C b c E F G H),aj q]:=
 h.of
theorem asM(h:ad [.b (a==1) false,.b (a==2) true,.r 36 [.agg (cl A b e ah K L M),ae f] [.agg (cl C c d E F G H),aj q]]):
 aq 87 [.agg (cl A b e ah K L M),.agg [I a,I f,I g]] [.agg (cl C c d E F G H),aj q]:=
 h.of
def aaW(a:Int)(l:List O):List O:=.b (a==1) false::.b (a==2) false::l
theorem asN(h:ad (aaW a [.b (a==3) true,.r 28 [.agg (cl A b e ah K L M),ae f] [.agg (cl C c d E F G H),aj q]])):
 aq 87 [.agg (cl A b e ah K L M),.agg [I a,I f,I g]] [.agg (cl C c d E F G H),aj q]:=
 h.of
def Qp(a:Int)(l:List O):List O:=aaW a (.b (a==3) false::l)
theorem asO(h:ad (Qp a [.b (a==4) true,.r 31 [.agg (cl A b e ah K L M),ae f,ae g] [.agg (cl C c d E F G H),aj q]])):
 aq 87 [.agg (cl A b e ah K L M),.agg [I a,I f,I g]] [.agg (cl C c d E F G H),aj q]:=
 h.of
theorem asP(h:ad (Qp a [.b (a==4) false,.b (a==5) true,.r 33 [.agg (cl A b e ah K L M),ae f,ae g] [.agg (cl C c d E F G H),aj q]])):
 aq 87 [.agg (cl A b e ah K L M),.agg [I a,I f,I g]] [.agg (cl C c d E F G H),aj q]:=
 h.of
def Qq(a:Int)(l:List O):List O:=Qp a (.b (a==4) false::.b (a==5) false::l)
theorem asQ(h:ad (Qq a [.b (a==6) true,.r 223 [.agg (cl A b e ah K L M),ae f] [.agg (cl C c d E F G H),aj q]])):
 aq 87 [.agg (cl A b e ah K L M),.agg [I a,I f,I g]] [.agg (cl C c d E F G H),aj q]:=
 h.of
theorem asR(h:ad (Qq a [.b (a==6) false,.b (a==7) true,.r 224 [.agg (cl A b e ah K L M),ae f] [.agg (cl C c d E F G H),aj q]])):
 aq 87 [.agg (cl A b e ah K L M),.agg [I a,I f,I g]] [.agg (cl C c d E F G H),aj q]:=
 h.of
theorem asS(h:ad (Qq a [.b (a==6) false,.b (a==7) false,.r 144 [.agg (cl A b e ah K L M)] [.agg (cl C c d E F G H)]])):
 aq 87 [.agg (cl A b e ah K L M),.agg [I a,I f,I g]] [.agg (cl C c d E F G H),aj false]:=
 h.of
theorem asT(h:ad (rZ a A b c d e i C j k f g q [.n q true])):
 aq 154 [.agg (bY a A b c d e)] [.agg (bY i C j k f g),.agg (bh 0 0 0 0 0),aj false]:=
 h.of
theorem asU(h:ad (rZ a A b c d e i C j k f g q [.n q false,.b ((A.length:Int)==0) true])):
 aq 154 [.agg (bY a A b c d e)] [.agg (bY i C j k f g),.agg (bh 0 0 0 0 0),aj false]:=
 h.of
theorem asV(h:ad (rZ a A c d e f o C p g i b q [.n q false,.b ((A.length:Int)==0) false,.a .own,.p ((0:Int)<=(some (1:Int)).getD 0),.p ((some (1:Int)).getD 0<=none.getD (C.length:Int)),.p (none.getD (C.length:Int)<=(C.length:Int)),.u b,.u g,.p ((0:Int)<=0),.p (0<(A.length:Int)),.e A 0 (bh j k l m n)])):
 aq 154 [.agg (bY a A c d e f)] [.agg (bY o (List.take (C.length-1) (List.drop 1 C)) p (g+1) i (b+1)),.agg (bh j k l m n),aj true]:=
 h.of
def Qo(A C E F G H ah K L M N P Q R S ba V:ag)(a b:Int)(q:Bool)(l:List O):List O:=IC A C E F G H ah K L M N P Q R S ba (.r 179 [.agg (br V a b)] [aj q]::l)
theorem asW(h:ad (Qo N Q R S ba V X C E F G H ah K L M A a b q [.n q true])):
 aq 164 [.agg (br A a b),.agg (aW N Q R S ba V X C)] [.agg (aW E F G H ah K L M),aj false]:=
 h.of
def Ej(A C E F G H ah K L M N P Q R S ba V:ag)(a b:Int)(q r:Bool)(l:List O):List O:=Qo A C E F G H ah K L M N P Q R S ba V a b q (.n q false::.r 187 [.agg (br V a b),.agg (aW A C E F G H ah K)] [aj r]::l)
theorem asX(h:ad (Ej E F G H ah K L C M N Q R S ba V X A a b q r [.n r true])):
 aq 164 [.agg (br A a b),.agg (aW E F G H ah K L C)] [.agg (aW M N Q R S ba V X),aj false]:=
 h.of
theorem asY(h:ad (Ej F A G H ah K L E M N Q R S ba V X C a b q r [.n r false,.b (decide ((A.length:Int)>0)) true])):
 aq 164 [.agg (br C a b),.agg (aW F A G H ah K L E)] [.agg (aW M N Q R S ba V X),aj false]:=
 h.of
def Ek(A C E F G H ah K L M N P Q R S ba V:ag)(a b:Int)(q r:Bool)(l:List O):List O:=Ej A C E F G H ah K L M N P Q R S ba V a b q r (.n r false::.b (decide ((C.length:Int)>0)) false::l)
theorem asZ(h:ad (Ek A C G H ah K L F M N Q R S ba V X E a b q r [.b (decide ((A.length:Int)>0)) true])):
 aq 164 [.agg (br E a b),.agg (aW A C G H ah K L F)] [.agg (aW M N Q R S ba V X),aj false]:=
 h.of
theorem as0(h:ad (Ek A C E H ah K L G M N Q R S ba V X F a b q r [.b (decide ((A.length:Int)>0)) false,.b ((E.length:Int)==0) true])):
 aq 164 [.agg (br F a b),.agg (aW A C E H ah K L G)] [.agg (aW M N Q R S ba V X),aj false]:=
 h.of
theorem as1(h:ad (Ek E F C K L M N H ah Q A R S ba V X G f g q r [.b (decide ((E.length:Int)>0)) false,.b ((C.length:Int)==0) false,.p ((0:Int)<=0),.p (0<(C.length:Int)),.e C 0 (bh a b c d e),.a .own,.g ah [(bh a b c d e)] 40,.h [(bh a b c d e)],.p ((0:Int)<=(some (1:Int)).getD 0),.p ((some (1:Int)).getD 0<=none.getD (A.length:Int)),.p (none.getD (A.length:Int)<=(A.length:Int))])):
 aq 164 [.agg (br G f g),.agg (aW E F C K L M N H)] [.agg (aW (ah++[(bh a b c d e)]) Q (List.take (A.length-1) (List.drop 1 A)) R S ba V X),aj true]:=
 h.of
theorem as2(h:ad (IC E C M N Q R S ba V A F G H ah K L [.b ((C.length:Int)==0) false,.a .own,.p ((0:Int)<=(some (1:Int)).getD 0),.p ((some (1:Int)).getD 0<=none.getD (A.length:Int)),.p (none.getD (A.length:Int)<=(A.length:Int)),.p ((0:Int)<=0),.p (0<(C.length:Int)),.e C 0 (bh a b c d e)])):
 aq 146 [.agg (aW E C M N Q R S ba)] [.agg (aW V (List.take (A.length-1) (List.drop 1 A)) F G H ah K L),.agg (bh a b c d e),aj true]:=
 h.of
theorem as3(h:ad (Qo N Q R S ba V X C E F G H ah K L M A a b q [.n q true])):
 aq 169 [.agg (br A a b),.agg (aW N Q R S ba V X C)] [.agg (aW E F G H ah K L M),aj false]:=
 h.of
theorem as4(h:ad (Ej E F G H ah K L C M N Q R S ba V X A a b q r [.n r true])):
 aq 169 [.agg (br A a b),.agg (aW E F G H ah K L C)] [.agg (aW M N Q R S ba V X),aj false]:=
 h.of
theorem asv(h:ad (Ej F A G H ah K L E M N Q R S ba V X C a b q r [.n r false,.b (decide ((A.length:Int)>0)) true])):
 aq 169 [.agg (br C a b),.agg (aW F A G H ah K L E)] [.agg (aW M N Q R S ba V X),aj false]:=
 h.of
theorem asw(h:ad (Ek A C G H ah K L F M N Q R S ba V X E a b q r [.b ((A.length:Int)==0) true])):
 aq 169 [.agg (br E a b),.agg (aW A C G H ah K L F)] [.agg (aW M N Q R S ba V X),aj false]:=
 h.of
def aaV(A C E F G H ah K L M N P Q R S ba V:ag)(a b:Int)(q r:Bool)(c d e f g:Int)(X Y:ag)(s t:Bool)(l:List O):List O:=Ek A C E F G H ah K L M N P Q R S ba V a b q r (.b ((A.length:Int)==0) false::.p ((0:Int)<=0)::.p (0<(A.length:Int))::.e A 0 (bh c d e f g)::.a .own::.p ((0:Int)<=(some (1:Int)).getD 0)::.p ((some (1:Int)).getD 0<=none.getD (L.length:Int))::.p (none.getD (L.length:Int)<=(L.length:Int))::.r 232 [.agg (br V a b),aO 4 F,.agg (bh c d e f g)] [aO 4 X,aO 5 Y,aj s]::.r 265 [.agg (br V a b),.agg (bh c d e f g)] [aj t]::l)
theorem asx{E:ag}{a b:Int}{C F K G L M N H A Y Q Z R S ah ba:ag}{q r:Bool}{d c e f g:Int}{V X:ag}{t s:Bool}{d30:D}(h:ad (aaV C F K G L M N H A Y Q Z R S ah ba E a b q r d c e f g V X t s [.b s true,.x ah c [d30]])):
 aq 169 [.agg (br E a b),.agg (aW C F K G L M N H)] [.agg (aW (List.take (A.length-1) (List.drop 1 A)) X Q V R S (ah.set c.toNat [B true]) ba),aj true]:=
 h.of
theorem asy(h:ad (aaV C F ah G K L M H A Y N Z Q R S ba E a b q r c d e f g V X t s [.b s false])):
 aq 169 [.agg (br E a b),.agg (aW C F ah G K L M H)] [.agg (aW (List.take (A.length-1) (List.drop 1 A)) X N V Q R S ba),aj true]:=
 h.of
theorem Xw(h:ad [.r 55 [.agg (cl C a b A E F G)] [aj q],.b q true,.v ((A.length:Int)-1),.r 190 [ae c,ae 0,ae ((A.length:Int)-1)] [aj r]]):
 aq 145 [.agg (cl C a b A E F G),ae c] [aj r]:=
 h.of
theorem asz(h:ad [.r 55 [.agg (cl A a b C E F G)] [aj q],.b q false]):
 aq 145 [.agg (cl A a b C E F G),ae c] [aj false]:=
 h.of
theorem asA(h:ad [.r 55 [.agg (cl A a b C E F G)] [aj q],.n q true]):
 aq 153 [.agg (cl A a b C E F G),ae c,ae d] [ae (-1)]:=
 h.of
theorem asB(h:ad [.r 55 [.agg (cl A a b C E F G)] [aj q],.n q false,.b (c==d) true]):
 aq 153 [.agg (cl A a b C E F G),ae c,ae d] [ae (-1)]:=
 h.of
theorem asC(h:ad [.r 55 [.agg (cl A a b C E F G)] [aj q],.n q false,.b (c==d) false,.r 60 [.agg (br A a b),ae c,ae d] [ae e]]):
 aq 153 [.agg (cl A a b C E F G),ae c,ae d] [ae e]:=
 h.of
