import Derived.Test.YtdchjefneblpgaaGreatGE
set_option linter.unusedVariables false
set_option linter.unusedSimpArgs false
namespace Go.Proofs.YtdchjefneblpgaaGreat
open Go.Sx Go.RowKit
variable {a b c d e f g i j k l m n o p a0 ch de d0 cd f0 i0 j0 eb fR m0 xA : Int} {A C E F G H au K L M N Q R S bn V X Y Z dK dH eH jC e9 iC fa jh fs jD ft H1 eS E8 ku E9 lh E' l6 Fb mv JF mw y3 sn JG so w5 y5 By nO Ry Rz RA : ah} {q r s t : Bool}
def sf(a:Int)(A:ah)(b c d e f:Int)(C:ah)(g i j k:Int)(q:Bool)(l:List O):List O:=.r 256 [.agg (b' a A b c d e)] [.agg (b' f C g i j k)]::.r 188 [.agg (b' a A b c d e)] [ak q]::l
theorem atx(h:af (sf a A b c d e i C j k f g q [.n q true])):
 av 157 [.agg (b' a A b c d e)] [.agg (b' i C j k f g),ak false]:=
 h.of
theorem aty(h:af (sf b A c a d e i C j k f g q [.n q false,.b (a==0) true])):
 av 157 [.agg (b' b A c a d e)] [.agg (b' i C j k f g),ak false]:=
 h.of
theorem atz(h:af (sf b A c a d e k C f g i j q [.n q false,.b (a==0) false,.v (g-1),.u f])):
 av 157 [.agg (b' b A c a d e)] [.agg (b' k C (f+1) (g-1) i j),ak true]:=
 h.of
def xT(C:ah)(a b:Int)(E F G H A:ah)(c d:Int):aD:=ba 28 [(2,a1 2),(4,a1 4),(6,aY d),(16,aH.aR (bm.one (aK 140100 1 A))),(17,aY (A.length:Int)),(18,aY c)] [(4,[aK 140000 4 C,az a,az b,aK 140003 8 E,aK 140004 6 F,aK 140005 5 G,aK 140006 3 H]),(2,[.v (aS),az 0,az 0,.v (aS),.v (aS),.v (aS),.v (aS)])]
theorem atA(h:af [.i A a [B q],.b q true,.u b,.u a]):
 aT (ap Tryz.f64 0) (xT H d c C E F G A a b) .normal (xT H d c C E F G A (a+1) (b+1)):=
 h.aQ [18,17,16,6,4,2] [4,2]
theorem atB(h:af [.i A a [B q],.b q false,.u a]):
 aT (ap Tryz.f64 0) (xT H d b C E F G A a c) .normal (xT H d b C E F G A (a+1) c):=
 h.aQ [18,17,16,6,4,2] [4,2]
def ZB(A:ah)(a b:Int)(C E F G:ah)(c:Int):aD:=ba 28 [(2,a1 2),(4,a1 4),(6,aY c)] [(4,[aK 140000 4 A,az a,az b,aK 140003 8 C,aK 140004 6 E,aK 140005 5 F,aK 140006 3 G]),(2,[.v (aS),az 0,az 0,.v (aS),.v (aS),.v (aS),.v (aS)])]
theorem atC(h:af [.f G b false]):
 aT (ap Tryz.f64 0) (xT H d a A C E F G b c) (.exit 0) (ZB H d a A C E F c):=
 h.aQ [4,6,2] [4,2]
theorem atD(h:af [.r 201 [.agg (cl H c d au K L M)] [aE 3 Q],.r 200 [.agg (cl H c d au K L M),aE 3 Q] [.agg (cl G b a A C E F),aE 1 N],.l [] [18,17,16,6,4,2] [4,2] (ap Tryz.f64 0) (xT G b a A C E F N 0 0) (.exit 0) (ZB G b a A C E F e)]):
 av 64 [.agg (cl H c d au K L M)] [.agg (cl G b a A C E F),ag e]:=
 h.of
def wj(a b:Int)(A:ah)(d e:Int)(C E F G:ah)(f c:Int):aD:=ba 28 [(1,aY a),(4,a1 4),(6,a1 6),(7,aY b)] [(6,[aK 900007000 4 A,az d,az e,aK 900007003 8 C,aK 900007004 6 E,aK 900007005 5 F,aK 900007006 3 G]),(4,[.v (aS),az f,az c,.v (aS),.v (aS),.v (aS),.v (aS)])]
def P8(a:Int)(A:ah)(b c:Int)(C E F G:ah)(d e:Int):aD:=ba 28 [(4,a1 4),(6,a1 6),(7,aY a)] [(6,[aK 190000 4 A,az b,az c,aK 190003 8 C,aK 190004 6 E,aK 190005 5 F,aK 190006 3 G]),(4,[.v (aS),az d,az e,.v (aS),.v (aS),.v (aS),.v (aS)])]
theorem atE(h:af [.r 167 [ag k,ag 0,ag 3000] [ag f],.b (decide (a<f)) true,.r 64 [.agg (cl A b c C E F G)] [.agg (cl H g i au K L M),ag j],.u a,.b (j==0) true]):
 aT (ap Tryz.f40 0) (wj k a A b c C E F G d e) (.exit 0) (P8 (a+1) H g i au K L M d e):=
 h.aQ [6,7,4] [6,4]
theorem ZC(h:af [.r 167 [ag b,ag 0,ag 3000] [ag g],.b (decide (a<g)) true,.r 64 [.agg (cl A c d C E F G)] [.agg (cl H i j au K L M),ag k],.u a,.b (k==0) false]):
 aT (ap Tryz.f40 0) (wj b a A c d C E F G e f) .normal (wj b (a+1) H i j au K L M e f):=
 h.uu [(7000000,900007000,4),(7000003,900007003,8),(7000004,900007004,6),(7000005,900007005,5),(7000006,900007006,3)] [7,1,6,4] [6,4]
def P9(a:Int)(A:ah)(b c:Int)(C E F G:ah)(d e:Int):aD:=ba 28 [(4,a1 4),(6,a1 6),(7,aY a)] [(6,[aK 900007000 4 A,az b,az c,aK 900007003 8 C,aK 900007004 6 E,aK 900007005 5 F,aK 900007006 3 G]),(4,[.v (aS),az d,az e,.v (aS),.v (aS),.v (aS),.v (aS)])]
theorem atF(h:af [.r 167 [ag g,ag 0,ag 3000] [ag f],.b (decide (a<f)) false]):
 aT (ap Tryz.f40 0) (wj g a A b c C E F G d e) (.exit 0) (P9 a A b c C E F G d e):=
 h.aQ [6,7,4] [6,4]
def EM(A:ah)(a b:Int)(C E F G H:ah)(c d:Int)(au K L M:ah)(l:List O):List O:=.r 144 [.agg (cl A a b C E F G)] [.agg (cl H c d au K L M)]::l
theorem atG(h:af (EM A a f N Q R S bn i b C E F G [.l [(7000000,900007000,4),(7000003,900007003,8),(7000004,900007004,6),(7000005,900007005,5),(7000006,900007006,3)] [7,1,6,4] [6,4] (ap Tryz.f40 0) (wj g 0 bn i b C E F G 0 0) (.exit 0) (P8 c H d e au K L M j k)])):
 av 40 [.agg (cl A a f N Q R S),ag g] [.agg (cl H d e au K L M),ag c]:=
 h.of
theorem atH(h:af (EM A a f N Q R S bn i b C E F G [.l [(7000000,900007000,4),(7000003,900007003,8),(7000004,900007004,6),(7000005,900007005,5),(7000006,900007006,3)] [7,1,6,4] [6,4] (ap Tryz.f40 0) (wj g 0 bn i b C E F G 0 0) (.exit 0) (P9 c H d e au K L M j k)])):
 av 40 [.agg (cl A a f N Q R S),ag g] [.agg (cl H d e au K L M),ag c]:=
 h.of
def Jk(A C E F G H au K L M N P Q R S bn:ah)(l:List O):List O:=.r 255 [.agg (bb A C E F G H au K)] [.agg (bb L M N P Q R S bn)]::l
theorem atI(h:af (Jk C E M Q R S bn V A F G H au K L N [.g A [(bz d e a b c)] 40,.h [(bz d e a b c)]])):
 av 148 [.agg (bb C E M Q R S bn V),.agg (bz d e a b c)] [.agg (bb (A++[(bz d e a b c)]) F G H au K L N)]:=
 h.of
theorem atJ(h:af [.b (decide ((if b<a then b else a)<0)) true]):
 av 60 [.agg (bg A c d),ag a,ag b] [ag (-1)]:=
 h.of
theorem atK(h:af [.b (decide ((if b<a then b else a)<0)) false,.b (decide ((if b>a then b else a)>=c)) true]):
 av 60 [.agg (bg A c d),ag a,ag b] [ag (-1)]:=
 h.of
theorem atL(h:af [.b (decide ((if b<a then b else a)<0)) false,.b (decide ((if b>a then b else a)>=c)) false,.v (a*c),.v (a*c+b)]):
 av 60 [.agg (bg A c d),ag a,ag b] [ag (a*c+b)]:=
 h.of
def EN(A:ah)(a b:Int)(C E F G H:ah)(c d:Int)(au K L M:ah)(e f g:Int)(l:List O):List O:=EM A a b C E F G H c d au K L M (.r 153 [.agg (cl A a b C E F G),ag e,ag f] [ag g]::l)
theorem ZD(h:af (EN A a b C E F G M c d H au K L f g e [.b (decide (e<0)) true])):
 av 33 [.agg (cl A a b C E F G),ag f,ag g] [.agg (cl M c d H au K L),ak false]:=
 h.of
theorem atM{C:ah}{b c:Int}{F A G H:ah}{a0 ch:Int}{Q:ah}{d e:Int}{au E K L:ah}{a f:Int}{M:ah}{g i j k l:Int}{N:ah}{m n o p:Int}{q:Bool}{d30 d31 d32 d33 d34 d35:D}(h:af (EN C b c F A G H Q d e au E K L a0 ch a [.b (decide (a<0)) false,.x A a (b' f M g i j k),.r 157 [.agg (b' f M g i j k)] [.agg (b' l N m n o p),ak q],.x E a [d30,d31,d32,d33,d34,d35]])):
 av 33 [.agg (cl C b c F A G H),ag a0,ag ch] [.agg (cl Q d e au (E.set a.toNat (b' l N m n o p)) K L),ak q]:=
 h.of
def yX(A:ah)(a b:Int)(C E F G H:ah)(c d:Int)(au K L M:ah)(e:Int)(q:Bool)(l:List O):List O:=EM A a b C E F G H c d au K L M (.r 145 [.agg (cl A a b C E F G),ag e] [ak q]::l)
theorem YQ(h:af (yX A a b C E F G M e c H au K L d q [.n q true])):
 av 36 [.agg (cl A a b C E F G),ag d] [.agg (cl M e c H au K L),ak false]:=
 h.of
theorem atN{A:ah}{b c:Int}{C F G H:ah}{a:Int}{eS:ah}{e d:Int}{E au K L:ah}{q:Bool}{M N Q R S bn V X Y Z dK eH e9 fa fs ft:ah}{r:Bool}{d33 d34 d35 d36 d37 d38 d39 d40:D}(h:af (yX A b c C F G H eS e d E au K L a q [.n q false,.x C a (bb M N Q R S bn V X),.r 164 [.agg (bg A b c),.agg (bb M N Q R S bn V X)] [.agg (bb Y Z dK eH e9 fa fs ft),ak r],.x E a [d33,d34,d35,d36,d37,d38,d39,d40]])):
 av 36 [.agg (cl A b c C F G H),ag a] [.agg (cl eS e d (E.set a.toNat (bb Y Z dK eH e9 fa fs ft)) au K L),ak r]:=
 h.of
theorem YR(h:af (yX A a b C E F G M e c H au K L d q [.n q true])):
 av 28 [.agg (cl A a b C E F G),ag d] [.agg (cl M e c H au K L),ak false]:=
 h.of
theorem atO(h:af (yX C a b A E F G N e d H au K L c q [.n q false,.x A c (bb Q M R S bn V X Y),.b ((M.length:Int)==0) true])):
 av 28 [.agg (cl C a b A E F G),ag c] [.agg (cl N e d H au K L),ak false]:=
 h.of
def Q'(A:ah)(a b:Int)(C E F G H:ah)(c d:Int)(au K L M:ah)(e:Int)(q:Bool)(N P Q R S bn V X Y Z dH jC iC jh jD H1 E8 E9 E' Fb JF y3 JG ab2:ah)(f g i j k:Int)(r:Bool)(m:Int)(l:List O):List O:=yX A a b C E F G H c d au K L M e q (.n q false::.x C e (bb N P Q R S bn V X)::.b ((P.length:Int)==0) false::.x C e (bb Y Z dH jC iC jh jD H1)::.r 146 [.agg (bb Y Z dH jC iC jh jD H1)] [.agg (bb E8 E9 E' Fb JF y3 JG ab2),.agg (bz f g i j k),ak r]::.r 147 [ag j,ag a] [ag m]::l)
theorem atP(h:af (Q' C b c A F G H y5 l e E au K L a q By M nO Ry Rz RA dH jC N Q R S bn V X Y Z dK eH e9 fa fs ft eS f g i d j r k [.b (k==a) true,.r 148 [.agg (bb Z dK eH e9 fa fs ft eS),.agg (bz f g i d j)] [.agg (bb ku lh l6 mv mw sn so w5)],.x E a (bb iC jh jD H1 E8 E9 E' Fb)])):
 av 28 [.agg (cl C b c A F G H),ag a] [.agg (cl y5 l e (E.set a.toNat (bb ku lh l6 mv mw sn so w5)) au K L),ak true]:=
 h.of
theorem atQ(h:af (Q' C b c A E F G dK ch f H au K L a q eH M e9 fa fs ft eS ku N Q R S bn V X Y lh l6 mv mw sn so w5 y5 g i j d k s e [.b (e==a) false,.r 60 [.agg (bg C b c),ag a,ag e] [ag l],.x E l (b' m Z n o p a0),.r 149 [.agg (b' m Z n o p a0),.agg (bz g i j d k)] [.agg (b' de By d0 cd f0 i0),ak r],.n r true])):
 av 28 [.agg (cl C b c A E F G),ag a] [.agg (cl dK ch f H au K L),ak false]:=
 h.of
theorem ath(h:af (Q' C b c A E H au nO i0 i F G K L a q Ry M Rz RA dH jC iC jh N Q R S bn V X Y Z dK eH e9 fa fs ft eS j e k f l s g [.b (g==a) false,.r 60 [.agg (bg C b c),ag a,ag g] [ag d],.x E d (b' m ku n o p a0),.r 149 [.agg (b' m ku n o p a0),.agg (bz j e k f l)] [.agg (b' ch lh de d0 cd f0),ak r],.n r false,.x G d (b' j0 jD eb fR m0 xA),.r 150 [.agg (bb Z dK eH e9 fa fs ft eS),ag e] [.agg (bb l6 mv mw sn so w5 y5 By)],.x F a (bb H1 E8 E9 E' Fb JF y3 JG)])):
 av 28 [.agg (cl C b c A E H au),ag a] [.agg (cl nO i0 i (F.set a.toNat (bb l6 mv mw sn so w5 y5 By)) (G.set d.toNat (b' ch lh de d0 cd f0)) K L),ak true]:=
 h.of
theorem YS(h:af (EN A a b C E F G M c d H au K L f g e [.b (decide (e<0)) true])):
 av 31 [.agg (cl A a b C E F G),ag f,ag g] [.agg (cl M c d H au K L),ak false]:=
 h.of
theorem ati(h:af (EN C a c E A F G N d e H au K L l m b [.b (decide (b<0)) false,.x A b (b' f M g i j k),.r 154 [.agg (b' f M g i j k)] [.agg (b' n Q o p a0 ch),.agg (bz de d0 cd f0 i0),ak q],.n q true])):
 av 31 [.agg (cl C a c E A F G),ag l,ag m] [.agg (cl N d e H au K L),ak false]:=
 h.of
theorem atj(h:af (EN E c d A C H au lh e f F G K L i0 b a [.b (decide (a<0)) false,.x C a (b' g M i j k l),.r 154 [.agg (b' g M i j k l)] [.agg (b' m N n o p a0),.agg (bz ch de d0 cd f0),ak q],.n q false,.x G a (b' j0 l6 eb fR m0 xA),.x A b (bb Q R S bn V X Y Z),.r 155 [.agg (bb Q R S bn V X Y Z),.agg (bz ch de d0 cd f0)] [.agg (bb dK eH e9 fa fs ft eS ku)],.x F b (bb mv mw sn so w5 y5 By nO)])):
 av 31 [.agg (cl E c d A C H au),ag i0,ag b] [.agg (cl lh e f (F.set b.toNat (bb dK eH e9 fa fs ft eS ku)) (G.set a.toNat (b' m N n o p a0)) K L),ak true]:=
 h.of
theorem YT(h:af (yX A a b C E F G M e c H au K L d q [.n q true])):
 av 44 [.agg (cl A a b C E F G),ag d] [.agg (cl M e c H au K L),ak false]:=
 h.of
theorem atk(h:af (yX A b c C F G H eS e d E au K L a q [.n q false,.x C a (bb M N Q R S bn V X),.r 169 [.agg (bg A b c),.agg (bb M N Q R S bn V X)] [.agg (bb Y Z dK eH e9 fa fs ft),ak r],.x E a (bb ku lh l6 mv mw sn so w5)])):
 av 44 [.agg (cl A b c C F G H),ag a] [.agg (cl eS e d (E.set a.toNat (bb Y Z dK eH e9 fa fs ft)) au K L),ak r]:=
 h.of
theorem atl{G H Q S A C bn V:ah}{f a c d e:Int}{au K L M E F N R:ah}{q:Bool}{b:Int}{d23 d24:D}(h:af [.r 148 [.agg (bb G H Q S A C bn V),.agg (bz f a c d e)] [.agg (bb au K L M E F N R)],.v ((if (C.length:Int)<(A.length:Int) then (C.length:Int) else (A.length:Int))-1),.r 190 [ag a,ag 0,ag ((if (C.length:Int)<(A.length:Int) then (C.length:Int) else (A.length:Int))-1)] [ak q],.b q true,.x E a [I b],.v (b-1),.x E a [d23],.x F a [d24]]):
 av 155 [.agg (bb G H Q S A C bn V),.agg (bz f a c d e)] [.agg (bb au K L M (E.set a.toNat [I (b-1)]) (F.set a.toNat [B true]) N R)]:=
 h.of
def DF(A:ah)(a:Int)(C E:ah)(d e:Int)(F G H au:ah)(b c:Int):aD:=ba 34 [(4,a1 4),(6,a1 6),(7,aH.aR (bm.one (aK 30 1 C))),(14,c6 3 A),(15,aY (A.length:Int)),(16,aY a)] [(6,[aK 900007000 4 E,az d,az e,aK 900007003 8 F,aK 900007004 6 G,aK 900007005 5 H,aK 900007006 3 au]),(4,[.v (aS),az b,az c,.v (aS),.v (aS),.v (aS),.v (aS)])]
theorem atm(h:af [.i C a [I f,I g,I i],.r 87 [.agg (cl E b c F G H au),.agg [I f,I g,I i]] [.agg (cl K j k L M N Q),ak q],.g A [[B q]] 1,.h [[B q]],.u a]):
 aT (ap Tryz.f200 0) (DF C a A E b c F G H au d e) .normal (DF C (a+1) (A++[[B q]]) K j k L M N Q d e):=
 h.uu [(7000000,900007000,4),(7000003,900007003,8),(7000004,900007004,6),(7000005,900007005,5),(7000006,900007006,3)] [16,15,14,6,7,4] [6,4]
def YU(A C:ah)(a b:Int)(E F G H:ah)(c d:Int):aD:=ba 34 [(4,a1 4),(6,a1 6),(7,aH.aR (bm.one (aK 30 1 A)))] [(6,[aK 900007000 4 C,az a,az b,aK 900007003 8 E,aK 900007004 6 F,aK 900007005 5 G,aK 900007006 3 H]),(4,[.v (aS),az c,az d,.v (aS),.v (aS),.v (aS),.v (aS)])]
theorem atn(h:af [.f au a false]):
 aT (ap Tryz.f200 0) (DF au a A C b c E F G H d e) (.exit 0) (YU A C b c E F G H d e):=
 h.aQ [6,7,4] [6,4]
theorem ato(h:af (EM A a e Q R S bn X f b C E F G [.l [(7,30,1),(7000000,900007000,4),(7000003,900007003,8),(7000004,900007004,6),(7000005,900007005,5),(7000006,900007006,3)] [16,15,14,6,7,4] [6,4] (ap Tryz.f200 0) (DF V 0 [] X f b C E F G 0 0) (.exit 0) (YU H au c d K L M N g i)])):
 av 200 [.agg (cl A a e Q R S bn),aE 3 V] [.agg (cl au c d K L M N),aE 1 H]:=
 h.of
theorem atp(h:af (sf a A b c d e f C g i j k q [.n q true])):
 av 149 [.agg (b' a A b c d e),.agg (bz m n o p l)] [.agg (b' f C g i j k),ak false]:=
 h.of
theorem atq(h:af (sf a A b c d e g C i j k l q [.n q false,.r 180 [.agg (bz m n o p f)] [ak r],.n r true])):
 av 149 [.agg (b' a A b c d e),.agg (bz m n o p f)] [.agg (b' g C i j k l),ak false]:=
 h.of
theorem auS(h:af (sf b A a c d e g C i j k l q [.n q false,.r 180 [.agg (bz m n o p f)] [ak r],.n r false,.b (a==0) true])):
 av 149 [.agg (b' b A a c d e),.agg (bz m n o p f)] [.agg (b' g C i j k l),ak false]:=
 h.of
theorem auT(h:af (sf c A a d b e g C i j k l q [.n q false,.r 180 [.agg (bz m n o p f)] [ak r],.n r false,.b (a==0) false,.b (b==1000000000) true])):
 av 149 [.agg (b' c A a d b e),.agg (bz m n o p f)] [.agg (b' g C i j k l),ak false]:=
 h.of
theorem auU(h:af (sf i A f l g m n C j o k p q [.n q false,.r 180 [.agg (bz b c d e a)] [ak r],.n r false,.b (f==0) false,.b (g==1000000000) false,.g C [(bz b c d e a)] 40,.h [(bz b c d e a)],.v (j-1),.u k])):
 av 149 [.agg (b' i A f l g m),.agg (bz b c d e a)] [.agg (b' n (C++[(bz b c d e a)]) (j-1) o (k+1) p),ak true]:=
 h.of
theorem auV{E F N Q C R S bn:ah}{a:Int}{V G H au A K L M:ah}{q:Bool}{b:Int}{d19:D}(h:af (Jk E F N Q C R S bn V G H au A K L M [.v ((C.length:Int)-1),.r 190 [ag a,ag 0,ag ((C.length:Int)-1)] [ak q],.b q true,.x A a [I b],.u b,.x A a [d19]])):
 av 150 [.agg (bb E F N Q C R S bn),ag a] [.agg (bb V G H au (A.set a.toNat [I (b+1)]) K L M)]:=
 h.of
theorem auW(h:af [.b (e==1) true,.r 44 [.agg (cl A a d au K L M),ag f] [.agg (cl C b c E F G H),ak q]]):
 av 87 [.agg (cl A a d au K L M),.agg [I e,I f,I g]] [.agg (cl C b c E F G H),ak q]:=
 h.of
theorem auX(h:af [.b (a==1) false,.b (a==2) true,.r 36 [.agg (cl A b e au K L M),ag f] [.agg (cl C c d E F G H),ak q]]):
 av 87 [.agg (cl A b e au K L M),.agg [I a,I f,I g]] [.agg (cl C c d E F G H),ak q]:=
 h.of
def abB(a:Int)(l:List O):List O:=.b (a==1) false::.b (a==2) false::l
theorem auY(h:af (abB a [.b (a==3) true,.r 28 [.agg (cl A b e au K L M),ag f] [.agg (cl C c d E F G H),ak q]])):
 av 87 [.agg (cl A b e au K L M),.agg [I a,I f,I g]] [.agg (cl C c d E F G H),ak q]:=
 h.of
def Rb(a:Int)(l:List O):List O:=abB a (.b (a==3) false::l)
theorem auZ(h:af (Rb a [.b (a==4) true,.r 31 [.agg (cl A b e au K L M),ag f,ag g] [.agg (cl C c d E F G H),ak q]])):
 av 87 [.agg (cl A b e au K L M),.agg [I a,I f,I g]] [.agg (cl C c d E F G H),ak q]:=
 h.of
theorem au0(h:af (Rb a [.b (a==4) false,.b (a==5) true,.r 33 [.agg (cl A b e au K L M),ag f,ag g] [.agg (cl C c d E F G H),ak q]])):
 av 87 [.agg (cl A b e au K L M),.agg [I a,I f,I g]] [.agg (cl C c d E F G H),ak q]:=
 h.of
def Rc(a:Int)(l:List O):List O:=Rb a (.b (a==4) false::.b (a==5) false::l)
theorem au1(h:af (Rc a [.b (a==6) true,.r 223 [.agg (cl A b e au K L M),ag f] [.agg (cl C c d E F G H),ak q]])):
 av 87 [.agg (cl A b e au K L M),.agg [I a,I f,I g]] [.agg (cl C c d E F G H),ak q]:=
 h.of
theorem au2(h:af (Rc a [.b (a==6) false,.b (a==7) true,.r 224 [.agg (cl A b e au K L M),ag f] [.agg (cl C c d E F G H),ak q]])):
 av 87 [.agg (cl A b e au K L M),.agg [I a,I f,I g]] [.agg (cl C c d E F G H),ak q]:=
 h.of
theorem au3(h:af (Rc a [.b (a==6) false,.b (a==7) false,.r 144 [.agg (cl A b e au K L M)] [.agg (cl C c d E F G H)]])):
 av 87 [.agg (cl A b e au K L M),.agg [I a,I f,I g]] [.agg (cl C c d E F G H),ak false]:=
 h.of
theorem au4(h:af (sf a A b c d e i C j k f g q [.n q true])):
 av 154 [.agg (b' a A b c d e)] [.agg (b' i C j k f g),.agg (bz 0 0 0 0 0),ak false]:=
 h.of
theorem au5(h:af (sf a A b c d e i C j k f g q [.n q false,.b ((A.length:Int)==0) true])):
 av 154 [.agg (b' a A b c d e)] [.agg (b' i C j k f g),.agg (bz 0 0 0 0 0),ak false]:=
 h.of
theorem au6(h:af (sf a A c d e f o C p g i b q [.n q false,.b ((A.length:Int)==0) false,.a .own,.p ((0:Int)<=(some (1:Int)).getD 0),.p ((some (1:Int)).getD 0<=none.getD (C.length:Int)),.p (none.getD (C.length:Int)<=(C.length:Int)),.u b,.u g,.p ((0:Int)<=0),.p (0<(A.length:Int)),.e A 0 (bz j k l m n)])):
 av 154 [.agg (b' a A c d e f)] [.agg (b' o (List.take (C.length-1) (List.drop 1 C)) p (g+1) i (b+1)),.agg (bz j k l m n),ak true]:=
 h.of
def Ra(A C E F G H au K L M N P Q R S bn V:ah)(a b:Int)(q:Bool)(l:List O):List O:=Jk A C E F G H au K L M N P Q R S bn (.r 179 [.agg (bg V a b)] [ak q]::l)
theorem au7(h:af (Ra N Q R S bn V X C E F G H au K L M A a b q [.n q true])):
 av 164 [.agg (bg A a b),.agg (bb N Q R S bn V X C)] [.agg (bb E F G H au K L M),ak false]:=
 h.of
def EO(A C E F G H au K L M N P Q R S bn V:ah)(a b:Int)(q r:Bool)(l:List O):List O:=Ra A C E F G H au K L M N P Q R S bn V a b q (.n q false::.r 187 [.agg (bg V a b),.agg (bb A C E F G H au K)] [ak r]::l)
theorem au8(h:af (EO E F G H au K L C M N Q R S bn V X A a b q r [.n r true])):
 av 164 [.agg (bg A a b),.agg (bb E F G H au K L C)] [.agg (bb M N Q R S bn V X),ak false]:=
 h.of
theorem au9(h:af (EO F A G H au K L E M N Q R S bn V X C a b q r [.n r false,.b (decide ((A.length:Int)>0)) true])):
 av 164 [.agg (bg C a b),.agg (bb F A G H au K L E)] [.agg (bb M N Q R S bn V X),ak false]:=
 h.of
def EP(A C E F G H au K L M N P Q R S bn V:ah)(a b:Int)(q r:Bool)(l:List O):List O:=EO A C E F G H au K L M N P Q R S bn V a b q r (.n r false::.b (decide ((C.length:Int)>0)) false::l)
theorem ava(h:af (EP A C G H au K L F M N Q R S bn V X E a b q r [.b (decide ((A.length:Int)>0)) true])):
 av 164 [.agg (bg E a b),.agg (bb A C G H au K L F)] [.agg (bb M N Q R S bn V X),ak false]:=
 h.of
theorem avb(h:af (EP A C E H au K L G M N Q R S bn V X F a b q r [.b (decide ((A.length:Int)>0)) false,.b ((E.length:Int)==0) true])):
 av 164 [.agg (bg F a b),.agg (bb A C E H au K L G)] [.agg (bb M N Q R S bn V X),ak false]:=
 h.of
theorem avc(h:af (EP E F C K L M N H au Q A R S bn V X G f g q r [.b (decide ((E.length:Int)>0)) false,.b ((C.length:Int)==0) false,.p ((0:Int)<=0),.p (0<(C.length:Int)),.e C 0 (bz a b c d e),.a .own,.g au [(bz a b c d e)] 40,.h [(bz a b c d e)],.p ((0:Int)<=(some (1:Int)).getD 0),.p ((some (1:Int)).getD 0<=none.getD (A.length:Int)),.p (none.getD (A.length:Int)<=(A.length:Int))])):
 av 164 [.agg (bg G f g),.agg (bb E F C K L M N H)] [.agg (bb (au++[(bz a b c d e)]) Q (List.take (A.length-1) (List.drop 1 A)) R S bn V X),ak true]:=
 h.of
theorem avd(h:af (Jk E C M N Q R S bn V A F G H au K L [.b ((C.length:Int)==0) false,.a .own,.p ((0:Int)<=(some (1:Int)).getD 0),.p ((some (1:Int)).getD 0<=none.getD (A.length:Int)),.p (none.getD (A.length:Int)<=(A.length:Int)),.p ((0:Int)<=0),.p (0<(C.length:Int)),.e C 0 (bz a b c d e)])):
 av 146 [.agg (bb E C M N Q R S bn)] [.agg (bb V (List.take (A.length-1) (List.drop 1 A)) F G H au K L),.agg (bz a b c d e),ak true]:=
 h.of
theorem ave(h:af (Ra N Q R S bn V X C E F G H au K L M A a b q [.n q true])):
 av 169 [.agg (bg A a b),.agg (bb N Q R S bn V X C)] [.agg (bb E F G H au K L M),ak false]:=
 h.of
theorem avf(h:af (EO E F G H au K L C M N Q R S bn V X A a b q r [.n r true])):
 av 169 [.agg (bg A a b),.agg (bb E F G H au K L C)] [.agg (bb M N Q R S bn V X),ak false]:=
 h.of
theorem avg(h:af (EO F A G H au K L E M N Q R S bn V X C a b q r [.n r false,.b (decide ((A.length:Int)>0)) true])):
 av 169 [.agg (bg C a b),.agg (bb F A G H au K L E)] [.agg (bb M N Q R S bn V X),ak false]:=
 h.of
theorem avh(h:af (EP A C G H au K L F M N Q R S bn V X E a b q r [.b ((A.length:Int)==0) true])):
 av 169 [.agg (bg E a b),.agg (bb A C G H au K L F)] [.agg (bb M N Q R S bn V X),ak false]:=
 h.of
def abA(A C E F G H au K L M N P Q R S bn V:ah)(a b:Int)(q r:Bool)(c d e f g:Int)(X Y:ah)(s t:Bool)(l:List O):List O:=EP A C E F G H au K L M N P Q R S bn V a b q r (.b ((A.length:Int)==0) false::.p ((0:Int)<=0)::.p (0<(A.length:Int))::.e A 0 (bz c d e f g)::.a .own::.p ((0:Int)<=(some (1:Int)).getD 0)::.p ((some (1:Int)).getD 0<=none.getD (L.length:Int))::.p (none.getD (L.length:Int)<=(L.length:Int))::.r 232 [.agg (bg V a b),aE 4 F,.agg (bz c d e f g)] [aE 4 X,aE 5 Y,ak s]::.r 265 [.agg (bg V a b),.agg (bz c d e f g)] [ak t]::l)
theorem aur{E:ah}{a b:Int}{C F K G L M N H A Y Q Z R S au bn:ah}{q r:Bool}{d c e f g:Int}{V X:ah}{t s:Bool}{d30:D}(h:af (abA C F K G L M N H A Y Q Z R S au bn E a b q r d c e f g V X t s [.b s true,.x au c [d30]])):
 av 169 [.agg (bg E a b),.agg (bb C F K G L M N H)] [.agg (bb (List.take (A.length-1) (List.drop 1 A)) X Q V R S (au.set c.toNat [B true]) bn),ak true]:=
 h.of
theorem aus(h:af (abA C F au G K L M H A Y N Z Q R S bn E a b q r c d e f g V X t s [.b s false])):
 av 169 [.agg (bg E a b),.agg (bb C F au G K L M H)] [.agg (bb (List.take (A.length-1) (List.drop 1 A)) X N V Q R S bn),ak true]:=
 h.of
theorem YV(h:af [.r 55 [.agg (cl C a b A E F G)] [ak q],.b q true,.v ((A.length:Int)-1),.r 190 [ag c,ag 0,ag ((A.length:Int)-1)] [ak r]]):
 av 145 [.agg (cl C a b A E F G),ag c] [ak r]:=
 h.of
theorem aut(h:af [.r 55 [.agg (cl A a b C E F G)] [ak q],.b q false]):
 av 145 [.agg (cl A a b C E F G),ag c] [ak false]:=
 h.of
theorem auu(h:af [.r 55 [.agg (cl A a b C E F G)] [ak q],.n q true]):
 av 153 [.agg (cl A a b C E F G),ag c,ag d] [ag (-1)]:=
 h.of
theorem auv(h:af [.r 55 [.agg (cl A a b C E F G)] [ak q],.n q false,.b (c==d) true]):
 av 153 [.agg (cl A a b C E F G),ag c,ag d] [ag (-1)]:=
 h.of
theorem auw(h:af [.r 55 [.agg (cl A a b C E F G)] [ak q],.n q false,.b (c==d) false,.r 60 [.agg (bg A a b),ag c,ag d] [ag e]]):
 av 153 [.agg (cl A a b C E F G),ag c,ag d] [ag e]:=
 h.of
