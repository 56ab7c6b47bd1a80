import Derived.Test.YtdchjefneblpgaaGreatGE
set_option linter.unusedVariables false
set_option linter.unusedSimpArgs false
namespace Go.Proofs.YtdchjefneblpgaaGreat
open Go.Sx Go.RowKit
variable {a b c d e f g i j k l m n o p a0 b4 cW d0 bz f0 g0 i0 j0 dh eP m0 : Int} {A C E F G H al K L M N Q R S bl V X Y Z dL jM fS l5 fT l6 hv l7 hx l9 hy H1 il n4 k5 n5 k6 n9 l' n' ma pb mb oa mc ob me pc pe qn rl uB uD uF : af} {q r s : Bool}
def qi(a:Int)(A:af)(b c d e f:Int)(C:af)(g i j k:Int)(q:Bool)(l:List O):List O:=.r 256 [.agg (bO a A b c d e)] [.agg (bO f C g i j k)]::.r 188 [.agg (bO a A b c d e)] [ao q]::l
theorem agz(h:ad (qi a A b c d e i C j k f g q [.n q true])):
 av 157 [.agg (bO a A b c d e)] [.agg (bO i C j k f g),ao false]:=
 h.of
theorem agA(h:ad (qi b A c a d e i C j k f g q [.n q false,.b (a==0) true])):
 av 157 [.agg (bO b A c a d e)] [.agg (bO i C j k f g),ao false]:=
 h.of
theorem agB(h:ad (qi b A c a d e k C f g i j q [.n q false,.b (a==0) false,.v (g-1),.u f])):
 av 157 [.agg (bO b A c a d e)] [.agg (bO k C (f+1) (g-1) i j),ao true]:=
 h.of
def Bo(A C E F G H al K L M N P Q R S bl:af)(l:List O):List O:=.r 255 [.agg (ba A C E F G H al K)] [.agg (ba L M N P Q R S bl)]::l
theorem agC(h:ad (Bo C E M Q R S bl V A F G H al K L N [.g A [(bi d e a b c)] 40,.h [(bi d e a b c)]])):
 av 148 [.agg (ba C E M Q R S bl V),.agg (bi d e a b c)] [.agg (ba (A++[(bi d e a b c)]) F G H al K L N)]:=
 h.of
theorem agD(h:ad [.b (decide ((if b<a then b else a)<0)) true]):
 av 60 [.agg (bD A c d),ae a,ae b] [ae (-1)]:=
 h.of
theorem agE(h:ad [.b (decide ((if b<a then b else a)<0)) false,.b (decide ((if b>a then b else a)>=c)) true]):
 av 60 [.agg (bD A c d),ae a,ae b] [ae (-1)]:=
 h.of
theorem agF(h:ad [.b (decide ((if b<a then b else a)<0)) false,.b (decide ((if b>a then b else a)>=c)) false,.v (a*c),.v (a*c+b)]):
 av 60 [.agg (bD A c d),ae a,ae b] [ae (a*c+b)]:=
 h.of
def VS(A:af)(a b:Int)(C E F G H:af)(c d:Int)(al K L M:af)(l:List O):List O:=.r 144 [.agg (cl A a b C E F G)] [.agg (cl H c d al K L M)]::l
def Bq(A:af)(a b:Int)(C E F G H:af)(c d:Int)(al K L M:af)(e f g:Int)(l:List O):List O:=VS A a b C E F G H c d al K L M (.r 153 [.agg (cl A a b C E F G),ae e,ae f] [ae g]::l)
theorem Tv(h:ad (Bq A a b C E F G M c d H al K L f g e [.b (decide (e<0)) true])):
 av 33 [.agg (cl A a b C E F G),ae f,ae g] [.agg (cl M c d H al K L),ao false]:=
 h.of
theorem agG{C:af}{b c:Int}{F A G H:af}{a0 b4:Int}{Q:af}{d e:Int}{al E K L:af}{a f:Int}{M:af}{g i j k l:Int}{N:af}{m n o p:Int}{q:Bool}{d30 d31 d32 d33 d34 d35:D}(h:ad (Bq C b c F A G H Q d e al E K L a0 b4 a [.b (decide (a<0)) false,.x A a (bO f M g i j k),.r 157 [.agg (bO f M g i j k)] [.agg (bO l N m n o p),ao q],.x E a [d30,d31,d32,d33,d34,d35]])):
 av 33 [.agg (cl C b c F A G H),ae a0,ae b4] [.agg (cl Q d e al (E.set a.toNat (bO l N m n o p)) K L),ao q]:=
 h.of
def Br(A:af)(a b:Int)(C E F G H:af)(c d:Int)(al K L M:af)(e:Int)(q:Bool)(l:List O):List O:=VS A a b C E F G H c d al K L M (.r 145 [.agg (cl A a b C E F G),ae e] [ao q]::l)
theorem Tw(h:ad (Br A a b C E F G M e c H al K L d q [.n q true])):
 av 36 [.agg (cl A a b C E F G),ae d] [.agg (cl M e c H al K L),ao false]:=
 h.of
theorem agH{A:af}{b c:Int}{C F G H:af}{a:Int}{il:af}{e d:Int}{E al K L:af}{q:Bool}{M N Q R S bl V X Y Z dL fS fT hv hx hy:af}{r:Bool}{d33 d34 d35 d36 d37 d38 d39 d40:D}(h:ad (Br A b c C F G H il e d E al K L a q [.n q false,.x C a (ba M N Q R S bl V X),.r 164 [.agg (bD A b c),.agg (ba M N Q R S bl V X)] [.agg (ba Y Z dL fS fT hv hx hy),ao r],.x E a [d33,d34,d35,d36,d37,d38,d39,d40]])):
 av 36 [.agg (cl A b c C F G H),ae a] [.agg (cl il e d (E.set a.toNat (ba Y Z dL fS fT hv hx hy)) al K L),ao r]:=
 h.of
theorem Tx(h:ad (Br A a b C E F G M e c H al K L d q [.n q true])):
 av 28 [.agg (cl A a b C E F G),ae d] [.agg (cl M e c H al K L),ao false]:=
 h.of
theorem agI(h:ad (Br C a b A E F G N e d H al K L c q [.n q false,.x A c (ba Q M R S bl V X Y),.b ((M.length:Int)==0) true])):
 av 28 [.agg (cl C a b A E F G),ae c] [.agg (cl N e d H al K L),ao false]:=
 h.of
def Mo(A:af)(a b:Int)(C E F G H:af)(c d:Int)(al K L M:af)(e:Int)(q:Bool)(N P Q R S bl V X Y Z jM l5 l6 l7 l9 H1 n4 n5 n9 n' pb oa ob mf:af)(f g i j k:Int)(r:Bool)(m:Int)(l:List O):List O:=Br A a b C E F G H c d al K L M e q (.n q false::.x C e (ba N P Q R S bl V X)::.b ((P.length:Int)==0) false::.x C e (ba Y Z jM l5 l6 l7 l9 H1)::.r 146 [.agg (ba Y Z jM l5 l6 l7 l9 H1)] [.agg (ba n4 n5 n9 n' pb oa ob mf),.agg (bi f g i j k),ao r]::.r 147 [ae j,ae a] [ae m]::l)
theorem agJ(h:ad (Mo C b c A F G H pe l e E al K L a q qn M rl uB uD uF jM l5 N Q R S bl V X Y Z dL fS fT hv hx hy il f g i d j r k [.b (k==a) true,.r 148 [.agg (ba Z dL fS fT hv hx hy il),.agg (bi f g i d j)] [.agg (ba k5 k6 l' ma mb mc me pc)],.x E a (ba l6 l7 l9 H1 n4 n5 n9 n')])):
 av 28 [.agg (cl C b c A F G H),ae a] [.agg (cl pe l e (E.set a.toNat (ba k5 k6 l' ma mb mc me pc)) al K L),ao true]:=
 h.of
theorem agK(h:ad (Mo C b c A E F G dL b4 f H al K L a q fS M fT hv hx hy il k5 N Q R S bl V X Y k6 l' ma mb mc me pc pe g i j d k s e [.b (e==a) false,.r 60 [.agg (bD C b c),ae a,ae e] [ae l],.x E l (bO m Z n o p a0),.r 149 [.agg (bO m Z n o p a0),.agg (bi g i j d k)] [.agg (bO cW qn d0 bz f0 g0),ao r],.n r true])):
 av 28 [.agg (cl C b c A E F G),ae a] [.agg (cl dL b4 f H al K L),ao false]:=
 h.of
theorem agL(h:ad (Mo C b c A E H al rl g0 i F G K L a q uB M uD uF jM l5 l6 l7 N Q R S bl V X Y Z dL fS fT hv hx hy il j e k f l s g [.b (g==a) false,.r 60 [.agg (bD C b c),ae a,ae g] [ae d],.x E d (bO m k5 n o p a0),.r 149 [.agg (bO m k5 n o p a0),.agg (bi j e k f l)] [.agg (bO b4 k6 cW d0 bz f0),ao r],.n r false,.x G d (bO i0 l9 j0 dh eP m0),.r 150 [.agg (ba Z dL fS fT hv hx hy il),ae e] [.agg (ba l' ma mb mc me pc pe qn)],.x F a (ba H1 n4 n5 n9 n' pb oa ob)])):
 av 28 [.agg (cl C b c A E H al),ae a] [.agg (cl rl g0 i (F.set a.toNat (ba l' ma mb mc me pc pe qn)) (G.set d.toNat (bO b4 k6 cW d0 bz f0)) K L),ao true]:=
 h.of
theorem Ty(h:ad (Bq A a b C E F G M c d H al K L f g e [.b (decide (e<0)) true])):
 av 31 [.agg (cl A a b C E F G),ae f,ae g] [.agg (cl M c d H al K L),ao false]:=
 h.of
theorem agM(h:ad (Bq C a c E A F G N d e H al K L l m b [.b (decide (b<0)) false,.x A b (bO f M g i j k),.r 154 [.agg (bO f M g i j k)] [.agg (bO n Q o p a0 b4),.agg (bi cW d0 bz f0 g0),ao q],.n q true])):
 av 31 [.agg (cl C a c E A F G),ae l,ae m] [.agg (cl N d e H al K L),ao false]:=
 h.of
theorem agN(h:ad (Bq E c d A C H al k6 e f F G K L g0 b a [.b (decide (a<0)) false,.x C a (bO g M i j k l),.r 154 [.agg (bO g M i j k l)] [.agg (bO m N n o p a0),.agg (bi b4 cW d0 bz f0),ao q],.n q false,.x G a (bO i0 l' j0 dh eP m0),.x A b (ba Q R S bl V X Y Z),.r 155 [.agg (ba Q R S bl V X Y Z),.agg (bi b4 cW d0 bz f0)] [.agg (ba dL fS fT hv hx hy il k5)],.x F b (ba ma mb mc me pc pe qn rl)])):
 av 31 [.agg (cl E c d A C H al),ae g0,ae b] [.agg (cl k6 e f (F.set b.toNat (ba dL fS fT hv hx hy il k5)) (G.set a.toNat (bO m N n o p a0)) K L),ao true]:=
 h.of
theorem agO{G H Q S A C bl V:af}{f a c d e:Int}{al K L M E F N R:af}{q:Bool}{b:Int}{d23 d24:D}(h:ad [.r 148 [.agg (ba G H Q S A C bl V),.agg (bi f a c d e)] [.agg (ba al K L M E F N R)],.v ((if (C.length:Int)<(A.length:Int) then (C.length:Int) else (A.length:Int))-1),.r 190 [ae a,ae 0,ae ((if (C.length:Int)<(A.length:Int) then (C.length:Int) else (A.length:Int))-1)] [ao q],.b q true,.x E a [I b],.v (b-1),.x E a [d23],.x F a [d24]]):
 av 155 [.agg (ba G H Q S A C bl V),.agg (bi f a c d e)] [.agg (ba al K L M (E.set a.toNat [I (b-1)]) (F.set a.toNat [B true]) N R)]:=
 h.of
theorem agP(h:ad (qi a A b c d e f C g i j k q [.n q true])):
 av 149 [.agg (bO a A b c d e),.agg (bi m n o p l)] [.agg (bO f C g i j k),ao false]:=
 h.of
theorem agQ(h:ad (qi a A b c d e g C i j k l q [.n q false,.r 180 [.agg (bi m n o p f)] [ao r],.n r true])):
 av 149 [.agg (bO a A b c d e),.agg (bi m n o p f)] [.agg (bO g C i j k l),ao false]:=
 h.of
theorem af0(h:ad (qi b A a c d e g C i j k l q [.n q false,.r 180 [.agg (bi m n o p f)] [ao r],.n r false,.b (a==0) true])):
 av 149 [.agg (bO b A a c d e),.agg (bi m n o p f)] [.agg (bO g C i j k l),ao false]:=
 h.of
theorem af1(h:ad (qi c A a d b e g C i j k l q [.n q false,.r 180 [.agg (bi m n o p f)] [ao r],.n r false,.b (a==0) false,.b (b==1000000000) true])):
 av 149 [.agg (bO c A a d b e),.agg (bi m n o p f)] [.agg (bO g C i j k l),ao false]:=
 h.of
theorem af2(h:ad (qi i A f l g m n C j o k p q [.n q false,.r 180 [.agg (bi b c d e a)] [ao r],.n r false,.b (f==0) false,.b (g==1000000000) false,.g C [(bi b c d e a)] 40,.h [(bi b c d e a)],.v (j-1),.u k])):
 av 149 [.agg (bO i A f l g m),.agg (bi b c d e a)] [.agg (bO n (C++[(bi b c d e a)]) (j-1) o (k+1) p),ao true]:=
 h.of
theorem af3{E F N Q C R S bl:af}{a:Int}{V G H al A K L M:af}{q:Bool}{b:Int}{d19:D}(h:ad (Bo E F N Q C R S bl V G H al A K L M [.v ((C.length:Int)-1),.r 190 [ae a,ae 0,ae ((C.length:Int)-1)] [ao q],.b q true,.x A a [I b],.u b,.x A a [d19]])):
 av 150 [.agg (ba E F N Q C R S bl),ae a] [.agg (ba V G H al (A.set a.toNat [I (b+1)]) K L M)]:=
 h.of
theorem af4(h:ad (qi a A b c d e i C j k f g q [.n q true])):
 av 154 [.agg (bO a A b c d e)] [.agg (bO i C j k f g),.agg (bi 0 0 0 0 0),ao false]:=
 h.of
theorem af5(h:ad (qi a A b c d e i C j k f g q [.n q false,.b ((A.length:Int)==0) true])):
 av 154 [.agg (bO a A b c d e)] [.agg (bO i C j k f g),.agg (bi 0 0 0 0 0),ao false]:=
 h.of
theorem af6(h:ad (qi a A c d e f o C p g i b q [.n q false,.b ((A.length:Int)==0) false,.a .own,.p ((0:Int)<=(some (1:Int)).getD 0),.p ((some (1:Int)).getD 0<=none.getD (C.length:Int)),.p (none.getD (C.length:Int)<=(C.length:Int)),.u b,.u g,.p ((0:Int)<=0),.p (0<(A.length:Int)),.e A 0 (bi j k l m n)])):
 av 154 [.agg (bO a A c d e f)] [.agg (bO o (List.take (C.length-1) (List.drop 1 C)) p (g+1) i (b+1)),.agg (bi j k l m n),ao true]:=
 h.of
theorem af7(h:ad (Bo N Q R S bl V X C E F G H al K L M [.r 179 [.agg (bD A a b)] [ao q],.n q true])):
 av 164 [.agg (bD A a b),.agg (ba N Q R S bl V X C)] [.agg (ba E F G H al K L M),ao false]:=
 h.of
def Bp(A C E F G H al K L M N P Q R S bl V:af)(a b:Int)(q r:Bool)(l:List O):List O:=Bo A C E F G H al K L M N P Q R S bl (.r 179 [.agg (bD V a b)] [ao q]::.n q false::.r 187 [.agg (bD V a b),.agg (ba A C E F G H al K)] [ao r]::l)
theorem af8(h:ad (Bp E F G H al K L C M N Q R S bl V X A a b q r [.n r true])):
 av 164 [.agg (bD A a b),.agg (ba E F G H al K L C)] [.agg (ba M N Q R S bl V X),ao false]:=
 h.of
theorem af9(h:ad (Bp F A G H al K L E M N Q R S bl V X C a b q r [.n r false,.b (decide ((A.length:Int)>0)) true])):
 av 164 [.agg (bD C a b),.agg (ba F A G H al K L E)] [.agg (ba M N Q R S bl V X),ao false]:=
 h.of
theorem aga(h:ad (Bp A C G H al K L F M N Q R S bl V X E a b q r [.n r false,.b (decide ((C.length:Int)>0)) false,.b (decide ((A.length:Int)>0)) true])):
 av 164 [.agg (bD E a b),.agg (ba A C G H al K L F)] [.agg (ba M N Q R S bl V X),ao false]:=
 h.of
theorem agb(h:ad (Bp A C E H al K L G M N Q R S bl V X F a b q r [.n r false,.b (decide ((C.length:Int)>0)) false,.b (decide ((A.length:Int)>0)) false,.b ((E.length:Int)==0) true])):
 av 164 [.agg (bD F a b),.agg (ba A C E H al K L G)] [.agg (ba M N Q R S bl V X),ao false]:=
 h.of
theorem agc(h:ad (Bp E F C K L M N H al Q A R S bl V X G f g q r [.n r false,.b (decide ((F.length:Int)>0)) false,.b (decide ((E.length:Int)>0)) false,.b ((C.length:Int)==0) false,.p ((0:Int)<=0),.p (0<(C.length:Int)),.e C 0 (bi a b c d e),.a .own,.g al [(bi a b c d e)] 40,.h [(bi a b c d e)],.p ((0:Int)<=(some (1:Int)).getD 0),.p ((some (1:Int)).getD 0<=none.getD (A.length:Int)),.p (none.getD (A.length:Int)<=(A.length:Int))])):
 av 164 [.agg (bD G f g),.agg (ba E F C K L M N H)] [.agg (ba (al++[(bi a b c d e)]) Q (List.take (A.length-1) (List.drop 1 A)) R S bl V X),ao true]:=
 h.of
theorem agd(h:ad (Bo E C M N Q R S bl V A F G H al K L [.b ((C.length:Int)==0) false,.a .own,.p ((0:Int)<=(some (1:Int)).getD 0),.p ((some (1:Int)).getD 0<=none.getD (A.length:Int)),.p (none.getD (A.length:Int)<=(A.length:Int)),.p ((0:Int)<=0),.p (0<(C.length:Int)),.e C 0 (bi a b c d e)])):
 av 146 [.agg (ba E C M N Q R S bl)] [.agg (ba V (List.take (A.length-1) (List.drop 1 A)) F G H al K L),.agg (bi a b c d e),ao true]:=
 h.of
theorem Tz(h:ad [.r 55 [.agg (cl C a b A E F G)] [ao q],.b q true,.v ((A.length:Int)-1),.r 190 [ae c,ae 0,ae ((A.length:Int)-1)] [ao r]]):
 av 145 [.agg (cl C a b A E F G),ae c] [ao r]:=
 h.of
theorem age(h:ad [.r 55 [.agg (cl A a b C E F G)] [ao q],.b q false]):
 av 145 [.agg (cl A a b C E F G),ae c] [ao false]:=
 h.of
theorem agf(h:ad [.r 55 [.agg (cl A a b C E F G)] [ao q],.n q true]):
 av 153 [.agg (cl A a b C E F G),ae c,ae d] [ae (-1)]:=
 h.of
theorem agh(h:ad [.r 55 [.agg (cl A a b C E F G)] [ao q],.n q false,.b (c==d) true]):
 av 153 [.agg (cl A a b C E F G),ae c,ae d] [ae (-1)]:=
 h.of
theorem agi(h:ad [.r 55 [.agg (cl A a b C E F G)] [ao q],.n q false,.b (c==d) false,.r 60 [.agg (bD A a b),ae c,ae d] [ae e]]):
 av 153 [.agg (cl A a b C E F G),ae c,ae d] [ae e]:=
 h.of
