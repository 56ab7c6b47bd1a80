import Derived.Test.YtdkobdhckkjmeaaGreatRows
import Derived.Test.YtdkobdhckkjmeaaGreatGE
set_option linter.unusedVariables false
set_option linter.unusedSimpArgs false
namespace Go.Proofs.YtdkobdhckkjmeaaGreat
open Go.Sx Go.RowKit
variable {a b c d e f g i j k l m n o p a0 b0 c0 d0 e0 f0 i0 j0 k0 l0 m0 n0 : Int} {A C E F G H J K L M N P Q R S U V W X Y Z A0 A1 C0 C1 E0 E1 F0 F1 G0 G1 H0 H1 J0 J1 K0 K1 L0 L1 M0 M1 N0 N1 P0 Q0 R0 S0 U0 V0 W0 X0 Y0 Z0 : LL} {q r s t : Bool}
def y3o(a:Int)(A:LL)(b c d e f:Int)(C:LL)(g i j k:Int)(q:Bool)(l:List O):List O:=.r 263 [.agg (lk a A b c d e)] [.agg (lk f C g i j k)]::.r 173 [.agg (lk a A b c d e)] [cB q]::l
theorem qNm(h:Oo (y3o a A b c d e i C j k f g q [.n q true])):
 Rt 198 [.agg (lk a A b c d e)] [.agg (lk i C j k f g),cB false]:=
 h.of
theorem qNn(h:Oo (y3o b A c a d e i C j k f g q [.n q false,.b (a==0) true])):
 Rt 198 [.agg (lk b A c a d e)] [.agg (lk i C j k f g),cB false]:=
 h.of
theorem qNo(h:Oo (y3o b A c a d e k C f g i j q [.n q false,.b (a==0) false,.v (g-1),.u f])):
 Rt 198 [.agg (lk b A c a d e)] [.agg (lk k C (f+1) (g-1) i j),cB true]:=
 h.of
def y3p(A C E F G H J K L M N P Q R S U:LL)(l:List O):List O:=.r 262 [.agg (wk A C E F G H J K)] [.agg (wk L M N P Q R S U)]::l
theorem qNx(h:Oo (y3p C E M P Q R S U A F G H J K L N [.g A [(ri d e a b c)] 40,.h [(ri d e a b c)]])):
 Rt 189 [.agg (wk C E M P Q R S U),.agg (ri d e a b c)] [.agg (wk (A++[(ri d e a b c)]) F G H J K L N)]:=
 h.of
theorem qNy(h:Oo [.b (decide ((if b<a then b else a)<0)) true]):
 Rt 61 [.agg (gr A c d),cI a,cI b] [cI (-1)]:=
 h.of
theorem qNz(h:Oo [.b (decide ((if b<a then b else a)<0)) false,.b (decide ((if b>a then b else a)≥c)) true]):
 Rt 61 [.agg (gr A c d),cI a,cI b] [cI (-1)]:=
 h.of
theorem qNA(h:Oo [.b (decide ((if b<a then b else a)<0)) false,.b (decide ((if b>a then b else a)≥c)) false,.v (a*c),.v (a*c+b)]):
 Rt 61 [.agg (gr A c d),cI a,cI b] [cI (a*c+b)]:=
 h.of
def y3t(A:LL)(a b:Int)(C E F G H:LL)(c d:Int)(J K L M:LL)(l:List O):List O:=.r 152 [.agg (cl A a b C E F G)] [.agg (cl H c d J K L M)]::l
def y3u(A:LL)(a b:Int)(C E F G H:LL)(c d:Int)(J K L M:LL)(e f g:Int)(l:List O):List O:=y3t A a b C E F G H c d J K L M (.r 194 [.agg (cl A a b C E F G),cI e,cI f] [cI g]::l)
theorem qts(h:Oo (y3u A a b C E F G M c d H J K L f g e [.b (decide (e<0)) true])):
 Rt 69 [.agg (cl A a b C E F G),cI f,cI g] [.agg (cl M c d H J K L),cB false]:=
 h.of
theorem qNB(C:LL)(b c:Int)(F A G H:LL)(a0 b0:Int)(P:LL)(d e:Int)(J E K L:LL)(a f:Int)(M:LL)(g i j k l:Int)(N:LL)(m n o p:Int)(q:Bool)(d30 d31 d32 d33 d34 d35:D)(h:Oo [.r 152 [.agg (cl C b c F A G H)] [.agg (cl P d e J E K L)],.r 194 [.agg (cl C b c F A G H),cI a0,cI b0] [cI a],.b (decide (a<0)) false,.x A a (lk f M g i j k),.r 198 [.agg (lk f M g i j k)] [.agg (lk l N m n o p),cB q],.x E a [d30,d31,d32,d33,d34,d35]]):
 Rt 69 [.agg (cl C b c F A G H),cI a0,cI b0] [.agg (cl P d e J (E.set a.toNat (lk l N m n o p)) K L),cB q]:=
 h.of
def y3v(A:LL)(a b:Int)(C E F G H:LL)(c d:Int)(J K L M:LL)(e:Int)(q:Bool)(l:List O):List O:=y3t A a b C E F G H c d J K L M (.r 187 [.agg (cl A a b C E F G),cI e] [cB q]::l)
theorem qtt(h:Oo (y3v A a b C E F G M e c H J K L d q [.n q true])):
 Rt 71 [.agg (cl A a b C E F G),cI d] [.agg (cl M e c H J K L),cB false]:=
 h.of
theorem qNC(A:LL)(b c:Int)(C F G H:LL)(a:Int)(G0:LL)(e d:Int)(E J K L:LL)(q:Bool)(M N P Q R S U V W X Y Z A0 C0 E0 F0:LL)(r:Bool)(d33 d34 d35 d36 d37 d38 d39 d40:D)(h:Oo [.r 152 [.agg (cl A b c C F G H)] [.agg (cl G0 e d E J K L)],.r 187 [.agg (cl A b c C F G H),cI a] [cB q],.n q false,.x C a (wk M N P Q R S U V),.r 200 [.agg (gr A b c),.agg (wk M N P Q R S U V)] [.agg (wk W X Y Z A0 C0 E0 F0),cB r],.x E a [d33,d34,d35,d36,d37,d38,d39,d40]]):
 Rt 71 [.agg (cl A b c C F G H),cI a] [.agg (cl G0 e d (E.set a.toNat (wk W X Y Z A0 C0 E0 F0)) J K L),cB r]:=
 h.of
theorem qtu(h:Oo (y3v A a b C E F G M e c H J K L d q [.n q true])):
 Rt 64 [.agg (cl A a b C E F G),cI d] [.agg (cl M e c H J K L),cB false]:=
 h.of
theorem qND(h:Oo (y3v C a b A E F G N e d H J K L c q [.n q false,.x A c (wk P M Q R S U V W),.b ((M.length:Int)==0) true])):
 Rt 64 [.agg (cl C a b A E F G),cI c] [.agg (cl N e d H J K L),cB false]:=
 h.of
def y3w(A:LL)(a b:Int)(C E F G H:LL)(c d:Int)(J K L M:LL)(e:Int)(q:Bool)(N P Q R S U V X Y Z A1 C1 E1 F1 G1 H1 J1 K1 L1 M1 N1 P1 Q1 R1:LL)(f g i j k:Int)(r:Bool)(m:Int)(l:List O):List O:=y3v A a b C E F G H c d J K L M e q (.n q false::.x C e (wk N P Q R S U V X)::.b ((P.length:Int)==0) false::.x C e (wk Y Z A1 C1 E1 F1 G1 H1)::.r 188 [.agg (wk Y Z A1 C1 E1 F1 G1 H1)] [.agg (wk J1 K1 L1 M1 N1 P1 Q1 R1),.agg (ri f g i j k),cB r]::.r 148 [cI j,cI a] [cI m]::l)
theorem qNE(h:Oo (y3w C b c A F G H R0 l e E J K L a q S0 M U0 V0 W0 X0 Y0 Z0 N P Q R S U V W X Y Z A0 C0 E0 F0 G0 f g i d j r k [.b (k==a) true,.r 189 [.agg (wk X Y Z A0 C0 E0 F0 G0),.agg (ri f g i d j)] [.agg (wk H0 J0 K0 L0 M0 N0 P0 Q0)],.x E a (wk A1 C1 E1 F1 G1 H1 J1 K1)])):
 Rt 64 [.agg (cl C b c A F G H),cI a] [.agg (cl R0 l e (E.set a.toNat (wk H0 J0 K0 L0 M0 N0 P0 Q0)) J K L),cB true]:=
 h.of
theorem qNF(h:Oo (y3w C b c A E F G Y b0 f H J K L a q Z M A0 C0 E0 F0 G0 H0 N P Q R S U V W J0 K0 L0 M0 N0 P0 Q0 R0 g i j d k s e [.b (e==a) false,.r 61 [.agg (gr C b c),cI a,cI e] [cI l],.x E l (lk m X n o p a0),.r 190 [.agg (lk m X n o p a0),.agg (ri g i j d k)] [.agg (lk c0 S0 d0 e0 f0 i0),cB r],.n r true])):
 Rt 64 [.agg (cl C b c A E F G),cI a] [.agg (cl Y b0 f H J K L),cB false]:=
 h.of
theorem qNG(h:Oo (y3w C b c A E H J U0 i0 i F G K L a q V0 M W0 X0 Y0 Z0 A1 C1 N P Q R S U V W X Y Z A0 C0 E0 F0 G0 j e k f l s g [.b (g==a) false,.r 61 [.agg (gr C b c),cI a,cI g] [cI d],.x E d (lk m H0 n o p a0),.r 190 [.agg (lk m H0 n o p a0),.agg (ri j e k f l)] [.agg (lk b0 J0 c0 d0 e0 f0),cB r],.n r false,.x G d (lk j0 E1 k0 l0 m0 n0),.r 191 [.agg (wk X Y Z A0 C0 E0 F0 G0),cI e] [.agg (wk K0 L0 M0 N0 P0 Q0 R0 S0)],.x F a (wk F1 G1 H1 J1 K1 L1 M1 N1)])):
 Rt 64 [.agg (cl C b c A E H J),cI a] [.agg (cl U0 i0 i (F.set a.toNat (wk K0 L0 M0 N0 P0 Q0 R0 S0)) (G.set d.toNat (lk b0 J0 c0 d0 e0 f0)) K L),cB true]:=
 h.of
theorem qtv(h:Oo (y3u A a b C E F G M c d H J K L f g e [.b (decide (e<0)) true])):
 Rt 67 [.agg (cl A a b C E F G),cI f,cI g] [.agg (cl M c d H J K L),cB false]:=
 h.of
theorem qNH(h:Oo (y3u C a c E A F G N d e H J K L l m b [.b (decide (b<0)) false,.x A b (lk f M g i j k),.r 195 [.agg (lk f M g i j k)] [.agg (lk n P o p a0 b0),.agg (ri c0 d0 e0 f0 i0),cB q],.n q true])):
 Rt 67 [.agg (cl C a c E A F G),cI l,cI m] [.agg (cl N d e H J K L),cB false]:=
 h.of
theorem qNI(h:Oo (y3u E c d A C H J J0 e f F G K L i0 b a [.b (decide (a<0)) false,.x C a (lk g M i j k l),.r 195 [.agg (lk g M i j k l)] [.agg (lk m N n o p a0),.agg (ri b0 c0 d0 e0 f0),cB q],.n q false,.x G a (lk j0 K0 k0 l0 m0 n0),.x A b (wk P Q R S U V W X),.r 196 [.agg (wk P Q R S U V W X),.agg (ri b0 c0 d0 e0 f0)] [.agg (wk Y Z A0 C0 E0 F0 G0 H0)],.x F b (wk L0 M0 N0 P0 Q0 R0 S0 U0)])):
 Rt 67 [.agg (cl E c d A C H J),cI i0,cI b] [.agg (cl J0 e f (F.set b.toNat (wk Y Z A0 C0 E0 F0 G0 H0)) (G.set a.toNat (lk m N n o p a0)) K L),cB true]:=
 h.of
theorem qtw(h:Oo (y3v A a b C E F G M e c H J K L d q [.n q true])):
 Rt 76 [.agg (cl A a b C E F G),cI d] [.agg (cl M e c H J K L),cB false]:=
 h.of
theorem qNJ(h:Oo (y3v A b c C F G H G0 e d E J K L a q [.n q false,.x C a (wk M N P Q R S U V),.r 203 [.agg (gr A b c),.agg (wk M N P Q R S U V)] [.agg (wk W X Y Z A0 C0 E0 F0),cB r],.x E a (wk H0 J0 K0 L0 M0 N0 P0 Q0)])):
 Rt 76 [.agg (cl A b c C F G H),cI a] [.agg (cl G0 e d (E.set a.toNat (wk W X Y Z A0 C0 E0 F0)) J K L),cB r]:=
 h.of
theorem qNK(G H P R A C S U:LL)(f a c d e:Int)(J K L M E F N Q:LL)(q:Bool)(b:Int)(d23 d24:D)(h:Oo [.r 189 [.agg (wk G H P R A C S U),.agg (ri f a c d e)] [.agg (wk J K L M E F N Q)],.v ((if (C.length:Int)<(A.length:Int) then (C.length:Int) else (A.length:Int))-1),.r 158 [cI a,cI 0,cI ((if (C.length:Int)<(A.length:Int) then (C.length:Int) else (A.length:Int))-1)] [cB q],.b q true,.x E a [I b],.v (b-1),.x E a [d23],.x F a [d24]]):
 Rt 196 [.agg (wk G H P R A C S U),.agg (ri f a c d e)] [.agg (wk J K L M (E.set a.toNat [I (b-1)]) (F.set a.toNat [B true]) N Q)]:=
 h.of
theorem qNO(h:Oo (y3o a A b c d e f C g i j k q [.n q true])):
 Rt 190 [.agg (lk a A b c d e),.agg (ri m n o p l)] [.agg (lk f C g i j k),cB false]:=
 h.of
theorem qNP(h:Oo (y3o a A b c d e g C i j k l q [.n q false,.r 145 [.agg (ri m n o p f)] [cB r],.n r true])):
 Rt 190 [.agg (lk a A b c d e),.agg (ri m n o p f)] [.agg (lk g C i j k l),cB false]:=
 h.of
theorem qNQ(h:Oo (y3o b A a c d e g C i j k l q [.n q false,.r 145 [.agg (ri m n o p f)] [cB r],.n r false,.b (a==0) true])):
 Rt 190 [.agg (lk b A a c d e),.agg (ri m n o p f)] [.agg (lk g C i j k l),cB false]:=
 h.of
theorem qNR(h:Oo (y3o c A a d b e g C i j k l q [.n q false,.r 145 [.agg (ri m n o p f)] [cB r],.n r false,.b (a==0) false,.b (b==1000000000) true])):
 Rt 190 [.agg (lk c A a d b e),.agg (ri m n o p f)] [.agg (lk g C i j k l),cB false]:=
 h.of
theorem qNS(h:Oo (y3o i A f l g m n C j o k p q [.n q false,.r 145 [.agg (ri b c d e a)] [cB r],.n r false,.b (f==0) false,.b (g==1000000000) false,.g C [(ri b c d e a)] 40,.h [(ri b c d e a)],.v (j-1),.u k])):
 Rt 190 [.agg (lk i A f l g m),.agg (ri b c d e a)] [.agg (lk n (C++[(ri b c d e a)]) (j-1) o (k+1) p),cB true]:=
 h.of
theorem qNT(E F N P C Q R S:LL)(a:Int)(U G H J A K L M:LL)(q:Bool)(b:Int)(d19:D)(h:Oo [.r 262 [.agg (wk E F N P C Q R S)] [.agg (wk U G H J A K L M)],.v ((C.length:Int)-1),.r 158 [cI a,cI 0,cI ((C.length:Int)-1)] [cB q],.b q true,.x A a [I b],.u b,.x A a [d19]]):
 Rt 191 [.agg (wk E F N P C Q R S),cI a] [.agg (wk U G H J (A.set a.toNat [I (b+1)]) K L M)]:=
 h.of
theorem qNU(h:Oo [.b (e==1) true,.r 76 [.agg (cl A a d J K L M),cI f] [.agg (cl C b c E F G H),cB q]]):
 Rt 31 [.agg (cl A a d J K L M),.agg [I e,I f,I g]] [.agg (cl C b c E F G H),cB q]:=
 h.of
theorem qNV(h:Oo [.b (a==1) false,.b (a==2) true,.r 71 [.agg (cl A b e J K L M),cI f] [.agg (cl C c d E F G H),cB q]]):
 Rt 31 [.agg (cl A b e J K L M),.agg [I a,I f,I g]] [.agg (cl C c d E F G H),cB q]:=
 h.of
def y3x(a:Int)(l:List O):List O:=.b (a==1) false::.b (a==2) false::l
theorem qNW(h:Oo (y3x a [.b (a==3) true,.r 64 [.agg (cl A b e J K L M),cI f] [.agg (cl C c d E F G H),cB q]])):
 Rt 31 [.agg (cl A b e J K L M),.agg [I a,I f,I g]] [.agg (cl C c d E F G H),cB q]:=
 h.of
def y3y(a:Int)(l:List O):List O:=y3x a (.b (a==3) false::l)
theorem qNX(h:Oo (y3y a [.b (a==4) true,.r 67 [.agg (cl A b e J K L M),cI f,cI g] [.agg (cl C c d E F G H),cB q]])):
 Rt 31 [.agg (cl A b e J K L M),.agg [I a,I f,I g]] [.agg (cl C c d E F G H),cB q]:=
 h.of
theorem qNY(h:Oo (y3y a [.b (a==4) false,.b (a==5) true,.r 69 [.agg (cl A b e J K L M),cI f,cI g] [.agg (cl C c d E F G H),cB q]])):
 Rt 31 [.agg (cl A b e J K L M),.agg [I a,I f,I g]] [.agg (cl C c d E F G H),cB q]:=
 h.of
def y3z(a:Int)(l:List O):List O:=y3y a (.b (a==4) false::.b (a==5) false::l)
theorem qNZ(h:Oo (y3z a [.b (a==6) true,.r 41 [.agg (cl A b e J K L M),cI f] [.agg (cl C c d E F G H),cB q]])):
 Rt 31 [.agg (cl A b e J K L M),.agg [I a,I f,I g]] [.agg (cl C c d E F G H),cB q]:=
 h.of
theorem qN0(h:Oo (y3z a [.b (a==6) false,.b (a==7) true,.r 151 [.agg (cl A b e J K L M),cI f] [.agg (cl C c d E F G H),cB q]])):
 Rt 31 [.agg (cl A b e J K L M),.agg [I a,I f,I g]] [.agg (cl C c d E F G H),cB q]:=
 h.of
theorem qN1(h:Oo (y3z a [.b (a==6) false,.b (a==7) false,.r 152 [.agg (cl A b e J K L M)] [.agg (cl C c d E F G H)]])):
 Rt 31 [.agg (cl A b e J K L M),.agg [I a,I f,I g]] [.agg (cl C c d E F G H),cB false]:=
 h.of
theorem qN2(h:Oo (y3o a A b c d e i C j k f g q [.n q true])):
 Rt 195 [.agg (lk a A b c d e)] [.agg (lk i C j k f g),.agg (ri 0 0 0 0 0),cB false]:=
 h.of
theorem qN3(h:Oo (y3o a A b c d e i C j k f g q [.n q false,.b ((A.length:Int)==0) true])):
 Rt 195 [.agg (lk a A b c d e)] [.agg (lk i C j k f g),.agg (ri 0 0 0 0 0),cB false]:=
 h.of
theorem qN4(h:Oo (y3o a A c d e f o C p g i b q [.n q false,.b ((A.length:Int)==0) false,.a .own,.p ((0:Int)≤(some (1:Int)).getD 0),.p ((some (1:Int)).getD 0≤none.getD (C.length:Int)),.p (none.getD (C.length:Int)≤(C.length:Int)),.u b,.u g,.p ((0:Int)≤0),.p (0<(A.length:Int)),.e A 0 (ri j k l m n)])):
 Rt 195 [.agg (lk a A c d e f)] [.agg (lk o (List.take (C.length-1) (List.drop 1 C)) p (g+1) i (b+1)),.agg (ri j k l m n),cB true]:=
 h.of
def y3q(A C E F G H J K L M N P Q R S U V:LL)(a b:Int)(q:Bool)(l:List O):List O:=y3p A C E F G H J K L M N P Q R S U (.r 144 [.agg (gr V a b)] [cB q]::l)
theorem qN5(h:Oo (y3q N P Q R S U V C E F G H J K L M A a b q [.n q true])):
 Rt 200 [.agg (gr A a b),.agg (wk N P Q R S U V C)] [.agg (wk E F G H J K L M),cB false]:=
 h.of
def y3r(A C E F G H J K L M N P Q R S U V:LL)(a b:Int)(q r:Bool)(l:List O):List O:=y3q A C E F G H J K L M N P Q R S U V a b q (.n q false::.r 172 [.agg (gr V a b),.agg (wk A C E F G H J K)] [cB r]::l)
theorem qN6(h:Oo (y3r E F G H J K L C M N P Q R S U V A a b q r [.n r true])):
 Rt 200 [.agg (gr A a b),.agg (wk E F G H J K L C)] [.agg (wk M N P Q R S U V),cB false]:=
 h.of
theorem qN7(h:Oo (y3r F A G H J K L E M N P Q R S U V C a b q r [.n r false,.b (decide ((A.length:Int)>0)) true])):
 Rt 200 [.agg (gr C a b),.agg (wk F A G H J K L E)] [.agg (wk M N P Q R S U V),cB false]:=
 h.of
def y3s(A C E F G H J K L M N P Q R S U V:LL)(a b:Int)(q r:Bool)(l:List O):List O:=y3r A C E F G H J K L M N P Q R S U V a b q r (.n r false::.b (decide ((C.length:Int)>0)) false::l)
theorem qN8(h:Oo (y3s A C G H J K L F M N P Q R S U V E a b q r [.b (decide ((A.length:Int)>0)) true])):
 Rt 200 [.agg (gr E a b),.agg (wk A C G H J K L F)] [.agg (wk M N P Q R S U V),cB false]:=
 h.of
theorem qN9(h:Oo (y3s A C E H J K L G M N P Q R S U V F a b q r [.b (decide ((A.length:Int)>0)) false,.b ((E.length:Int)==0) true])):
 Rt 200 [.agg (gr F a b),.agg (wk A C E H J K L G)] [.agg (wk M N P Q R S U V),cB false]:=
 h.of
theorem qOa(h:Oo (y3s E F C K L M N H J P A Q R S U V G f g q r [.b (decide ((E.length:Int)>0)) false,.b ((C.length:Int)==0) false,.p ((0:Int)≤0),.p (0<(C.length:Int)),.e C 0 (ri a b c d e),.a .own,.g J [(ri a b c d e)] 40,.h [(ri a b c d e)],.p ((0:Int)≤(some (1:Int)).getD 0),.p ((some (1:Int)).getD 0≤none.getD (A.length:Int)),.p (none.getD (A.length:Int)≤(A.length:Int))])):
 Rt 200 [.agg (gr G f g),.agg (wk E F C K L M N H)] [.agg (wk (J++[(ri a b c d e)]) P (List.take (A.length-1) (List.drop 1 A)) Q R S U V),cB true]:=
 h.of
theorem qOb(h:Oo (y3p E C M N P Q R S U A F G H J K L [.b ((C.length:Int)==0) false,.a .own,.p ((0:Int)≤(some (1:Int)).getD 0),.p ((some (1:Int)).getD 0≤none.getD (A.length:Int)),.p (none.getD (A.length:Int)≤(A.length:Int)),.p ((0:Int)≤0),.p (0<(C.length:Int)),.e C 0 (ri a b c d e)])):
 Rt 188 [.agg (wk E C M N P Q R S)] [.agg (wk U (List.take (A.length-1) (List.drop 1 A)) F G H J K L),.agg (ri a b c d e),cB true]:=
 h.of
theorem qOc(h:Oo (y3q N P Q R S U V C E F G H J K L M A a b q [.n q true])):
 Rt 203 [.agg (gr A a b),.agg (wk N P Q R S U V C)] [.agg (wk E F G H J K L M),cB false]:=
 h.of
theorem qOd(h:Oo (y3r E F G H J K L C M N P Q R S U V A a b q r [.n r true])):
 Rt 203 [.agg (gr A a b),.agg (wk E F G H J K L C)] [.agg (wk M N P Q R S U V),cB false]:=
 h.of
theorem qOe(h:Oo (y3r F A G H J K L E M N P Q R S U V C a b q r [.n r false,.b (decide ((A.length:Int)>0)) true])):
 Rt 203 [.agg (gr C a b),.agg (wk F A G H J K L E)] [.agg (wk M N P Q R S U V),cB false]:=
 h.of
theorem qOf(h:Oo (y3s A C G H J K L F M N P Q R S U V E a b q r [.b ((A.length:Int)==0) true])):
 Rt 203 [.agg (gr E a b),.agg (wk A C G H J K L F)] [.agg (wk M N P Q R S U V),cB false]:=
 h.of
theorem qOg(E:LL)(a b:Int)(C F K G L M N H A W P X Q R J S:LL)(q r:Bool)(d c e f g:Int)(U V:LL)(t s:Bool)(d30:D)(h:Oo [.r 262 [.agg (wk C F K G L M N H)] [.agg (wk A W P X Q R J S)],.r 144 [.agg (gr E a b)] [cB q],.n q false,.r 172 [.agg (gr E a b),.agg (wk C F K G L M N H)] [cB r],.n r false,.b (decide ((F.length:Int)>0)) false,.b ((C.length:Int)==0) false,.p ((0:Int)≤0),.p (0<(C.length:Int)),.e C 0 (ri d c e f g),.a .own,.p ((0:Int)≤(some (1:Int)).getD 0),.p ((some (1:Int)).getD 0≤none.getD (A.length:Int)),.p (none.getD (A.length:Int)≤(A.length:Int)),.r 238 [.agg (gr E a b),cS 4 G,.agg (ri d c e f g)] [cS 4 U,cS 5 V,cB t],.r 292 [.agg (gr E a b),.agg (ri d c e f g)] [cB s],.b s true,.x J c [d30]]):
 Rt 203 [.agg (gr E a b),.agg (wk C F K G L M N H)] [.agg (wk (List.take (A.length-1) (List.drop 1 A)) V P U Q R (J.set c.toNat [B true]) S),cB true]:=
 h.of
theorem qOh(h:Oo (y3s C F J G K L M H A W N X P Q R S E a b q r [.b ((C.length:Int)==0) false,.p ((0:Int)≤0),.p (0<(C.length:Int)),.e C 0 (ri c d e f g),.a .own,.p ((0:Int)≤(some (1:Int)).getD 0),.p ((some (1:Int)).getD 0≤none.getD (A.length:Int)),.p (none.getD (A.length:Int)≤(A.length:Int)),.r 238 [.agg (gr E a b),cS 4 G,.agg (ri c d e f g)] [cS 4 U,cS 5 V,cB t],.r 292 [.agg (gr E a b),.agg (ri c d e f g)] [cB s],.b s false])):
 Rt 203 [.agg (gr E a b),.agg (wk C F J G K L M H)] [.agg (wk (List.take (A.length-1) (List.drop 1 A)) V N U P Q R S),cB true]:=
 h.of
theorem qty(h:Oo [.r 55 [.agg (cl C a b A E F G)] [cB q],.b q true,.v ((A.length:Int)-1),.r 158 [cI c,cI 0,cI ((A.length:Int)-1)] [cB r]]):
 Rt 187 [.agg (cl C a b A E F G),cI c] [cB r]:=
 h.of
theorem qOi(h:Oo [.r 55 [.agg (cl A a b C E F G)] [cB q],.b q false]):
 Rt 187 [.agg (cl A a b C E F G),cI c] [cB false]:=
 h.of
theorem qOj(h:Oo [.r 55 [.agg (cl A a b C E F G)] [cB q],.n q true]):
 Rt 194 [.agg (cl A a b C E F G),cI c,cI d] [cI (-1)]:=
 h.of
theorem qOk(h:Oo [.r 55 [.agg (cl A a b C E F G)] [cB q],.n q false,.b (c==d) true]):
 Rt 194 [.agg (cl A a b C E F G),cI c,cI d] [cI (-1)]:=
 h.of
theorem qOl(h:Oo [.r 55 [.agg (cl A a b C E F G)] [cB q],.n q false,.b (c==d) false,.r 61 [.agg (gr A a b),cI c,cI d] [cI e]]):
 Rt 194 [.agg (cl A a b C E F G),cI c,cI d] [cI e]:=
 h.of
end Go.Proofs.YtdkobdhckkjmeaaGreat
