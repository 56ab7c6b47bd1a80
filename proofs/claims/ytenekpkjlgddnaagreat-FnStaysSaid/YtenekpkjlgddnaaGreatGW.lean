import Derived.Test.YtenekpkjlgddnaaGreatRows
import Derived.Test.YtenekpkjlgddnaaGreatGE
set_option linter.unusedVariables false
set_option linter.unusedSimpArgs false
namespace Go.Proofs.YtenekpkjlgddnaaGreat
open Go.Sx Go.RowKit
variable {a b c d e f g i j k l m n o p a0 b0 c0 d0 e0 f0 i0 j0 k0 l0 m0 n0 : Int} {A C E F G H J K L M N P Q R S U V W X Y Z A0 A1 C0 C1 E0 E1 F0 F1 G0 G1 H0 H1 J0 J1 K0 K1 L0 L1 M0 M1 N0 N1 P0 Q0 R0 S0 U0 V0 W0 X0 Y0 Z0 : LL} {q r s t : Bool}
theorem qxY(h:Oo [.r 56 [.agg (lk a A b c d e)] [.agg (lk i C j k f g)],.r 63 [.agg (lk a A b c d e)] [cB q],.n q true]):
 Rt 46 [.agg (lk a A b c d e)] [.agg (lk i C j k f g),cB false]:=
 h.of
theorem qxZ(h:Oo [.r 56 [.agg (lk b A c a d e)] [.agg (lk i C j k f g)],.r 63 [.agg (lk b A c a d e)] [cB q],.n q false,.b (a==0) true]):
 Rt 46 [.agg (lk b A c a d e)] [.agg (lk i C j k f g),cB false]:=
 h.of
theorem qx0(h:Oo [.r 56 [.agg (lk b A c a d e)] [.agg (lk k C f g i j)],.r 63 [.agg (lk b A c a d e)] [cB q],.n q false,.b (a==0) false,.v (g-1),.u f]):
 Rt 46 [.agg (lk b A c a d e)] [.agg (lk k C (f+1) (g-1) i j),cB true]:=
 h.of
theorem qx1(h:Oo [.r 55 [.agg (wk C E M P Q R S U)] [.agg (wk A F G H J K L N)],.g A [(ri d e a b c)] 40,.h [(ri d e a b c)]]):
 Rt 39 [.agg (wk C E M P Q R S U),.agg (ri d e a b c)] [.agg (wk (A++[(ri d e a b c)]) F G H J K L N)]:=
 h.of
theorem qx2(h:Oo [.b (decide ((if b<a then b else a)<0)) true]):
 Rt 40 [.agg (gr A c d),cI a,cI b] [cI (-1)]:=
 h.of
theorem qx3(h:Oo [.b (decide ((if b<a then b else a)<0)) false,.b (decide ((if b>a then b else a)≥c)) true]):
 Rt 40 [.agg (gr A c d),cI a,cI b] [cI (-1)]:=
 h.of
theorem qx4(h:Oo [.b (decide ((if b<a then b else a)<0)) false,.b (decide ((if b>a then b else a)≥c)) false,.v (a*c),.v (a*c+b)]):
 Rt 40 [.agg (gr A c d),cI a,cI b] [cI (a*c+b)]:=
 h.of
theorem qlY(h:Oo [.r 25 [.agg (cl A a b C E F G)] [.agg (cl M c d H J K L)],.r 43 [.agg (cl A a b C E F G),cI f,cI g] [cI e],.b (decide (e<0)) true]):
 Rt 22 [.agg (cl A a b C E F G),cI f,cI g] [.agg (cl M c d H J K L),cB false]:=
 h.of
theorem qx5(E:LL)(b c:Int)(F A G H:LL)(a0 b0:Int)(P:LL)(d e:Int)(J C K L:LL)(a f:Int)(M:LL)(g i j k l:Int)(N:LL)(m n o p:Int)(q:Bool)(d30 d31 d32 d33 d34 d35:D)(h:Oo [.r 25 [.agg (cl E b c F A G H)] [.agg (cl P d e J C K L)],.r 43 [.agg (cl E b c F A G H),cI a0,cI b0] [cI a],.b (decide (a<0)) false,.p (0≤a),.p (a<(A.length:Int)),.e A a.toNat (lk f M g i j k),.r 46 [.agg (lk f M g i j k)] [.agg (lk l N m n o p),cB q],.p (0≤a),.p (a<(C.length:Int)),.e C a.toNat [d30,d31,d32,d33,d34,d35]]):
 Rt 22 [.agg (cl E b c F A G H),cI a0,cI b0] [.agg (cl P d e J (C.set a.toNat (lk l N m n o p)) K L),cB q]:=
 h.of
theorem qlZ(h:Oo [.r 25 [.agg (cl A a b C E F G)] [.agg (cl M e c H J K L)],.r 34 [.agg (cl A a b C E F G),cI d] [cB q],.n q true]):
 Rt 19 [.agg (cl A a b C E F G),cI d] [.agg (cl M e c H J K L),cB false]:=
 h.of
theorem qx6(C:LL)(b c:Int)(A F G H:LL)(a:Int)(G0:LL)(e d:Int)(E J K L:LL)(q:Bool)(M N P Q R S U V W X Y Z A0 C0 E0 F0:LL)(r:Bool)(d33 d34 d35 d36 d37 d38 d39 d40:D)(h:Oo [.r 25 [.agg (cl C b c A F G H)] [.agg (cl G0 e d E J K L)],.r 34 [.agg (cl C b c A F G H),cI a] [cB q],.n q false,.p (0≤a),.p (a<(A.length:Int)),.e A a.toNat (wk M N P Q R S U V),.r 36 [.agg (gr C b c),.agg (wk M N P Q R S U V)] [.agg (wk W X Y Z A0 C0 E0 F0),cB r],.p (0≤a),.p (a<(E.length:Int)),.e E a.toNat [d33,d34,d35,d36,d37,d38,d39,d40]]):
 Rt 19 [.agg (cl C b c A F G H),cI a] [.agg (cl G0 e d (E.set a.toNat (wk W X Y Z A0 C0 E0 F0)) J K L),cB r]:=
 h.of
theorem ql0(h:Oo [.r 25 [.agg (cl A a b C E F G)] [.agg (cl M e c H J K L)],.r 34 [.agg (cl A a b C E F G),cI d] [cB q],.n q true]):
 Rt 20 [.agg (cl A a b C E F G),cI d] [.agg (cl M e c H J K L),cB false]:=
 h.of
theorem qx7(h:Oo [.r 25 [.agg (cl C b c A E F G)] [.agg (cl N e d H J K L)],.r 34 [.agg (cl C b c A E F G),cI a] [cB q],.n q false,.p (0≤a),.p (a<(A.length:Int)),.e A a.toNat (wk P M Q R S U V W),.b ((M.length:Int)==0) true]):
 Rt 20 [.agg (cl C b c A E F G),cI a] [.agg (cl N e d H J K L),cB false]:=
 h.of
theorem qx8(h:Oo [.r 25 [.agg (cl E b c A F G H)] [.agg (cl R0 l e C J K L)],.r 34 [.agg (cl E b c A F G H),cI a] [cB q],.n q false,.p (0≤a),.p (a<(A.length:Int)),.e A a.toNat (wk S0 M U0 V0 W0 X0 Y0 Z0),.b ((M.length:Int)==0) false,.p (0≤a),.p (a<(A.length:Int)),.e A a.toNat (wk N P Q R S U V W),.r 37 [.agg (wk N P Q R S U V W)] [.agg (wk X Y Z A0 C0 E0 F0 G0),.agg (ri f g i d j),cB r],.r 38 [cI d,cI b] [cI k],.b (k==a) true,.r 39 [.agg (wk X Y Z A0 C0 E0 F0 G0),.agg (ri f g i d j)] [.agg (wk H0 J0 K0 L0 M0 N0 P0 Q0)],.p (0≤a),.p (a<(C.length:Int)),.e C a.toNat (wk A1 C1 E1 F1 G1 H1 J1 K1)]):
 Rt 20 [.agg (cl E b c A F G H),cI a] [.agg (cl R0 l e (C.set a.toNat (wk H0 J0 K0 L0 M0 N0 P0 Q0)) J K L),cB true]:=
 h.of
theorem qx9(h:Oo [.r 25 [.agg (cl E b c A C F G)] [.agg (cl Y b0 g H J K L)],.r 34 [.agg (cl E b c A C F G),cI a] [cB q],.n q false,.p (0≤a),.p (a<(A.length:Int)),.e A a.toNat (wk Z M A0 C0 E0 F0 G0 H0),.b ((M.length:Int)==0) false,.p (0≤a),.p (a<(A.length:Int)),.e A a.toNat (wk N P Q R S U V W),.r 37 [.agg (wk N P Q R S U V W)] [.agg (wk J0 K0 L0 M0 N0 P0 Q0 R0),.agg (ri i j k e l),cB s],.r 38 [cI e,cI b] [cI f],.b (f==a) false,.r 40 [.agg (gr E b c),cI a,cI f] [cI d],.p (0≤d),.p (d<(C.length:Int)),.e C d.toNat (lk m X n o p a0),.r 41 [.agg (lk m X n o p a0),.agg (ri i j k e l)] [.agg (lk c0 S0 d0 e0 f0 i0),cB r],.n r true]):
 Rt 20 [.agg (cl E b c A C F G),cI a] [.agg (cl Y b0 g H J K L),cB false]:=
 h.of
theorem qya(h:Oo [.r 25 [.agg (cl E c d A C H J)] [.agg (cl U0 i0 i F G K L)],.r 34 [.agg (cl E c d A C H J),cI a] [cB q],.n q false,.p (0≤a),.p (a<(A.length:Int)),.e A a.toNat (wk V0 M W0 X0 Y0 Z0 A1 C1),.b ((M.length:Int)==0) false,.p (0≤a),.p (a<(A.length:Int)),.e A a.toNat (wk N P Q R S U V W),.r 37 [.agg (wk N P Q R S U V W)] [.agg (wk X Y Z A0 C0 E0 F0 G0),.agg (ri j e k f l),cB s],.r 38 [cI f,cI c] [cI g],.b (g==a) false,.r 40 [.agg (gr E c d),cI a,cI g] [cI b],.p (0≤b),.p (b<(C.length:Int)),.e C b.toNat (lk m H0 n o p a0),.r 41 [.agg (lk m H0 n o p a0),.agg (ri j e k f l)] [.agg (lk b0 J0 c0 d0 e0 f0),cB r],.n r false,.p (0≤b),.p (b<(G.length:Int)),.e G b.toNat (lk j0 E1 k0 l0 m0 n0),.r 42 [.agg (wk X Y Z A0 C0 E0 F0 G0),cI e] [.agg (wk K0 L0 M0 N0 P0 Q0 R0 S0)],.p (0≤a),.p (a<(F.length:Int)),.e F a.toNat (wk F1 G1 H1 J1 K1 L1 M1 N1)]):
 Rt 20 [.agg (cl E c d A C H J),cI a] [.agg (cl U0 i0 i (F.set a.toNat (wk K0 L0 M0 N0 P0 Q0 R0 S0)) (G.set b.toNat (lk b0 J0 c0 d0 e0 f0)) K L),cB true]:=
 h.of
theorem ql1(h:Oo [.r 25 [.agg (cl A a b C E F G)] [.agg (cl M c d H J K L)],.r 43 [.agg (cl A a b C E F G),cI f,cI g] [cI e],.b (decide (e<0)) true]):
 Rt 21 [.agg (cl A a b C E F G),cI f,cI g] [.agg (cl M c d H J K L),cB false]:=
 h.of
theorem qyb(h:Oo [.r 25 [.agg (cl C b c E A F G)] [.agg (cl N d e H J K L)],.r 43 [.agg (cl C b c E A F G),cI l,cI m] [cI a],.b (decide (a<0)) false,.p (0≤a),.p (a<(A.length:Int)),.e A a.toNat (lk f M g i j k),.r 44 [.agg (lk f M g i j k)] [.agg (lk n P o p a0 b0),.agg (ri c0 d0 e0 f0 i0),cB q],.n q true]):
 Rt 21 [.agg (cl C b c E A F G),cI l,cI m] [.agg (cl N d e H J K L),cB false]:=
 h.of
theorem qyc(h:Oo [.r 25 [.agg (cl G c d A C H J)] [.agg (cl J0 e f E F K L)],.r 43 [.agg (cl G c d A C H J),cI i0,cI b] [cI a],.b (decide (a<0)) false,.p (0≤a),.p (a<(C.length:Int)),.e C a.toNat (lk g M i j k l),.r 44 [.agg (lk g M i j k l)] [.agg (lk m N n o p a0),.agg (ri b0 c0 d0 e0 f0),cB q],.n q false,.p (0≤a),.p (a<(F.length:Int)),.e F a.toNat (lk j0 K0 k0 l0 m0 n0),.p (0≤b),.p (b<(A.length:Int)),.e A b.toNat (wk P Q R S U V W X),.r 45 [.agg (wk P Q R S U V W X),.agg (ri b0 c0 d0 e0 f0)] [.agg (wk Y Z A0 C0 E0 F0 G0 H0)],.p (0≤b),.p (b<(E.length:Int)),.e E b.toNat (wk L0 M0 N0 P0 Q0 R0 S0 U0)]):
 Rt 21 [.agg (cl G c d A C H J),cI i0,cI b] [.agg (cl J0 e f (E.set b.toNat (wk Y Z A0 C0 E0 F0 G0 H0)) (F.set a.toNat (lk m N n o p a0)) K L),cB true]:=
 h.of
theorem ql2(h:Oo [.r 25 [.agg (cl A a b C E F G)] [.agg (cl M e c H J K L)],.r 34 [.agg (cl A a b C E F G),cI d] [cB q],.n q true]):
 Rt 18 [.agg (cl A a b C E F G),cI d] [.agg (cl M e c H J K L),cB false]:=
 h.of
theorem qyd(h:Oo [.r 25 [.agg (cl C b c A F G H)] [.agg (cl G0 e d E J K L)],.r 34 [.agg (cl C b c A F G H),cI a] [cB q],.n q false,.p (0≤a),.p (a<(A.length:Int)),.e A a.toNat (wk M N P Q R S U V),.r 35 [.agg (gr C b c),.agg (wk M N P Q R S U V)] [.agg (wk W X Y Z A0 C0 E0 F0),cB r],.p (0≤a),.p (a<(E.length:Int)),.e E a.toNat (wk H0 J0 K0 L0 M0 N0 P0 Q0)]):
 Rt 18 [.agg (cl C b c A F G H),cI a] [.agg (cl G0 e d (E.set a.toNat (wk W X Y Z A0 C0 E0 F0)) J K L),cB r]:=
 h.of
theorem qye(G H P R C E S U:LL)(f a c d e:Int)(J K L M A F N Q:LL)(q:Bool)(b:Int)(d23 d24:D)(h:Oo [.r 39 [.agg (wk G H P R C E S U),.agg (ri f a c d e)] [.agg (wk J K L M A F N Q)],.v ((if (E.length:Int)<(C.length:Int) then (E.length:Int) else (C.length:Int))-1),.r 48 [cI a,cI 0,cI ((if (E.length:Int)<(C.length:Int) then (E.length:Int) else (C.length:Int))-1)] [cB q],.b q true,.p (0≤a),.p (a<(A.length:Int)),.e A a.toNat [I b],.v (b-1),.p (0≤a),.p (a<(A.length:Int)),.e A a.toNat [d23],.p (0≤a),.p (a<(F.length:Int)),.e F a.toNat [d24]]):
 Rt 45 [.agg (wk G H P R C E S U),.agg (ri f a c d e)] [.agg (wk J K L M (A.set a.toNat [I (b-1)]) (F.set a.toNat [B true]) N Q)]:=
 h.of
theorem qyf(h:Oo [.r 56 [.agg (lk a A b c d e)] [.agg (lk f C g i j k)],.r 63 [.agg (lk a A b c d e)] [cB q],.n q true]):
 Rt 41 [.agg (lk a A b c d e),.agg (ri m n o p l)] [.agg (lk f C g i j k),cB false]:=
 h.of
theorem qyg(h:Oo [.r 56 [.agg (lk a A b c d e)] [.agg (lk g C i j k l)],.r 63 [.agg (lk a A b c d e)] [cB q],.n q false,.r 64 [.agg (ri m n o p f)] [cB r],.n r true]):
 Rt 41 [.agg (lk a A b c d e),.agg (ri m n o p f)] [.agg (lk g C i j k l),cB false]:=
 h.of
theorem qyh(h:Oo [.r 56 [.agg (lk b A a c d e)] [.agg (lk g C i j k l)],.r 63 [.agg (lk b A a c d e)] [cB q],.n q false,.r 64 [.agg (ri m n o p f)] [cB r],.n r false,.b (a==0) true]):
 Rt 41 [.agg (lk b A a c d e),.agg (ri m n o p f)] [.agg (lk g C i j k l),cB false]:=
 h.of
theorem qyi(h:Oo [.r 56 [.agg (lk c A a d b e)] [.agg (lk g C i j k l)],.r 63 [.agg (lk c A a d b e)] [cB q],.n q false,.r 64 [.agg (ri m n o p f)] [cB r],.n r false,.b (a==0) false,.b (b==1000000000) true]):
 Rt 41 [.agg (lk c A a d b e),.agg (ri m n o p f)] [.agg (lk g C i j k l),cB false]:=
 h.of
theorem qyj(h:Oo [.r 56 [.agg (lk i A f l g m)] [.agg (lk n C j o k p)],.r 63 [.agg (lk i A f l g m)] [cB q],.n q false,.r 64 [.agg (ri b c d e a)] [cB r],.n r false,.b (f==0) false,.b (g==1000000000) false,.g C [(ri b c d e a)] 40,.h [(ri b c d e a)],.v (j-1),.u k]):
 Rt 41 [.agg (lk i A f l g m),.agg (ri b c d e a)] [.agg (lk n (C++[(ri b c d e a)]) (j-1) o (k+1) p),cB true]:=
 h.of
theorem qyk(E F N P C Q R S:LL)(a:Int)(U G H J A K L M:LL)(q:Bool)(b:Int)(d19:D)(h:Oo [.r 55 [.agg (wk E F N P C Q R S)] [.agg (wk U G H J A K L M)],.v ((C.length:Int)-1),.r 48 [cI a,cI 0,cI ((C.length:Int)-1)] [cB q],.b q true,.p (0≤a),.p (a<(A.length:Int)),.e A a.toNat [I b],.u b,.p (0≤a),.p (a<(A.length:Int)),.e A a.toNat [d19]]):
 Rt 42 [.agg (wk E F N P C Q R S),cI a] [.agg (wk U G H J (A.set a.toNat [I (b+1)]) K L M)]:=
 h.of
theorem qyl(h:Oo [.b (e==1) true,.r 18 [.agg (cl A a d J K L M),cI f] [.agg (cl C b c E F G H),cB q]]):
 Rt 7 [.agg (cl A a d J K L M),.agg [I e,I f,I g]] [.agg (cl C b c E F G H),cB q]:=
 h.of
theorem qym(h:Oo [.b (a==1) false,.b (a==2) true,.r 19 [.agg (cl A b e J K L M),cI f] [.agg (cl C c d E F G H),cB q]]):
 Rt 7 [.agg (cl A b e J K L M),.agg [I a,I f,I g]] [.agg (cl C c d E F G H),cB q]:=
 h.of
theorem qyn(h:Oo [.b (a==1) false,.b (a==2) false,.b (a==3) true,.r 20 [.agg (cl A b e J K L M),cI f] [.agg (cl C c d E F G H),cB q]]):
 Rt 7 [.agg (cl A b e J K L M),.agg [I a,I f,I g]] [.agg (cl C c d E F G H),cB q]:=
 h.of
theorem qyo(h:Oo [.b (a==1) false,.b (a==2) false,.b (a==3) false,.b (a==4) true,.r 21 [.agg (cl A b e J K L M),cI f,cI g] [.agg (cl C c d E F G H),cB q]]):
 Rt 7 [.agg (cl A b e J K L M),.agg [I a,I f,I g]] [.agg (cl C c d E F G H),cB q]:=
 h.of
theorem qyp(h:Oo [.b (a==1) false,.b (a==2) false,.b (a==3) false,.b (a==4) false,.b (a==5) true,.r 22 [.agg (cl A b e J K L M),cI f,cI g] [.agg (cl C c d E F G H),cB q]]):
 Rt 7 [.agg (cl A b e J K L M),.agg [I a,I f,I g]] [.agg (cl C c d E F G H),cB q]:=
 h.of
theorem qyq(h:Oo [.b (a==1) false,.b (a==2) false,.b (a==3) false,.b (a==4) false,.b (a==5) false,.b (a==6) true,.r 23 [.agg (cl A b e J K L M),cI f] [.agg (cl C c d E F G H),cB q]]):
 Rt 7 [.agg (cl A b e J K L M),.agg [I a,I f,I g]] [.agg (cl C c d E F G H),cB q]:=
 h.of
theorem qyr(h:Oo [.b (a==1) false,.b (a==2) false,.b (a==3) false,.b (a==4) false,.b (a==5) false,.b (a==6) false,.b (a==7) true,.r 24 [.agg (cl A b e J K L M),cI f] [.agg (cl C c d E F G H),cB q]]):
 Rt 7 [.agg (cl A b e J K L M),.agg [I a,I f,I g]] [.agg (cl C c d E F G H),cB q]:=
 h.of
theorem qys(h:Oo [.b (a==1) false,.b (a==2) false,.b (a==3) false,.b (a==4) false,.b (a==5) false,.b (a==6) false,.b (a==7) false,.r 25 [.agg (cl A b e J K L M)] [.agg (cl C c d E F G H)]]):
 Rt 7 [.agg (cl A b e J K L M),.agg [I a,I f,I g]] [.agg (cl C c d E F G H),cB false]:=
 h.of
theorem qyt(h:Oo [.r 56 [.agg (lk a A b c d e)] [.agg (lk i C j k f g)],.r 63 [.agg (lk a A b c d e)] [cB q],.n q true]):
 Rt 44 [.agg (lk a A b c d e)] [.agg (lk i C j k f g),.agg (ri 0 0 0 0 0),cB false]:=
 h.of
theorem qyu(h:Oo [.r 56 [.agg (lk a A b c d e)] [.agg (lk i C j k f g)],.r 63 [.agg (lk a A b c d e)] [cB q],.n q false,.b ((A.length:Int)==0) true]):
 Rt 44 [.agg (lk a A b c d e)] [.agg (lk i C j k f g),.agg (ri 0 0 0 0 0),cB false]:=
 h.of
theorem qyv(h:Oo [.r 56 [.agg (lk a A c d e f)] [.agg (lk o C p g i b)],.r 63 [.agg (lk a A c d e f)] [cB q],.n q false,.b ((A.length:Int)==0) false,.a .own,.p ((0:Int)≤(some (1:Int)).getD 0),.p ((some (1:Int)).getD 0≤none.getD (C.length:Int)),.p (none.getD (C.length:Int)≤(C.length:Int)),.u b,.u g,.p ((0:Int)≤0),.p (0<(A.length:Int)),.e A 0 (ri j k l m n)]):
 Rt 44 [.agg (lk a A c d e f)] [.agg (lk o (List.take (C.length-1) (List.drop 1 C)) p (g+1) i (b+1)),.agg (ri j k l m n),cB true]:=
 h.of
theorem qyw(h:Oo [.r 55 [.agg (wk N P Q R S U V C)] [.agg (wk E F G H J K L M)],.r 59 [.agg (gr A a b)] [cB q],.n q true]):
 Rt 36 [.agg (gr A a b),.agg (wk N P Q R S U V C)] [.agg (wk E F G H J K L M),cB false]:=
 h.of
theorem qyx(h:Oo [.r 55 [.agg (wk E F G H J K L C)] [.agg (wk M N P Q R S U V)],.r 59 [.agg (gr A a b)] [cB q],.n q false,.r 60 [.agg (gr A a b),.agg (wk E F G H J K L C)] [cB r],.n r true]):
 Rt 36 [.agg (gr A a b),.agg (wk E F G H J K L C)] [.agg (wk M N P Q R S U V),cB false]:=
 h.of
theorem qyy(h:Oo [.r 55 [.agg (wk F A G H J K L E)] [.agg (wk M N P Q R S U V)],.r 59 [.agg (gr C a b)] [cB q],.n q false,.r 60 [.agg (gr C a b),.agg (wk F A G H J K L E)] [cB r],.n r false,.b (decide ((A.length:Int)>0)) true]):
 Rt 36 [.agg (gr C a b),.agg (wk F A G H J K L E)] [.agg (wk M N P Q R S U V),cB false]:=
 h.of
theorem qyz(h:Oo [.r 55 [.agg (wk A C G H J K L F)] [.agg (wk M N P Q R S U V)],.r 59 [.agg (gr E a b)] [cB q],.n q false,.r 60 [.agg (gr E a b),.agg (wk A C G H J K L F)] [cB r],.n r false,.b (decide ((C.length:Int)>0)) false,.b (decide ((A.length:Int)>0)) true]):
 Rt 36 [.agg (gr E a b),.agg (wk A C G H J K L F)] [.agg (wk M N P Q R S U V),cB false]:=
 h.of
theorem qyA(h:Oo [.r 55 [.agg (wk A C E H J K L G)] [.agg (wk M N P Q R S U V)],.r 59 [.agg (gr F a b)] [cB q],.n q false,.r 60 [.agg (gr F a b),.agg (wk A C E H J K L G)] [cB r],.n r false,.b (decide ((C.length:Int)>0)) false,.b (decide ((A.length:Int)>0)) false,.b ((E.length:Int)==0) true]):
 Rt 36 [.agg (gr F a b),.agg (wk A C E H J K L G)] [.agg (wk M N P Q R S U V),cB false]:=
 h.of
theorem qyB(h:Oo [.r 55 [.agg (wk E F C K L M N H)] [.agg (wk J P A Q R S U V)],.r 59 [.agg (gr G f g)] [cB q],.n q false,.r 60 [.agg (gr G f g),.agg (wk E F C K L M N H)] [cB r],.n r false,.b (decide ((F.length:Int)>0)) false,.b (decide ((E.length:Int)>0)) false,.b ((C.length:Int)==0) false,.p ((0:Int)≤0),.p (0<(C.length:Int)),.e C 0 (ri a b c d e),.a .own,.g J [(ri a b c d e)] 40,.h [(ri a b c d e)],.p ((0:Int)≤(some (1:Int)).getD 0),.p ((some (1:Int)).getD 0≤none.getD (A.length:Int)),.p (none.getD (A.length:Int)≤(A.length:Int))]):
 Rt 36 [.agg (gr G f g),.agg (wk E F C K L M N H)] [.agg (wk (J++[(ri a b c d e)]) P (List.take (A.length-1) (List.drop 1 A)) Q R S U V),cB true]:=
 h.of
theorem qyC(h:Oo [.r 55 [.agg (wk E C M N P Q R S)] [.agg (wk U A F G H J K L)],.b ((C.length:Int)==0) false,.a .own,.p ((0:Int)≤(some (1:Int)).getD 0),.p ((some (1:Int)).getD 0≤none.getD (A.length:Int)),.p (none.getD (A.length:Int)≤(A.length:Int)),.p ((0:Int)≤0),.p (0<(C.length:Int)),.e C 0 (ri a b c d e)]):
 Rt 37 [.agg (wk E C M N P Q R S)] [.agg (wk U (List.take (A.length-1) (List.drop 1 A)) F G H J K L),.agg (ri a b c d e),cB true]:=
 h.of
theorem qyD(h:Oo [.r 55 [.agg (wk N P Q R S U V C)] [.agg (wk E F G H J K L M)],.r 59 [.agg (gr A a b)] [cB q],.n q true]):
 Rt 35 [.agg (gr A a b),.agg (wk N P Q R S U V C)] [.agg (wk E F G H J K L M),cB false]:=
 h.of
theorem qyE(h:Oo [.r 55 [.agg (wk E F G H J K L C)] [.agg (wk M N P Q R S U V)],.r 59 [.agg (gr A a b)] [cB q],.n q false,.r 60 [.agg (gr A a b),.agg (wk E F G H J K L C)] [cB r],.n r true]):
 Rt 35 [.agg (gr A a b),.agg (wk E F G H J K L C)] [.agg (wk M N P Q R S U V),cB false]:=
 h.of
theorem qyF(h:Oo [.r 55 [.agg (wk F A G H J K L E)] [.agg (wk M N P Q R S U V)],.r 59 [.agg (gr C a b)] [cB q],.n q false,.r 60 [.agg (gr C a b),.agg (wk F A G H J K L E)] [cB r],.n r false,.b (decide ((A.length:Int)>0)) true]):
 Rt 35 [.agg (gr C a b),.agg (wk F A G H J K L E)] [.agg (wk M N P Q R S U V),cB false]:=
 h.of
theorem qyG(h:Oo [.r 55 [.agg (wk A C G H J K L F)] [.agg (wk M N P Q R S U V)],.r 59 [.agg (gr E a b)] [cB q],.n q false,.r 60 [.agg (gr E a b),.agg (wk A C G H J K L F)] [cB r],.n r false,.b (decide ((C.length:Int)>0)) false,.b ((A.length:Int)==0) true]):
 Rt 35 [.agg (gr E a b),.agg (wk A C G H J K L F)] [.agg (wk M N P Q R S U V),cB false]:=
 h.of
theorem qyH(E:LL)(b c:Int)(C G K H L M N J A W P X Q R F S:LL)(q r:Bool)(d a e f g:Int)(U V:LL)(t s:Bool)(d30:D)(h:Oo [.r 55 [.agg (wk C G K H L M N J)] [.agg (wk A W P X Q R F S)],.r 59 [.agg (gr E b c)] [cB q],.n q false,.r 60 [.agg (gr E b c),.agg (wk C G K H L M N J)] [cB r],.n r false,.b (decide ((G.length:Int)>0)) false,.b ((C.length:Int)==0) false,.p ((0:Int)≤0),.p (0<(C.length:Int)),.e C 0 (ri d a e f g),.a .own,.p ((0:Int)≤(some (1:Int)).getD 0),.p ((some (1:Int)).getD 0≤none.getD (A.length:Int)),.p (none.getD (A.length:Int)≤(A.length:Int)),.r 61 [.agg (gr E b c),cS 4 H,.agg (ri d a e f g)] [cS 4 U,cS 5 V,cB t],.r 62 [.agg (gr E b c),.agg (ri d a e f g)] [cB s],.b s true,.p (0≤a),.p (a<(F.length:Int)),.e F a.toNat [d30]]):
 Rt 35 [.agg (gr E b c),.agg (wk C G K H L M N J)] [.agg (wk (List.take (A.length-1) (List.drop 1 A)) V P U Q R (F.set a.toNat [B true]) S),cB true]:=
 h.of
theorem qyI(h:Oo [.r 55 [.agg (wk C F J G K L M H)] [.agg (wk A W N X P Q R S)],.r 59 [.agg (gr E a b)] [cB q],.n q false,.r 60 [.agg (gr E a b),.agg (wk C F J G K L M H)] [cB r],.n r false,.b (decide ((F.length:Int)>0)) false,.b ((C.length:Int)==0) false,.p ((0:Int)≤0),.p (0<(C.length:Int)),.e C 0 (ri c d e f g),.a .own,.p ((0:Int)≤(some (1:Int)).getD 0),.p ((some (1:Int)).getD 0≤none.getD (A.length:Int)),.p (none.getD (A.length:Int)≤(A.length:Int)),.r 61 [.agg (gr E a b),cS 4 G,.agg (ri c d e f g)] [cS 4 U,cS 5 V,cB t],.r 62 [.agg (gr E a b),.agg (ri c d e f g)] [cB s],.b s false]):
 Rt 35 [.agg (gr E a b),.agg (wk C F J G K L M H)] [.agg (wk (List.take (A.length-1) (List.drop 1 A)) V N U P Q R S),cB true]:=
 h.of
theorem ql3(h:Oo [.r 47 [.agg (cl C a b A E F G)] [cB q],.b q true,.v ((A.length:Int)-1),.r 48 [cI c,cI 0,cI ((A.length:Int)-1)] [cB r]]):
 Rt 34 [.agg (cl C a b A E F G),cI c] [cB r]:=
 h.of
theorem qyJ(h:Oo [.r 47 [.agg (cl A a b C E F G)] [cB q],.b q false]):
 Rt 34 [.agg (cl A a b C E F G),cI c] [cB false]:=
 h.of
theorem qyK(h:Oo [.r 47 [.agg (cl A a b C E F G)] [cB q],.n q true]):
 Rt 43 [.agg (cl A a b C E F G),cI c,cI d] [cI (-1)]:=
 h.of
theorem qyL(h:Oo [.r 47 [.agg (cl A a b C E F G)] [cB q],.n q false,.b (c==d) true]):
 Rt 43 [.agg (cl A a b C E F G),cI c,cI d] [cI (-1)]:=
 h.of
theorem qyM(h:Oo [.r 47 [.agg (cl A a b C E F G)] [cB q],.n q false,.b (c==d) false,.r 40 [.agg (gr A a b),cI c,cI d] [cI e]]):
 Rt 43 [.agg (cl A a b C E F G),cI c,cI d] [cI e]:=
 h.of
end Go.Proofs.YtenekpkjlgddnaaGreat
