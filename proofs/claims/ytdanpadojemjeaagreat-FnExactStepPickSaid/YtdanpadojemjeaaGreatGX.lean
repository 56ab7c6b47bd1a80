import Derived.Test.YtdanpadojemjeaaGreatRows
import Derived.Test.YtdanpadojemjeaaGreatGE
namespace Go.Proofs.YtdanpadojemjeaaGreat
open Go.Sx Go.RowKit Go.Proofs.Tryz
variable {a b c d e f g i j k l m n o p a0 b0 c0 d0 e0 f0 i0 j0 k0 : Int} {A C E F G H J K L M N P Q R S U V W X Y Z A0 C0 E0 F0 G0 H0 J0 K0 L0 M0 N0 P0 : LL} {q r s t u v : Bool}
theorem qJ3(h:Oo [.r 186 [.agg (lk f C g i j k)] [.agg (lk c A d e a b)],.r 188 [.agg (lk c A d e a b)] [cB q],.n q true]):
 Rt 217 [.agg (lk f C g i j k)] [.agg (lk c A d e a b),cB false]:=
 h.of
theorem qJ4(h:Oo [.r 186 [.agg (lk f C g i j k)] [.agg (lk d A e a b c)],.r 188 [.agg (lk d A e a b c)] [cB q],.n q false,.b (a==0) true]):
 Rt 217 [.agg (lk f C g i j k)] [.agg (lk d A e a b c),cB false]:=
 h.of
theorem qJ5(h:Oo [.r 186 [.agg (lk f C g i j k)] [.agg (lk e A b a c d)],.r 188 [.agg (lk e A b a c d)] [cB q],.n q false,.b (a==0) false,.v (a-1),.u b]):
 Rt 217 [.agg (lk f C g i j k)] [.agg (lk e A (b+1) (a-1) c d),cB true]:=
 h.of
theorem qpO(h:Oo [.a .wr,.r 137 [cI b,cI 0,cI (IntKind.i64.wrap (a-1))] [cB q],.n q true]):
 Rt 213 [.agg (gr A a c),cI b,cI d] [cI (-1)]:=
 h.of
theorem qpP(h:Oo [.a .wr,.r 137 [cI b,cI 0,cI (IntKind.i64.wrap (a-1))] [cB q],.n q false,.a .wr,.r 137 [cI c,cI 0,cI (IntKind.i64.wrap (a-1))] [cB r],.n r true]):
 Rt 213 [.agg (gr A a d),cI b,cI c] [cI (-1)]:=
 h.of
theorem qJ6(h:Oo [.a .wr,.r 137 [cI b,cI 0,cI (IntKind.i64.wrap (a-1))] [cB q],.n q false,.a .wr,.r 137 [cI c,cI 0,cI (IntKind.i64.wrap (a-1))] [cB r],.n r false,.b (decide (a<1)) true]):
 Rt 213 [.agg (gr A a d),cI b,cI c] [cI (-1)]:=
 h.of
theorem qpQ(h:Oo [.a .wr,.r 137 [cI b,cI 0,cI (IntKind.i64.wrap (a-1))] [cB q],.n q false,.a .wr,.r 137 [cI c,cI 0,cI (IntKind.i64.wrap (a-1))] [cB r],.n r false,.b (decide (a<1)) false,.a .wr,.a .wr]):
 Rt 213 [.agg (gr A a d),cI b,cI c] [cI (IntKind.i64.wrap (IntKind.i64.wrap (b*a)+c))]:=
 h.of
theorem qJ7(h:Oo [.r 186 [.agg (lk f C g i j k)] [.agg (lk a A b c d e)],.r 188 [.agg (lk a A b c d e)] [cB q],.n q true]):
 Rt 214 [.agg (lk f C g i j k),.agg (ri m n o p l)] [.agg (lk a A b c d e),cB false]:=
 h.of
theorem qJ8(h:Oo [.r 186 [.agg (lk f C i j k l)] [.agg (lk a A b c d e)],.r 188 [.agg (lk a A b c d e)] [cB q],.n q false,.r 164 [.agg (ri m n o p g)] [cB r],.n r true]):
 Rt 214 [.agg (lk f C i j k l),.agg (ri m n o p g)] [.agg (lk a A b c d e),cB false]:=
 h.of
theorem qJ9(h:Oo [.r 186 [.agg (lk f C i j k l)] [.agg (lk b A a c d e)],.r 188 [.agg (lk b A a c d e)] [cB q],.n q false,.r 164 [.agg (ri m n o p g)] [cB r],.n r false,.b (a==0) true]):
 Rt 214 [.agg (lk f C i j k l),.agg (ri m n o p g)] [.agg (lk b A a c d e),cB false]:=
 h.of
theorem qKa(h:Oo [.r 186 [.agg (lk f C i j k l)] [.agg (lk c A a d b e)],.r 188 [.agg (lk c A a d b e)] [cB q],.n q false,.r 164 [.agg (ri m n o p g)] [cB r],.n r false,.b (a==0) false,.b (decide (b≥1000000000)) true]):
 Rt 214 [.agg (lk f C i j k l),.agg (ri m n o p g)] [.agg (lk c A a d b e),cB false]:=
 h.of
theorem qKb(h:Oo [.r 186 [.agg (lk l C m n o p)] [.agg (lk i A b j c k)],.r 188 [.agg (lk i A b j c k)] [cB q],.n q false,.r 164 [.agg (ri d e f g a)] [cB r],.n r false,.b (b==0) false,.b (decide (c≥1000000000)) false,.g A [(ri d e f g a)] 40,.h [(ri d e f g a)],.v (b-1),.u c]):
 Rt 214 [.agg (lk l C m n o p),.agg (ri d e f g a)] [.agg (lk i (A++[(ri d e f g a)]) (b-1) j (c+1) k),cB true]:=
 h.of
theorem qKc(h:Oo [.a (.resR [none] (RR.new [D.sl 4 A,I a,I b,D.sl 8 C,D.sl 6 E,D.sl 5 F,D.sl 3 G,B q])),.a (.resR [some [D.sl 4 H,I c,I d,D.sl 8 J,D.sl 6 K,D.sl 5 L,D.sl 3 M,B s],none] (RR.vals [cB r])),.p (RetR prog 55 [RA.ro (.agg (cl N e f P Q R S))] (RR.new [D.sl 4 A,I a,I b,D.sl 8 C,D.sl 6 E,D.sl 5 F,D.sl 3 G,B q])),.p (RetR prog 87 [RA.ref [D.sl 4 A,I a,I b,D.sl 8 C,D.sl 6 E,D.sl 5 F,D.sl 3 G,B q] [D.sl 4 H,I c,I d,D.sl 8 J,D.sl 6 K,D.sl 5 L,D.sl 3 M,B s],RA.ro (.agg [I g,I i,I j])] (RR.vals [cB r]))]):
 Rt 22 [.agg (cl N e f P Q R S),.agg [I g,I i,I j]] [.agg (cl H c d J K L M),cB r]:=
 h.of
theorem qKd(h:Oo [.r 186 [.agg (lk f C g i j k)] [.agg (lk c A d e a b)],.r 188 [.agg (lk c A d e a b)] [cB q],.n q true]):
 Rt 216 [.agg (lk f C g i j k)] [.agg (lk c A d e a b),.agg (ri 0 0 0 0 0),cB false]:=
 h.of
theorem qKe(h:Oo [.r 186 [.agg (lk f C g i j k)] [.agg (lk c A d e a b)],.r 188 [.agg (lk c A d e a b)] [cB q],.n q false,.b ((A.length:Int)==0) true]):
 Rt 216 [.agg (lk f C g i j k)] [.agg (lk c A d e a b),.agg (ri 0 0 0 0 0),cB false]:=
 h.of
theorem qKf(h:Oo [.r 186 [.agg (lk f C m n o p)] [.agg (lk d A e b c a)],.r 188 [.agg (lk d A e b c a)] [cB q],.n q false,.b ((A.length:Int)==0) false,.p ((0:Int)≤0),.p (0<(A.length:Int)),.e A 0 (ri g i j k l),.p ((0:Int)≤(some (1:Int)).getD 0),.p ((some (1:Int)).getD 0≤none.getD (A.length:Int)),.p (none.getD (A.length:Int)≤(A.length:Int)),.g ([]:LL) (List.take (A.length-1) (List.drop 1 A)) 40,.h (List.take (A.length-1) (List.drop 1 A)),.u a,.u b]):
 Rt 216 [.agg (lk f C m n o p)] [.agg (lk d ([]++List.take (A.length-1) (List.drop 1 A)) e (b+1) c (a+1)),.agg (ri g i j k l),cB true]:=
 h.of
theorem qKg(h:Oo [.r 213 [.agg (gr A a b),cI c,cI d] [cI e],.n q true]):
 Rr 148 [RA.ref [D.sl 4 A,I a,I b,D.sl 8 C,D.sl 6 E,D.sl 5 F,D.sl 3 G,B q] [D.sl 4 A,I a,I b,D.sl 8 C,D.sl 6 E,D.sl 5 F,D.sl 3 G,B q],RA.ro (cI c),RA.ro (cI d)] (RR.vals [cB false]):=
 h.ofR
theorem qKh(h:Oo [.r 213 [.agg (gr A a b),cI d,cI e] [cI c],.n q false,.b (decide (c<0)) true]):
 Rr 148 [RA.ref [D.sl 4 A,I a,I b,D.sl 8 C,D.sl 6 E,D.sl 5 F,D.sl 3 G,B q] [D.sl 4 A,I a,I b,D.sl 8 C,D.sl 6 E,D.sl 5 F,D.sl 3 G,B q],RA.ro (cI d),RA.ro (cI e)] (RR.vals [cB false]):=
 h.ofR
theorem qKi(h:Oo [.r 213 [.agg (gr A a b),cI c,cI d] [cI e],.n q false,.b (decide (e<0)) false,.b (c==d) true]):
 Rr 148 [RA.ref [D.sl 4 A,I a,I b,D.sl 8 C,D.sl 6 E,D.sl 5 F,D.sl 3 G,B q] [D.sl 4 A,I a,I b,D.sl 8 C,D.sl 6 E,D.sl 5 F,D.sl 3 G,B q],RA.ro (cI c),RA.ro (cI d)] (RR.vals [cB false]):=
 h.ofR
theorem qKj(h:Oo [.r 213 [.agg (gr C b i),cI j,cI k] [cI a],.n q false,.b (decide (a<0)) false,.b (j==k) false,.a .sub,.p (0≤a),.p (a<(A.length:Int)),.e A a.toNat (lk c E d e f g),.r 217 [.agg (lk c E d e f g)] [.agg (lk l F m n o p),cB r],.p (0≤a),.p (a<(A.length:Int)),.e A a.toNat (lk c E d e f g)]):
 Rr 148 [RA.ref [D.sl 4 C,I b,I i,D.sl 8 G,D.sl 6 A,D.sl 5 H,D.sl 3 J,B q] [D.sl 4 C,I b,I i,D.sl 8 G,D.sl 6 (A.set a.toNat (lk l F m n o p)),D.sl 5 H,D.sl 3 J,B q],RA.ro (cI j),RA.ro (cI k)] (RR.vals [cB r]):=
 h.ofR
theorem qpR(h:Oo [.a (.resR [some [D.sl 4 G,I a,I b,D.sl 8 A,D.sl 6 C,D.sl 5 E,D.sl 3 F,B q],none] (RR.vals [cB r])),.p (RetR prog 209 [RA.ref [D.sl 4 H,I c,I d,D.sl 8 J,D.sl 6 K,D.sl 5 L,D.sl 3 M,B s] [D.sl 4 G,I a,I b,D.sl 8 A,D.sl 6 C,D.sl 5 E,D.sl 3 F,B q],RA.ro (cI e)] (RR.vals [cB r])),.n r true]):
 Rr 145 [RA.ref [D.sl 4 H,I c,I d,D.sl 8 J,D.sl 6 K,D.sl 5 L,D.sl 3 M,B s] [D.sl 4 G,I a,I b,D.sl 8 A,D.sl 6 C,D.sl 5 E,D.sl 3 F,B q],RA.ro (cI e)] (RR.vals [cB false]):=
 h.ofR
theorem qKk(h:Oo [.a (.resR [some [D.sl 4 G,I b,I c,D.sl 8 A,D.sl 6 C,D.sl 5 E,D.sl 3 F,B q],none] (RR.vals [cB r])),.p (RetR prog 209 [RA.ref [D.sl 4 H,I d,I e,D.sl 8 K,D.sl 6 L,D.sl 5 M,D.sl 3 N,B s] [D.sl 4 G,I b,I c,D.sl 8 A,D.sl 6 C,D.sl 5 E,D.sl 3 F,B q],RA.ro (cI a)] (RR.vals [cB r])),.n r false,.a .sub,.p (0≤a),.p (a<(A.length:Int)),.e A a.toNat (wk P J Q R S U V W),.b (decide ((J.length:Int)>0)) true]):
 Rr 145 [RA.ref [D.sl 4 H,I d,I e,D.sl 8 K,D.sl 6 L,D.sl 5 M,D.sl 3 N,B s] [D.sl 4 G,I b,I c,D.sl 8 A,D.sl 6 C,D.sl 5 E,D.sl 3 F,B q],RA.ro (cI a)] (RR.vals [cB false]):=
 h.ofR
theorem qKl(h:Oo [.a (.resR [some [D.sl 4 G,I b,I c,D.sl 8 A,D.sl 6 C,D.sl 5 E,D.sl 3 F,B q],none] (RR.vals [cB r])),.p (RetR prog 209 [RA.ref [D.sl 4 H,I d,I e,D.sl 8 L,D.sl 6 M,D.sl 5 N,D.sl 3 P,B s] [D.sl 4 G,I b,I c,D.sl 8 A,D.sl 6 C,D.sl 5 E,D.sl 3 F,B q],RA.ro (cI a)] (RR.vals [cB r])),.n r false,.a .sub,.p (0≤a),.p (a<(A.length:Int)),.e A a.toNat (wk J K Q R S U V W),.b (decide ((K.length:Int)>0)) false,.b (decide ((J.length:Int)>0)) true]):
 Rr 145 [RA.ref [D.sl 4 H,I d,I e,D.sl 8 L,D.sl 6 M,D.sl 5 N,D.sl 3 P,B s] [D.sl 4 G,I b,I c,D.sl 8 A,D.sl 6 C,D.sl 5 E,D.sl 3 F,B q],RA.ro (cI a)] (RR.vals [cB false]):=
 h.ofR
theorem qKm(h:Oo [.a (.resR [some [D.sl 4 G,I b,I c,D.sl 8 A,D.sl 6 C,D.sl 5 E,D.sl 3 F,B q],none] (RR.vals [cB r])),.p (RetR prog 209 [RA.ref [D.sl 4 H,I d,I e,D.sl 8 M,D.sl 6 N,D.sl 5 P,D.sl 3 Q,B s] [D.sl 4 G,I b,I c,D.sl 8 A,D.sl 6 C,D.sl 5 E,D.sl 3 F,B q],RA.ro (cI a)] (RR.vals [cB r])),.n r false,.a .sub,.p (0≤a),.p (a<(A.length:Int)),.e A a.toNat (wk J K L R S U V W),.b (decide ((K.length:Int)>0)) false,.b (decide ((J.length:Int)>0)) false,.b ((L.length:Int)==0) true]):
 Rr 145 [RA.ref [D.sl 4 H,I d,I e,D.sl 8 M,D.sl 6 N,D.sl 5 P,D.sl 3 Q,B s] [D.sl 4 G,I b,I c,D.sl 8 A,D.sl 6 C,D.sl 5 E,D.sl 3 F,B q],RA.ro (cI a)] (RR.vals [cB false]):=
 h.ofR
theorem qKn(h:Oo [.a (.resR [some [D.sl 4 Q,I b,I c,D.sl 8 C,D.sl 6 F,D.sl 5 G,D.sl 3 H,B q],none] (RR.vals [cB r])),.p (RetR prog 209 [RA.ref [D.sl 4 R,I d,I e,D.sl 8 S,D.sl 6 U,D.sl 5 V,D.sl 3 W,B s] [D.sl 4 Q,I b,I c,D.sl 8 C,D.sl 6 F,D.sl 5 G,D.sl 3 H,B q],RA.ro (cI a)] (RR.vals [cB r])),.n r false,.a .sub,.p (0≤a),.p (a<(C.length:Int)),.e C a.toNat (wk J E A K L M N P),.b (decide ((E.length:Int)>0)) false,.b (decide ((J.length:Int)>0)) false,.b ((A.length:Int)==0) false,.p ((0:Int)≤0),.p (0<(A.length:Int)),.e A 0 (ri f g i j k),.p ((0:Int)≤(some (1:Int)).getD 0),.p ((some (1:Int)).getD 0≤none.getD (A.length:Int)),.p (none.getD (A.length:Int)≤(A.length:Int)),.g ([]:LL) (List.take (A.length-1) (List.drop 1 A)) 40,.h (List.take (A.length-1) (List.drop 1 A)),.p (0≤a),.p (a<(C.length:Int)),.e C a.toNat (wk J E A K L M N P),.p (a.toNat=a.toNat),.p (a.toNat=a.toNat),.p (a.toNat=a.toNat),.p (a.toNat=a.toNat),.p (a.toNat=a.toNat),.p (a.toNat=a.toNat)]):
 Rr 145 [RA.ref [D.sl 4 R,I d,I e,D.sl 8 S,D.sl 6 U,D.sl 5 V,D.sl 3 W,B s] [D.sl 4 Q,I b,I c,D.sl 8 (C.set a.toNat [D.sl 5 [(ri f g i j k)],D.sl 5 E,D.sl 5 ([]++List.take (A.length-1) (List.drop 1 A)),D.sl 4 K,D.sl 1 L,D.sl 1 M,D.sl 1 N,D.sl 2 P]),D.sl 6 F,D.sl 5 G,D.sl 3 H,B q],RA.ro (cI a)] (RR.vals [cB true]):=
 h.ofR
theorem qpS(h:Oo [.b q true,.v ((A.length:Int)-1),.r 137 [cI c,cI 0,cI ((A.length:Int)-1)] [cB r]]):
 Rr 209 [RA.ref [D.sl 4 C,I a,I b,D.sl 8 A,D.sl 6 E,D.sl 5 F,D.sl 3 G,B q] [D.sl 4 C,I a,I b,D.sl 8 A,D.sl 6 E,D.sl 5 F,D.sl 3 G,B q],RA.ro (cI c)] (RR.vals [cB r]):=
 h.ofR
theorem qKo(h:Oo [.b q false]):
 Rr 209 [RA.ref [D.sl 4 A,I a,I b,D.sl 8 C,D.sl 6 E,D.sl 5 F,D.sl 3 G,B q] [D.sl 4 A,I a,I b,D.sl 8 C,D.sl 6 E,D.sl 5 F,D.sl 3 G,B q],RA.ro (cI c)] (RR.vals [cB false]):=
 h.ofR
theorem qpT(h:Oo [.a (.resR [some [D.sl 4 G,I a,I b,D.sl 8 A,D.sl 6 C,D.sl 5 E,D.sl 3 F,B q],none] (RR.vals [cB r])),.p (RetR prog 209 [RA.ref [D.sl 4 H,I c,I d,D.sl 8 J,D.sl 6 K,D.sl 5 L,D.sl 3 M,B s] [D.sl 4 G,I a,I b,D.sl 8 A,D.sl 6 C,D.sl 5 E,D.sl 3 F,B q],RA.ro (cI e)] (RR.vals [cB r])),.n r true]):
 Rr 146 [RA.ref [D.sl 4 H,I c,I d,D.sl 8 J,D.sl 6 K,D.sl 5 L,D.sl 3 M,B s] [D.sl 4 G,I a,I b,D.sl 8 A,D.sl 6 C,D.sl 5 E,D.sl 3 F,B q],RA.ro (cI e)] (RR.vals [cB false]):=
 h.ofR
theorem qKp(h:Oo [.a (.resR [some [D.sl 4 G,I b,I c,D.sl 8 A,D.sl 6 C,D.sl 5 E,D.sl 3 F,B q],none] (RR.vals [cB r])),.p (RetR prog 209 [RA.ref [D.sl 4 H,I d,I e,D.sl 8 K,D.sl 6 L,D.sl 5 M,D.sl 3 N,B s] [D.sl 4 G,I b,I c,D.sl 8 A,D.sl 6 C,D.sl 5 E,D.sl 3 F,B q],RA.ro (cI a)] (RR.vals [cB r])),.n r false,.a .sub,.p (0≤a),.p (a<(A.length:Int)),.e A a.toNat (wk P J Q R S U V W),.b ((J.length:Int)==0) true]):
 Rr 146 [RA.ref [D.sl 4 H,I d,I e,D.sl 8 K,D.sl 6 L,D.sl 5 M,D.sl 3 N,B s] [D.sl 4 G,I b,I c,D.sl 8 A,D.sl 6 C,D.sl 5 E,D.sl 3 F,B q],RA.ro (cI a)] (RR.vals [cB false]):=
 h.ofR
theorem qKq(h:Oo [.a (.resR [some [D.sl 4 F,I b,I c,D.sl 8 A,D.sl 6 C,D.sl 5 G,D.sl 3 H,B q],none] (RR.vals [cB r])),.p (RetR prog 209 [RA.ref [D.sl 4 J,I g,I i,D.sl 8 S,D.sl 6 V,D.sl 5 W,D.sl 3 X,B t] [D.sl 4 F,I b,I c,D.sl 8 A,D.sl 6 C,D.sl 5 G,D.sl 3 H,B q],RA.ro (cI a)] (RR.vals [cB r])),.n r false,.a .sub,.p (0≤a),.p (a<(A.length:Int)),.e A a.toNat (wk K E L M N P Q R),.b ((E.length:Int)==0) false,.a .sub,.p (0≤a),.p (a<(A.length:Int)),.e A a.toNat (wk K E L M N P Q R),.p ((0:Int)≤0),.p (0<(E.length:Int)),.e E 0 (ri j k l e m),.r 212 [cI e,cI b] [cI f],.b (f != a) true,.r 213 [.agg (gr F b c),cI a,cI f] [cI d],.a .sub,.p (0≤d),.p (d<(C.length:Int)),.e C d.toNat (lk n U o p a0 b0),.r 214 [.agg (lk n U o p a0 b0),.agg (ri j k l e m)] [.agg (lk c0 Y d0 e0 f0 i0),cB s],.n s true]):
 Rr 146 [RA.ref [D.sl 4 J,I g,I i,D.sl 8 S,D.sl 6 V,D.sl 5 W,D.sl 3 X,B t] [D.sl 4 F,I b,I c,D.sl 8 A,D.sl 6 C,D.sl 5 G,D.sl 3 H,B q],RA.ro (cI a)] (RR.vals [cB false]):=
 h.ofR
theorem qKr(h:Oo [.a (.resR [some [D.sl 4 H,I c,I d,D.sl 8 C,D.sl 6 E,D.sl 5 J,D.sl 3 K,B q],none] (RR.vals [cB r])),.p (RetR prog 209 [RA.ref [D.sl 4 Z,I p,I a0,D.sl 8 K0,D.sl 6 L0,D.sl 5 N0,D.sl 3 P0,B u] [D.sl 4 H,I c,I d,D.sl 8 C,D.sl 6 E,D.sl 5 J,D.sl 3 K,B q],RA.ro (cI a)] (RR.vals [cB r])),.n r false,.a .sub,.p (0≤a),.p (a<(C.length:Int)),.e C a.toNat (wk A0 G C0 E0 F0 G0 H0 J0),.b ((G.length:Int)==0) false,.a .sub,.p (0≤a),.p (a<(C.length:Int)),.e C a.toNat (wk A0 G C0 E0 F0 G0 H0 J0),.p ((0:Int)≤0),.p (0<(G.length:Int)),.e G 0 (ri b0 e c0 f d0),.r 212 [cI f,cI c] [cI g],.b (g != a) true,.r 213 [.agg (gr H c d),cI a,cI g] [cI b],.a .sub,.p (0≤b),.p (b<(E.length:Int)),.e E b.toNat (lk i L j k l m),.r 214 [.agg (lk i L j k l m),.agg (ri b0 e c0 f d0)] [.agg (lk e0 M0 f0 i0 j0 k0),cB t],.n t false,.p (0≤b),.p (b<(E.length:Int)),.e E b.toNat (lk i L j k l m),.a (.resR [some [D.sl 4 M,I n,I o,D.sl 8 F,D.sl 6 N,D.sl 5 P,D.sl 3 Q,B s],none,none,none] (RR.vals [])),.a .sub,.p (RetR prog 215 [RA.ref [D.sl 4 H,I c,I d,D.sl 8 C,D.sl 6 (E.set b.toNat (lk e0 M0 f0 i0 j0 k0)),D.sl 5 J,D.sl 3 K,B q] [D.sl 4 M,I n,I o,D.sl 8 F,D.sl 6 N,D.sl 5 P,D.sl 3 Q,B s],RA.ro (cI a),RA.ro (cI e),RA.ro (cI 1)] (RR.vals [])),.p (0≤a),.p (a<(F.length:Int)),.e F a.toNat (wk R A S U V W X Y),.p ((0:Int)≤(some (1:Int)).getD 0),.p ((some (1:Int)).getD 0≤none.getD (A.length:Int)),.p (none.getD (A.length:Int)≤(A.length:Int)),.g ([]:LL) (List.take (A.length-1) (List.drop 1 A)) 40,.h (List.take (A.length-1) (List.drop 1 A)),.p (0≤a),.p (a<(F.length:Int)),.e F a.toNat (wk R A S U V W X Y)]):
 Rr 146 [RA.ref [D.sl 4 Z,I p,I a0,D.sl 8 K0,D.sl 6 L0,D.sl 5 N0,D.sl 3 P0,B u] [D.sl 4 M,I n,I o,D.sl 8 (F.set a.toNat (wk R ([]++List.take (A.length-1) (List.drop 1 A)) S U V W X Y)),D.sl 6 N,D.sl 5 P,D.sl 3 Q,B s],RA.ro (cI a)] (RR.vals [cB true]):=
 h.ofR
theorem qKs(h:Oo [.a (.resR [some [D.sl 4 Z,I g,I i,D.sl 8 A,D.sl 6 N,D.sl 5 P,D.sl 3 Q,B q],none] (RR.vals [cB r])),.p (RetR prog 209 [RA.ref [D.sl 4 A0,I j,I k,D.sl 8 C0,D.sl 6 E0,D.sl 5 F0,D.sl 3 G0,B s] [D.sl 4 Z,I g,I i,D.sl 8 A,D.sl 6 N,D.sl 5 P,D.sl 3 Q,B q],RA.ro (cI a)] (RR.vals [cB r])),.n r false,.a .sub,.p (0≤a),.p (a<(A.length:Int)),.e A a.toNat (wk C E F G H J K L),.b ((E.length:Int)==0) false,.a .sub,.p (0≤a),.p (a<(A.length:Int)),.e A a.toNat (wk C E F G H J K L),.p ((0:Int)≤0),.p (0<(E.length:Int)),.e E 0 (ri c d e b f),.r 212 [cI b,cI g] [cI l],.b (l != a) false,.a .sub,.p (0≤a),.p (a<(A.length:Int)),.e A a.toNat (wk C E F G H J K L),.g C [(ri c d e b f)] 40,.e A a.toNat (wk C E F G H J K L),.p ((wk C E F G H J K L)[0]?=some (D.sl 5 C)),.h [(ri c d e b f)],.p (A=A),.p (A=A),.p (A=A),.p (A=A),.p (A=A),.p (A=A),.p (A=A),.p (A=A),.p (A=A),.p (A=A),.p (A=A),.p (a.toNat=a.toNat),.p (C=C),.p (0≤a),.p (a<(A.length:Int)),.e A a.toNat (wk C E F G H J K L),.a .sub,.p (a.toNat=a.toNat),.p (0≤a),.p (a<(↑(A.set a.toNat (wk (C++[(ri c d e b f)]) E F G H J K L)).length:Int)),.e (A.set a.toNat (wk (C++[(ri c d e b f)]) E F G H J K L)) a.toNat (wk R M S U V W X Y),.p ((0:Int)≤(some (1:Int)).getD 0),.p ((some (1:Int)).getD 0≤none.getD (M.length:Int)),.p (none.getD (M.length:Int)≤(M.length:Int)),.g ([]:LL) (List.take (M.length-1) (List.drop 1 M)) 40,.h (List.take (M.length-1) (List.drop 1 M)),.p (0≤a),.p (a<(↑(A.set a.toNat (wk (C++[(ri c d e b f)]) E F G H J K L)).length:Int)),.e (A.set a.toNat (wk (C++[(ri c d e b f)]) E F G H J K L)) a.toNat (wk R M S U V W X Y)]):
 Rr 146 [RA.ref [D.sl 4 A0,I j,I k,D.sl 8 C0,D.sl 6 E0,D.sl 5 F0,D.sl 3 G0,B s] [D.sl 4 Z,I g,I i,D.sl 8 ((A.set a.toNat (wk (C++[(ri c d e b f)]) E F G H J K L)).set a.toNat (wk R ([]++List.take (M.length-1) (List.drop 1 M)) S U V W X Y)),D.sl 6 N,D.sl 5 P,D.sl 3 Q,B q],RA.ro (cI a)] (RR.vals [cB true]):=
 h.ofR
theorem qKt(h:Oo [.a .sub,.p (0≤a),.p (a<(C.length:Int)),.e C a.toNat (wk E F G H A J K L),.a .sub,.p (0≤a),.p (a<(C.length:Int)),.e C a.toNat (wk E F G H A J K L),.p (0≤b),.p (b<(A.length:Int)),.e A b.toNat [I d],.v (d+c),.p (0≤b),.p (b<(A.length:Int)),.e A b.toNat [I i],.e C a.toNat (wk E F G H A J K L),.p (a.toNat=a.toNat),.p (a.toNat=a.toNat),.p (a.toNat=a.toNat),.p (a.toNat=a.toNat),.b r true,.a .sub,.p (0≤a),.p (a<(↑(C.set a.toNat (wk E F G H (A.set b.toNat [I (d+c)]) J K L)).length:Int)),.e (C.set a.toNat (wk E F G H (A.set b.toNat [I (d+c)]) J K L)) a.toNat (wk E F G H (A.set b.toNat [I (d+c)]) J K L),.x (A.set b.toNat [I (d+c)]) b [I g],.r 137 [cI g,cI (-1000000),cI 1000000] [cB q]]):
 Rr 215 [RA.ref [D.sl 4 M,I e,I f,D.sl 8 C,D.sl 6 N,D.sl 5 P,D.sl 3 Q,B r] [D.sl 4 M,I e,I f,D.sl 8 (C.set a.toNat (wk E F G H (A.set b.toNat [I (d+c)]) J K L)),D.sl 6 N,D.sl 5 P,D.sl 3 Q,B q],RA.ro (cI a),RA.ro (cI b),RA.ro (cI c)] (RR.vals []):=
 h.ofR
theorem qKu(h:Oo [.r 213 [.agg (gr A a b),cI c,cI d] [cI e],.n q true]):
 Rr 147 [RA.ref [D.sl 4 A,I a,I b,D.sl 8 C,D.sl 6 E,D.sl 5 F,D.sl 3 G,B q] [D.sl 4 A,I a,I b,D.sl 8 C,D.sl 6 E,D.sl 5 F,D.sl 3 G,B q],RA.ro (cI c),RA.ro (cI d)] (RR.vals [cB false]):=
 h.ofR
theorem qKv(h:Oo [.r 213 [.agg (gr A a b),cI d,cI e] [cI c],.n q false,.b (decide (c<0)) true]):
 Rr 147 [RA.ref [D.sl 4 A,I a,I b,D.sl 8 C,D.sl 6 E,D.sl 5 F,D.sl 3 G,B q] [D.sl 4 A,I a,I b,D.sl 8 C,D.sl 6 E,D.sl 5 F,D.sl 3 G,B q],RA.ro (cI d),RA.ro (cI e)] (RR.vals [cB false]):=
 h.ofR
theorem qKw(h:Oo [.r 213 [.agg (gr A a b),cI c,cI d] [cI e],.n q false,.b (decide (e<0)) false,.b (c==d) true]):
 Rr 147 [RA.ref [D.sl 4 A,I a,I b,D.sl 8 C,D.sl 6 E,D.sl 5 F,D.sl 3 G,B q] [D.sl 4 A,I a,I b,D.sl 8 C,D.sl 6 E,D.sl 5 F,D.sl 3 G,B q],RA.ro (cI c),RA.ro (cI d)] (RR.vals [cB false]):=
 h.ofR
theorem qKx(h:Oo [.r 213 [.agg (gr C b c),cI d,cI e] [cI a],.n q false,.b (decide (a<0)) false,.b (d==e) false,.a .sub,.p (0≤a),.p (a<(A.length:Int)),.e A a.toNat (lk f E g i j k),.r 216 [.agg (lk f E g i j k)] [.agg (lk l J m n o p),.agg (ri a0 b0 c0 d0 e0),cB r],.n r true]):
 Rr 147 [RA.ref [D.sl 4 C,I b,I c,D.sl 8 F,D.sl 6 A,D.sl 5 G,D.sl 3 H,B q] [D.sl 4 C,I b,I c,D.sl 8 F,D.sl 6 A,D.sl 5 G,D.sl 3 H,B q],RA.ro (cI d),RA.ro (cI e)] (RR.vals [cB false]):=
 h.ofR
theorem qKy(h:Oo [.r 213 [.agg (gr P i o),cI b0,cI a] [cI c],.n r false,.b (decide (c<0)) false,.b (b0==a) false,.a .sub,.p (0≤c),.p (c<(M.length:Int)),.e M c.toNat (lk j Q k l m n),.r 216 [.agg (lk j Q k l m n)] [.agg (lk c0 G0 d0 e0 f0 i0),.agg (ri d b e f g),cB s],.n s false,.p (0≤c),.p (c<(M.length:Int)),.e M c.toNat (lk j Q k l m n),.a .sub,.p (0≤a),.p (a<(A.length:Int)),.e A a.toNat (wk C E F G H J K L),.g C [(ri d b e f g)] 40,.e A a.toNat (wk C E F G H J K L),.p ((wk C E F G H J K L)[0]?=some (D.sl 5 C)),.h [(ri d b e f g)],.p (A=A),.p (A=A),.p (A=A),.p (A=A),.p (A=A),.p (a.toNat=a.toNat),.p (C=C),.p (0≤a),.p (a<(A.length:Int)),.e A a.toNat (wk C E F G H J K L),.a .sub,.p (a.toNat=a.toNat),.p (0≤a),.p (a<(↑(A.set a.toNat (wk (C++[(ri d b e f g)]) E F G H J K L)).length:Int)),.e (A.set a.toNat (wk (C++[(ri d b e f g)]) E F G H J K L)) a.toNat (wk R S U V W N X Y),.p (0≤b),.p (b<(N.length:Int)),.e N b.toNat [B t],.e (A.set a.toNat (wk (C++[(ri d b e f g)]) E F G H J K L)) a.toNat (wk R S U V W N X Y),.a (.resR [some [D.sl 4 Z,I p,I a0,D.sl 8 A0,D.sl 6 C0,D.sl 5 E0,D.sl 3 F0,B q],none,none,none] (RR.vals [])),.p (a.toNat=a.toNat),.p (a.toNat=a.toNat),.p (RetR prog 215 [RA.ref [D.sl 4 P,I i,I o,D.sl 8 ((A.set a.toNat (wk (C++[(ri d b e f g)]) E F G H J K L)).set a.toNat (wk R S U V W (N.set b.toNat [B true]) X Y)),D.sl 6 (M.set c.toNat (lk c0 G0 d0 e0 f0 i0)),D.sl 5 H0,D.sl 3 J0,B r] [D.sl 4 Z,I p,I a0,D.sl 8 A0,D.sl 6 C0,D.sl 5 E0,D.sl 3 F0,B q],RA.ro (cI a),RA.ro (cI b),RA.ro (cI (-1))] (RR.vals []))]):
 Rr 147 [RA.ref [D.sl 4 P,I i,I o,D.sl 8 A,D.sl 6 M,D.sl 5 H0,D.sl 3 J0,B r] [D.sl 4 Z,I p,I a0,D.sl 8 A0,D.sl 6 C0,D.sl 5 E0,D.sl 3 F0,B q],RA.ro (cI b0),RA.ro (cI a)] (RR.vals [cB true]):=
 h.ofR
theorem qpU(h:Oo [.a (.resR [some [D.sl 4 G,I a,I b,D.sl 8 A,D.sl 6 C,D.sl 5 E,D.sl 3 F,B q],none] (RR.vals [cB r])),.p (RetR prog 209 [RA.ref [D.sl 4 H,I c,I d,D.sl 8 J,D.sl 6 K,D.sl 5 L,D.sl 3 M,B s] [D.sl 4 G,I a,I b,D.sl 8 A,D.sl 6 C,D.sl 5 E,D.sl 3 F,B q],RA.ro (cI e)] (RR.vals [cB r])),.n r true]):
 Rr 144 [RA.ref [D.sl 4 H,I c,I d,D.sl 8 J,D.sl 6 K,D.sl 5 L,D.sl 3 M,B s] [D.sl 4 G,I a,I b,D.sl 8 A,D.sl 6 C,D.sl 5 E,D.sl 3 F,B q],RA.ro (cI e)] (RR.vals [cB false]):=
 h.ofR
theorem qKz(h:Oo [.a (.resR [some [D.sl 4 G,I b,I c,D.sl 8 A,D.sl 6 C,D.sl 5 E,D.sl 3 F,B q],none] (RR.vals [cB r])),.p (RetR prog 209 [RA.ref [D.sl 4 H,I d,I e,D.sl 8 K,D.sl 6 L,D.sl 5 M,D.sl 3 N,B s] [D.sl 4 G,I b,I c,D.sl 8 A,D.sl 6 C,D.sl 5 E,D.sl 3 F,B q],RA.ro (cI a)] (RR.vals [cB r])),.n r false,.a .sub,.p (0≤a),.p (a<(A.length:Int)),.e A a.toNat (wk P J Q R S U V W),.b (decide ((J.length:Int)>0)) true]):
 Rr 144 [RA.ref [D.sl 4 H,I d,I e,D.sl 8 K,D.sl 6 L,D.sl 5 M,D.sl 3 N,B s] [D.sl 4 G,I b,I c,D.sl 8 A,D.sl 6 C,D.sl 5 E,D.sl 3 F,B q],RA.ro (cI a)] (RR.vals [cB false]):=
 h.ofR
theorem qKA(h:Oo [.a (.resR [some [D.sl 4 G,I b,I c,D.sl 8 A,D.sl 6 C,D.sl 5 E,D.sl 3 F,B q],none] (RR.vals [cB r])),.p (RetR prog 209 [RA.ref [D.sl 4 H,I d,I e,D.sl 8 L,D.sl 6 M,D.sl 5 N,D.sl 3 P,B s] [D.sl 4 G,I b,I c,D.sl 8 A,D.sl 6 C,D.sl 5 E,D.sl 3 F,B q],RA.ro (cI a)] (RR.vals [cB r])),.n r false,.a .sub,.p (0≤a),.p (a<(A.length:Int)),.e A a.toNat (wk J K Q R S U V W),.b (decide ((K.length:Int)>0)) false,.b ((J.length:Int)==0) true]):
 Rr 144 [RA.ref [D.sl 4 H,I d,I e,D.sl 8 L,D.sl 6 M,D.sl 5 N,D.sl 3 P,B s] [D.sl 4 G,I b,I c,D.sl 8 A,D.sl 6 C,D.sl 5 E,D.sl 3 F,B q],RA.ro (cI a)] (RR.vals [cB false]):=
 h.ofR
theorem qKB(h:Oo [.a (.resR [some [D.sl 4 M,I c,I d,D.sl 8 E,D.sl 6 N,D.sl 5 P,D.sl 3 Q,B q],none] (RR.vals [cB r])),.p (RetR prog 209 [RA.ref [D.sl 4 R,I j,I k,D.sl 8 S,D.sl 6 W,D.sl 5 X,D.sl 3 Y,B t] [D.sl 4 M,I c,I d,D.sl 8 E,D.sl 6 N,D.sl 5 P,D.sl 3 Q,B q],RA.ro (cI a)] (RR.vals [cB r])),.n r false,.a .sub,.p (0≤a),.p (a<(E.length:Int)),.e E a.toNat (wk A F G H J K C L),.b (decide ((F.length:Int)>0)) false,.b ((A.length:Int)==0) false,.p ((0:Int)≤0),.p (0<(A.length:Int)),.e A 0 (ri e b f g i),.r 210 [.agg (gr M c d),cS 4 H,.agg (ri e b f g i)] [cS 4 U,cS 5 V,cB u],.p ((0:Int)≤(some (1:Int)).getD 0),.p ((some (1:Int)).getD 0≤none.getD (A.length:Int)),.p (none.getD (A.length:Int)≤(A.length:Int)),.g ([]:LL) (List.take (A.length-1) (List.drop 1 A)) 40,.h (List.take (A.length-1) (List.drop 1 A)),.r 211 [.agg (gr M c d),.agg (ri e b f g i)] [cB s],.b s true,.p (0≤b),.p (b<(C.length:Int)),.e C b.toNat [B v],.e E a.toNat (wk A F G H J K C L),.p (a.toNat=a.toNat),.p (a.toNat=a.toNat),.p (a.toNat=a.toNat),.p (a.toNat=a.toNat),.x (E.set a.toNat (wk A F G H J K (C.set b.toNat [B true]) L)) a (wk A F G H J K (C.set b.toNat [B true]) L),.p (a.toNat=a.toNat),.p (a.toNat=a.toNat),.p (a.toNat=a.toNat),.p (a.toNat=a.toNat),.p (a.toNat=a.toNat)]):
 Rr 144 [RA.ref [D.sl 4 R,I j,I k,D.sl 8 S,D.sl 6 W,D.sl 5 X,D.sl 3 Y,B t] [D.sl 4 M,I c,I d,D.sl 8 ((E.set a.toNat (wk A F G H J K (C.set b.toNat [B true]) L)).set a.toNat (wk ([]++List.take (A.length-1) (List.drop 1 A)) V G U J K (C.set b.toNat [B true]) L)),D.sl 6 N,D.sl 5 P,D.sl 3 Q,B q],RA.ro (cI a)] (RR.vals [cB true]):=
 h.ofR
theorem qKC(h:Oo [.a (.resR [some [D.sl 4 E,I b,I c,D.sl 8 C,D.sl 6 F,D.sl 5 G,D.sl 3 H,B q],none] (RR.vals [cB r])),.p (RetR prog 209 [RA.ref [D.sl 4 R,I j,I k,D.sl 8 S,D.sl 6 W,D.sl 5 X,D.sl 3 Y,B t] [D.sl 4 E,I b,I c,D.sl 8 C,D.sl 6 F,D.sl 5 G,D.sl 3 H,B q],RA.ro (cI a)] (RR.vals [cB r])),.n r false,.a .sub,.p (0≤a),.p (a<(C.length:Int)),.e C a.toNat (wk A J K L M N P Q),.b (decide ((J.length:Int)>0)) false,.b ((A.length:Int)==0) false,.p ((0:Int)≤0),.p (0<(A.length:Int)),.e A 0 (ri d e f g i),.r 210 [.agg (gr E b c),cS 4 L,.agg (ri d e f g i)] [cS 4 U,cS 5 V,cB u],.p ((0:Int)≤(some (1:Int)).getD 0),.p ((some (1:Int)).getD 0≤none.getD (A.length:Int)),.p (none.getD (A.length:Int)≤(A.length:Int)),.g ([]:LL) (List.take (A.length-1) (List.drop 1 A)) 40,.h (List.take (A.length-1) (List.drop 1 A)),.r 211 [.agg (gr E b c),.agg (ri d e f g i)] [cB s],.b s false,.p (0≤a),.p (a<(C.length:Int)),.e C a.toNat (wk A J K L M N P Q),.p (a.toNat=a.toNat),.p (a.toNat=a.toNat),.p (a.toNat=a.toNat),.p (a.toNat=a.toNat),.p (a.toNat=a.toNat)]):
 Rr 144 [RA.ref [D.sl 4 R,I j,I k,D.sl 8 S,D.sl 6 W,D.sl 5 X,D.sl 3 Y,B t] [D.sl 4 E,I b,I c,D.sl 8 (C.set a.toNat (wk ([]++List.take (A.length-1) (List.drop 1 A)) V K U M N P Q)),D.sl 6 F,D.sl 5 G,D.sl 3 H,B q],RA.ro (cI a)] (RR.vals [cB true]):=
 h.ofR
theorem qKD(h:Oo [.b (e==1) true,.a (.resR [some [D.sl 4 A,I a,I b,D.sl 8 C,D.sl 6 E,D.sl 5 F,D.sl 3 G,B q],none] (RR.vals [cB r])),.p (RetR prog 144 [RA.ref [D.sl 4 H,I c,I d,D.sl 8 J,D.sl 6 K,D.sl 5 L,D.sl 3 M,B s] [D.sl 4 A,I a,I b,D.sl 8 C,D.sl 6 E,D.sl 5 F,D.sl 3 G,B q],RA.ro (cI f)] (RR.vals [cB r]))]):
 Rr 87 [RA.ref [D.sl 4 H,I c,I d,D.sl 8 J,D.sl 6 K,D.sl 5 L,D.sl 3 M,B s] [D.sl 4 A,I a,I b,D.sl 8 C,D.sl 6 E,D.sl 5 F,D.sl 3 G,B q],RA.ro (.agg [I e,I f,I g])] (RR.vals [cB r]):=
 h.ofR
theorem qKE(h:Oo [.b (c==1) false,.b (c==2) true,.a (.resR [some [D.sl 4 A,I a,I b,D.sl 8 C,D.sl 6 E,D.sl 5 F,D.sl 3 G,B q],none] (RR.vals [cB r])),.p (RetR prog 145 [RA.ref [D.sl 4 H,I d,I e,D.sl 8 J,D.sl 6 K,D.sl 5 L,D.sl 3 M,B s] [D.sl 4 A,I a,I b,D.sl 8 C,D.sl 6 E,D.sl 5 F,D.sl 3 G,B q],RA.ro (cI f)] (RR.vals [cB r]))]):
 Rr 87 [RA.ref [D.sl 4 H,I d,I e,D.sl 8 J,D.sl 6 K,D.sl 5 L,D.sl 3 M,B s] [D.sl 4 A,I a,I b,D.sl 8 C,D.sl 6 E,D.sl 5 F,D.sl 3 G,B q],RA.ro (.agg [I c,I f,I g])] (RR.vals [cB r]):=
 h.ofR
theorem qKF(h:Oo [.b (a==1) false,.b (a==2) false,.b (a==3) true,.a (.resR [some [D.sl 4 A,I b,I c,D.sl 8 C,D.sl 6 E,D.sl 5 F,D.sl 3 G,B q],none] (RR.vals [cB r])),.p (RetR prog 146 [RA.ref [D.sl 4 H,I d,I e,D.sl 8 J,D.sl 6 K,D.sl 5 L,D.sl 3 M,B s] [D.sl 4 A,I b,I c,D.sl 8 C,D.sl 6 E,D.sl 5 F,D.sl 3 G,B q],RA.ro (cI f)] (RR.vals [cB r]))]):
 Rr 87 [RA.ref [D.sl 4 H,I d,I e,D.sl 8 J,D.sl 6 K,D.sl 5 L,D.sl 3 M,B s] [D.sl 4 A,I b,I c,D.sl 8 C,D.sl 6 E,D.sl 5 F,D.sl 3 G,B q],RA.ro (.agg [I a,I f,I g])] (RR.vals [cB r]):=
 h.ofR
theorem qKG(h:Oo [.b (a==1) false,.b (a==2) false,.b (a==3) false,.b (a==4) true,.a (.resR [some [D.sl 4 A,I b,I c,D.sl 8 C,D.sl 6 E,D.sl 5 F,D.sl 3 G,B q],none,none] (RR.vals [cB r])),.p (RetR prog 147 [RA.ref [D.sl 4 H,I d,I f,D.sl 8 J,D.sl 6 K,D.sl 5 L,D.sl 3 M,B s] [D.sl 4 A,I b,I c,D.sl 8 C,D.sl 6 E,D.sl 5 F,D.sl 3 G,B q],RA.ro (cI g),RA.ro (cI e)] (RR.vals [cB r]))]):
 Rr 87 [RA.ref [D.sl 4 H,I d,I f,D.sl 8 J,D.sl 6 K,D.sl 5 L,D.sl 3 M,B s] [D.sl 4 A,I b,I c,D.sl 8 C,D.sl 6 E,D.sl 5 F,D.sl 3 G,B q],RA.ro (.agg [I a,I g,I e])] (RR.vals [cB r]):=
 h.ofR
theorem qKH(h:Oo [.b (a==1) false,.b (a==2) false,.b (a==3) false,.b (a==4) false,.b (a==5) true,.a (.resR [some [D.sl 4 A,I b,I c,D.sl 8 C,D.sl 6 E,D.sl 5 F,D.sl 3 G,B q],none,none] (RR.vals [cB r])),.p (RetR prog 148 [RA.ref [D.sl 4 H,I d,I f,D.sl 8 J,D.sl 6 K,D.sl 5 L,D.sl 3 M,B s] [D.sl 4 A,I b,I c,D.sl 8 C,D.sl 6 E,D.sl 5 F,D.sl 3 G,B q],RA.ro (cI g),RA.ro (cI e)] (RR.vals [cB r]))]):
 Rr 87 [RA.ref [D.sl 4 H,I d,I f,D.sl 8 J,D.sl 6 K,D.sl 5 L,D.sl 3 M,B s] [D.sl 4 A,I b,I c,D.sl 8 C,D.sl 6 E,D.sl 5 F,D.sl 3 G,B q],RA.ro (.agg [I a,I g,I e])] (RR.vals [cB r]):=
 h.ofR
theorem qKI(h:Oo [.b (a==1) false,.b (a==2) false,.b (a==3) false,.b (a==4) false,.b (a==5) false,.b (a==6) true,.a (.resR [some [D.sl 4 A,I b,I c,D.sl 8 C,D.sl 6 E,D.sl 5 F,D.sl 3 G,B q],none] (RR.vals [cB r])),.p (RetR prog 80 [RA.ref [D.sl 4 H,I d,I e,D.sl 8 J,D.sl 6 K,D.sl 5 L,D.sl 3 M,B s] [D.sl 4 A,I b,I c,D.sl 8 C,D.sl 6 E,D.sl 5 F,D.sl 3 G,B q],RA.ro (cI f)] (RR.vals [cB r]))]):
 Rr 87 [RA.ref [D.sl 4 H,I d,I e,D.sl 8 J,D.sl 6 K,D.sl 5 L,D.sl 3 M,B s] [D.sl 4 A,I b,I c,D.sl 8 C,D.sl 6 E,D.sl 5 F,D.sl 3 G,B q],RA.ro (.agg [I a,I f,I g])] (RR.vals [cB r]):=
 h.ofR
theorem qKJ(h:Oo [.b (a==1) false,.b (a==2) false,.b (a==3) false,.b (a==4) false,.b (a==5) false,.b (a==6) false,.b (a==7) true,.a (.resR [some [D.sl 4 A,I b,I c,D.sl 8 C,D.sl 6 E,D.sl 5 F,D.sl 3 G,B q],none] (RR.vals [cB r])),.p (RetR prog 56 [RA.ref [D.sl 4 H,I d,I e,D.sl 8 J,D.sl 6 K,D.sl 5 L,D.sl 3 M,B s] [D.sl 4 A,I b,I c,D.sl 8 C,D.sl 6 E,D.sl 5 F,D.sl 3 G,B q],RA.ro (cI f)] (RR.vals [cB r]))]):
 Rr 87 [RA.ref [D.sl 4 H,I d,I e,D.sl 8 J,D.sl 6 K,D.sl 5 L,D.sl 3 M,B s] [D.sl 4 A,I b,I c,D.sl 8 C,D.sl 6 E,D.sl 5 F,D.sl 3 G,B q],RA.ro (.agg [I a,I f,I g])] (RR.vals [cB r]):=
 h.ofR
theorem qKK(h:Oo [.b (a==1) false,.b (a==2) false,.b (a==3) false,.b (a==4) false,.b (a==5) false,.b (a==6) false,.b (a==7) false]):
 Rr 87 [RA.ref [D.sl 4 A,I b,I c,D.sl 8 C,D.sl 6 E,D.sl 5 F,D.sl 3 G,B q] [D.sl 4 A,I b,I c,D.sl 8 C,D.sl 6 E,D.sl 5 F,D.sl 3 G,B q],RA.ro (.agg [I a,I e,I d])] (RR.vals [cB false]):=
 h.ofR
end Go.Proofs.YtdanpadojemjeaaGreat
