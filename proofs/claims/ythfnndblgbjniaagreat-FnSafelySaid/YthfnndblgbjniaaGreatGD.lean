import Derived.Test.YthfnndblgbjniaaGreatGE
namespace Go.Proofs.YthfnndblgbjniaaGreat
open Go.Sx Go.RowKit Go.Proofs.Tryz
variable {a b c d e f g i j k l m n o p a0 b8 c9 d0 bE f0 i0 : Int} {A C E F : af} {q : Bool}
def AR(A:af)(a b:Int):aD:=a' 32 [(0,.aF (.one (.dC 1000000100 1 A))),(3,aT b),(4,aT a)] []
theorem aBv(h:ad [.f A a true,.b (decide (a<4000)) true,.v (b*131),.x A a [D.v (Value.int IntKind.u8 c)],.a (.pM (aT d)),.v c,.v (b*131+c),.v (b*131+c+7),.p (nj prog BinOp.and 3 (Operand.tmp 26) (Operand.const (Value.int IntKind.i64 1073741823)) (Value.int IntKind.i64 (b*131+c+7)) (Value.int IntKind.i64 1073741823) (Value.int IntKind.i64 d)),.u a]):
 aV (ap f24 0) (AR A a b) .normal (AR A (a+1) d):=
 h.aQ [4,0,3] []
def GL(A:af)(a:Int):aD:=a' 32 [(0,.aF (.one (.dC 1000000100 1 A))),(3,aT a)] []
theorem aBw(h:ad [.f A a true,.b (decide (a<4000)) false]):
 aV (ap f24 0) (AR A a b) (.exit 0) (GL A b):=
 h.aQ [0,3] []
theorem aBx(h:ad [.f A a false]):
 aV (ap f24 0) (AR A a b) (.exit 0) (GL A b):=
 h.aQ [0,3] []
theorem aBy(h:ad [.v (94701+(A.length:Int)),.l [] [4,0,3] [] (ap f24 0) (AR A 0 (94701+(A.length:Int))) (.exit 0) (GL A a)]):
 cb 24 [aM.ro (aP 1 A)] (a1.iY [some 0,none,none] [D.J 1 A,I 0,I a]):=
 h.cc
def aaY(a b c d e:Int)(l:List O):List O:=.a .wr::.a .wr::.a (.pM (aT a))::.a (.pM (aT b))::.a (.pM (aT c))::.a (.pM (aT d))::.p (nj prog BinOp.shr 3 (Operand.tmp 16) (Operand.const (Value.int IntKind.u64 33)) (Value.int IntKind.i64 (IntKind.i64.wrap (IntKind.i64.wrap (e*6364136223846793005)+1442695040888963407))) (Value.int IntKind.u64 33) (Value.int IntKind.i64 a))::.p (nj prog BinOp.shr 3 (Operand.tmp 21) (Operand.const (Value.int IntKind.u64 45)) (Value.int IntKind.i64 (IntKind.i64.wrap (IntKind.i64.wrap (e*6364136223846793005)+1442695040888963407))) (Value.int IntKind.u64 45) (Value.int IntKind.i64 b))::.p (nj prog BinOp.xor 3 (Operand.tmp 17) (Operand.tmp 22) (Value.int IntKind.i64 a) (Value.int IntKind.i64 b) (Value.int IntKind.i64 c))::.p (nj prog BinOp.and 3 (Operand.tmp 23) (Operand.const (Value.int IntKind.i64 255)) (Value.int IntKind.i64 c) (Value.int IntKind.i64 255) (Value.int IntKind.i64 d))::l
theorem aBz(h:ad (aaY c d e f b [.i A a [D.v (Value.int IntKind.u8 i)],.a .wr,.a .wr,.a (.pM (aT g)),.p (nj prog BinOp.and 3 (Operand.tmp 47) (Operand.const (Value.int IntKind.i64 255)) (Value.int IntKind.i64 (IntKind.i64.wrap (f+IntKind.i64.wrap i))) (Value.int IntKind.i64 255) (Value.int IntKind.i64 g)),.u a])):
 cb 106 [aM.cur [D.J 1 A,I a,I b] [D.J 1 A,I (a+1),I (IntKind.i64.wrap (IntKind.i64.wrap (b*6364136223846793005)+1442695040888963407))]] (a1.vals [ae g]):=
 h.cc
theorem aBA(h:ad (aaY c d e f a [.f A b false])):
 cb 106 [aM.cur [D.J 1 A,I b,I a] [D.J 1 A,I b,I (IntKind.i64.wrap (IntKind.i64.wrap (a*6364136223846793005)+1442695040888963407))]] (a1.vals [ae f]):=
 h.cc
theorem aBB(h:ad [.b (decide (a<=0)) false,.b (decide (a<=256)) true,.a (.dL [some [D.J 1 A,I b,I c]] (a1.vals [ae d])),.p (b4 prog 106 [aM.cur [D.J 1 A,I e,I f] [D.J 1 A,I b,I c]] (a1.vals [ae d])),.p (a≠0)]):
 cb 61 [aM.cur [D.J 1 A,I e,I f] [D.J 1 A,I b,I c],aM.ro (ae a)] (a1.vals [ae (d.tmod a)]):=
 h.cc
theorem aBC(h:ad [.b (decide (d<=0)) false,.b (decide (d<=256)) false,.a (.dL [some [D.J 1 A,I l,I m]] (a1.vals [ae b])),.a (.dL [some [D.J 1 A,I n,I f]] (a1.vals [ae a])),.a (.dL [some [D.J 1 A,I g,I i]] (a1.vals [ae c])),.a (.dL [some [D.J 1 A,I j,I k]] (a1.vals [ae e])),.p (b4 prog 106 [aM.cur [D.J 1 A,I o,I p] [D.J 1 A,I l,I m]] (a1.vals [ae b])),.p (b4 prog 106 [aM.cur [D.J 1 A,I l,I m] [D.J 1 A,I n,I f]] (a1.vals [ae a])),.p (b4 prog 106 [aM.cur [D.J 1 A,I n,I f] [D.J 1 A,I g,I i]] (a1.vals [ae c])),.p (b4 prog 106 [aM.cur [D.J 1 A,I g,I i] [D.J 1 A,I j,I k]] (a1.vals [ae e])),.v (b*16777216),.v (a*65536),.v (b*16777216+a*65536),.v (c*256),.v (b*16777216+a*65536+c*256),.v (b*16777216+a*65536+c*256+e),.p (d≠0)]):
 cb 61 [aM.cur [D.J 1 A,I o,I p] [D.J 1 A,I j,I k],aM.ro (ae d)] (a1.vals [ae ((b*16777216+a*65536+c*256+e).tmod d)]):=
 h.cc
theorem aBD(h:ad [.w A a b c,.k A 61 d e a b f c]):
 cb 66 [aM.cur [D.J 1 A,I d,I e] [D.J 1 A,I a,I b],aM.ro (ae f)] (a1.vals [ak (c==0)]):=
 h.cc
theorem aBE(h:ad [.w A a b c,.k A 61 d e a b (C.length:Int) c,.x C c [I f]]):
 cb 64 [aM.cur [D.J 1 A,I d,I e] [D.J 1 A,I a,I b],aM.ro (aP 1 C)] (a1.vals [ae f]):=
 h.cc
theorem aBF(h:ad [.w A b c d,.w A e f a,.k A 61 g i b c 4 d,.k A 61 b c e f 5 a]):
 cb 158 [aM.cur [D.J 1 A,I g,I i] [D.J 1 A,I e,I f]] (a1.vals [.agg [I d,I a]]):=
 h.cc
def QB(A:af)(a b c d e f g i j:Int)(l:List O):List O:=.a (.dL [some [D.J 1 A,I a,I b]] (a1.vals [.agg [I c,I d]]))::.w A e f g::.p (b4 prog 158 [aM.cur [D.J 1 A,I i,I j] [D.J 1 A,I a,I b]] (a1.vals [.agg [I c,I d]]))::.k A 61 a b e f 10 g::l
theorem aBG(h:ad (QB A f g m i j a b k l [.b (b==0) true,.w A c d e,.p (b4 prog 64 [aM.cur [D.J 1 A,I j,I a] [D.J 1 A,I c,I d],aM.ro (.one (.J 1 [[I (-1)],[I 3],[I 4],[I 9223372036854775807]]))] (a1.vals [ae e]))])):
 cb 157 [aM.cur [D.J 1 A,I k,I l] [D.J 1 A,I c,I d]] (a1.vals [.agg [I e,I i]]):=
 h.cc
theorem aBH(h:ad (QB A f g i m j b a k l [.b (a==0) false,.b (a==1) true,.w A c d e,.p (b4 prog 64 [aM.cur [D.J 1 A,I j,I b] [D.J 1 A,I c,I d],aM.ro (.one (.J 1 [[I (-1)],[I 5],[I 6],[I 7],[I (-9223372036854775808)]]))] (a1.vals [ae e]))])):
 cb 157 [aM.cur [D.J 1 A,I k,I l] [D.J 1 A,I c,I d]] (a1.vals [.agg [I i,I e]]):=
 h.cc
theorem aBI(h:ad (QB A c d e f g b a i j [.b (a==0) false,.b (a==1) false])):
 cb 157 [aM.cur [D.J 1 A,I i,I j] [D.J 1 A,I g,I b]] (a1.vals [.agg [I e,I f]]):=
 h.cc
theorem aBJ(h:ad [.w A j k l,.a (.dL [some [D.J 1 A,I m,I n]] (a1.vals [.agg [I a,I b]])),.w A c d e,.w A f g i,.k A 61 o p j k 5 l,.p (b4 prog 158 [aM.cur [D.J 1 A,I j,I k] [D.J 1 A,I m,I n]] (a1.vals [.agg [I a,I b]])),.k A 61 m n c d 12 e,.k A 61 c d f g 40 i]):
 cb 109 [aM.cur [D.J 1 A,I o,I p] [D.J 1 A,I f,I g]] (a1.vals [.agg (bi l a b e i)]):=
 h.cc
def En(A:af)(a b c d e f g i j k m n:Int)(l:List O):List O:=.a (.dL [some [D.J 1 A,I a,I b]] (a1.vals [.agg (bi c d e f g)]))::.w A i j k::.p (b4 prog 109 [aM.cur [D.J 1 A,I m,I n] [D.J 1 A,I a,I b]] (a1.vals [.agg (bi c d e f g)]))::.k A 61 a b i j 12 k::l
theorem aBK(h:ad (En A i j p k l m a b c d n o [.b (d==0) true,.w A e f g,.p (b4 prog 64 [aM.cur [D.J 1 A,I b,I c] [D.J 1 A,I e,I f],aM.ro (.one (.J 1 [[I (-1)],[I 7],[I 8]]))] (a1.vals [ae g]))])):
 cb 108 [aM.cur [D.J 1 A,I n,I o] [D.J 1 A,I e,I f]] (a1.vals [.agg (bi g k l m a)]):=
 h.cc
theorem aBL(h:ad (En A j k l p a0 m b c d a n o [.b (a==0) false,.b (a==1) true,.a (.dL [some [D.J 1 A,I e,I f]] (a1.vals [.agg [I g,I i]])),.p (b4 prog 157 [aM.cur [D.J 1 A,I c,I d] [D.J 1 A,I e,I f]] (a1.vals [.agg [I g,I i]]))])):
 cb 108 [aM.cur [D.J 1 A,I n,I o] [D.J 1 A,I e,I f]] (a1.vals [.agg (bi l g i m b)]):=
 h.cc
theorem aAW(h:ad (En A i j k l m p b c d a n o [.b (a==0) false,.b (a==1) false,.b (a==2) true,.w A e f g,.p (b4 prog 64 [aM.cur [D.J 1 A,I c,I d] [D.J 1 A,I e,I f],aM.ro (.one (.J 1 [[I (-1)],[I 99],[I 100],[I (-9223372036854775808)]]))] (a1.vals [ae g]))])):
 cb 108 [aM.cur [D.J 1 A,I n,I o] [D.J 1 A,I e,I f]] (a1.vals [.agg (bi k l m g b)]):=
 h.cc
theorem aAX(h:ad (En A g i j k l m o b c a n p [.b (a==0) false,.b (a==1) false,.b (a==2) false,.b (a==3) true,.w A d e f,.p (b4 prog 64 [aM.cur [D.J 1 A,I b,I c] [D.J 1 A,I d,I e],aM.ro (.one (.J 1 [[I (-1)],[I 999],[I 1000],[I 9223372036854775807]]))] (a1.vals [ae f]))])):
 cb 108 [aM.cur [D.J 1 A,I n,I p] [D.J 1 A,I d,I e]] (a1.vals [.agg (bi j k l m f)]):=
 h.cc
theorem aAY(h:ad (En A e f g i j k b c d a l m [.b (a==0) false,.b (a==1) false,.b (a==2) false,.b (a==3) false])):
 cb 108 [aM.cur [D.J 1 A,I l,I m] [D.J 1 A,I c,I d]] (a1.vals [.agg (bi g i j k b)]):=
 h.cc
def aaZ(A:af)(a b c d e f g i:Int)(q:Bool)(j k:Int)(l:List O):List O:=.w A a b c::.w A d e f::.y A g i q::.k A 61 j k a b 3 c::.v (1+c)::.k A 61 a b d e 3 f::.v (1+f)::.m A 66 d e g i 3 q::l
def El(A:af)(a b c d e f g i:Int)(q:Bool)(j k m n o p dN e7 c1 d1 e1 f1 g1 i1:Int)(l:List O):List O:=aaZ A a b c d e f g i q j k (.b q true::.w A m n o::.w A p dN e7::.w A c1 d1 e1::.w A f1 g1 i1::.k A 61 g i m n 3 o::.v (1+o)::.k A 61 m n p dN 4 e7::.k A 61 p dN c1 d1 3 e1::.v (1+e1)::.k A 61 c1 d1 f1 g1 6 i1::l)
theorem aAZ{A:af}{f0 i0 b8 c9 e d0 bE c f g:Int}{q:Bool}{i j a k l b m n d o p a0:Int}{d31 d32 d33 d34:D}(h:ad (El A b8 c9 e d0 bE c f g q f0 i0 i j a k l b m n d o p a0 [.b (a0==0) true,.p ((0:Int)<=3),.p (3<(↑[[I 1,I 0,I 0,D.J 1 [[I 1]]],[I 6,I 0,I 0,D.J 1 [[I 2],[I 5]]],[I 4,I (1+a),I 0,D.J 1 [[I 3]]],[I 2,I b,I 0,D.J 1 [[I 4]]],[I 7,I 0,I 0,D.J 1 [[I 1]]],[I 8,I 0,I 0,D.v (aR)]].length:Int)),.e [[I 1,I 0,I 0,D.J 1 [[I 1]]],[I 6,I 0,I 0,D.J 1 [[I 2],[I 5]]],[I 4,I (1+a),I 0,D.J 1 [[I 3]]],[I 2,I b,I 0,D.J 1 [[I 4]]],[I 7,I 0,I 0,D.J 1 [[I 1]]],[I 8,I 0,I 0,D.v (aR)]] 3 [d31,d32,d33,d34]])):
 cb 99 [aM.cur [D.J 1 A,I f0,I i0] [D.J 1 A,I o,I p]] (a1.vals [.agg (bz ([[I 1,I 0,I 0,D.J 1 [[I 1]]],[I 6,I 0,I 0,D.J 1 [[I 2],[I 5]]],[I 4,I (1+a),I 0,D.J 1 [[I 3]]],[I 2,I b,I 0,D.J 1 [[I 4]]],[I 7,I 0,I 0,D.J 1 [[I 1]]],[I 8,I 0,I 0,D.v (aR)]].set 3 [I 3,I (1+d),I 0,D.J 1 [[I 4]]]) (1+e) (1+c))]):=
 h.cc
theorem aA0{A:af}{f0 i0 b8 c9 e d0 bE c f g:Int}{q:Bool}{i j a k l b m n o p a0 d:Int}{d31 d32 d33 d34:D}(h:ad (El A b8 c9 e d0 bE c f g q f0 i0 i j a k l b m n o p a0 d [.b (d==0) false,.b (d==1) true,.p ((0:Int)<=4),.p (4<(↑[[I 1,I 0,I 0,D.J 1 [[I 1]]],[I 6,I 0,I 0,D.J 1 [[I 2],[I 5]]],[I 4,I (1+a),I 0,D.J 1 [[I 3]]],[I 2,I b,I 0,D.J 1 [[I 4]]],[I 7,I 0,I 0,D.J 1 [[I 1]]],[I 8,I 0,I 0,D.v (aR)]].length:Int)),.e [[I 1,I 0,I 0,D.J 1 [[I 1]]],[I 6,I 0,I 0,D.J 1 [[I 2],[I 5]]],[I 4,I (1+a),I 0,D.J 1 [[I 3]]],[I 2,I b,I 0,D.J 1 [[I 4]]],[I 7,I 0,I 0,D.J 1 [[I 1]]],[I 8,I 0,I 0,D.v (aR)]] 4 [d31,d32,d33,d34]])):
 cb 99 [aM.cur [D.J 1 A,I f0,I i0] [D.J 1 A,I p,I a0]] (a1.vals [.agg (bz ([[I 1,I 0,I 0,D.J 1 [[I 1]]],[I 6,I 0,I 0,D.J 1 [[I 2],[I 5]]],[I 4,I (1+a),I 0,D.J 1 [[I 3]]],[I 2,I b,I 0,D.J 1 [[I 4]]],[I 7,I 0,I 0,D.J 1 [[I 1]]],[I 8,I 0,I 0,D.v (aR)]].set 4 [I 8,I 0,I 0,D.v (aR)]) (1+e) (1+c))]):=
 h.cc
theorem aA1{A:af}{f0 i0 b8 c9 e d0 bE d f g:Int}{q:Bool}{i j a k l b m n o p a0 c:Int}{d31 d32 d33 d34:D}(h:ad (El A b8 c9 e d0 bE d f g q f0 i0 i j a k l b m n o p a0 c [.b (c==0) false,.b (c==1) false,.b (c==2) true,.p ((0:Int)<=2),.p (2<(↑[[I 1,I 0,I 0,D.J 1 [[I 1]]],[I 6,I 0,I 0,D.J 1 [[I 2],[I 5]]],[I 4,I (1+a),I 0,D.J 1 [[I 3]]],[I 2,I b,I 0,D.J 1 [[I 4]]],[I 7,I 0,I 0,D.J 1 [[I 1]]],[I 8,I 0,I 0,D.v (aR)]].length:Int)),.e [[I 1,I 0,I 0,D.J 1 [[I 1]]],[I 6,I 0,I 0,D.J 1 [[I 2],[I 5]]],[I 4,I (1+a),I 0,D.J 1 [[I 3]]],[I 2,I b,I 0,D.J 1 [[I 4]]],[I 7,I 0,I 0,D.J 1 [[I 1]]],[I 8,I 0,I 0,D.v (aR)]] 2 [d31,d32,d33,d34]])):
 cb 99 [aM.cur [D.J 1 A,I f0,I i0] [D.J 1 A,I p,I a0]] (a1.vals [.agg (bz ([[I 1,I 0,I 0,D.J 1 [[I 1]]],[I 6,I 0,I 0,D.J 1 [[I 2],[I 5]]],[I 4,I (1+a),I 0,D.J 1 [[I 3]]],[I 2,I b,I 0,D.J 1 [[I 4]]],[I 7,I 0,I 0,D.J 1 [[I 1]]],[I 8,I 0,I 0,D.v (aR)]].set 2 [d31,d32,d33,D.J 1 [[I 3],[I 4]]]) (1+e) (1+d))]):=
 h.cc
theorem aA2{A:af}{f0 i0 b8 c9 e d0 bE d f g:Int}{q:Bool}{i j a k l b m n o p a0 c:Int}{d31 d32 d33 d34:D}(h:ad (El A b8 c9 e d0 bE d f g q f0 i0 i j a k l b m n o p a0 c [.b (c==0) false,.b (c==1) false,.b (c==2) false,.b (c==3) true,.a .wr,.p (([[I 1,I 0,I 0,D.J 1 [[I 1]]],[I 6,I 0,I 0,D.J 1 [[I 2],[I 5]]],[I 4,I (1+a),I 0,D.J 1 [[I 3]]],[I 2,I b,I 0,D.J 1 [[I 4]]],[I 7,I 0,I 0,D.J 1 [[I 1]]],[I 8,I 0,I 0,D.v (aR)]].length+[[I 8,I 0,I 0,D.v (aR)]].length)*48<=140737488355328),.p ([[I 1,I 0,I 0,D.J 1 [[I 1]]],[I 6,I 0,I 0,D.J 1 [[I 2],[I 5]]],[I 4,I (1+a),I 0,D.J 1 [[I 3]]],[I 2,I b,I 0,D.J 1 [[I 4]]],[I 7,I 0,I 0,D.J 1 [[I 1]]],[I 8,I 0,I 0,D.v (aR)]].length+[[I 8,I 0,I 0,D.v (aR)]].length<=9223372036854775807),.p ((0:Int)<=0),.p (0<(↑([[I 1,I 0,I 0,D.J 1 [[I 1]]],[I 6,I 0,I 0,D.J 1 [[I 2],[I 5]]],[I 4,I (1+a),I 0,D.J 1 [[I 3]]],[I 2,I b,I 0,D.J 1 [[I 4]]],[I 7,I 0,I 0,D.J 1 [[I 1]]],[I 8,I 0,I 0,D.v (aR)]]++[[I 8,I 0,I 0,D.v (aR)]]).length:Int)),.e ([[I 1,I 0,I 0,D.J 1 [[I 1]]],[I 6,I 0,I 0,D.J 1 [[I 2],[I 5]]],[I 4,I (1+a),I 0,D.J 1 [[I 3]]],[I 2,I b,I 0,D.J 1 [[I 4]]],[I 7,I 0,I 0,D.J 1 [[I 1]]],[I 8,I 0,I 0,D.v (aR)]]++[[I 8,I 0,I 0,D.v (aR)]]) 0 [d31,d32,d33,d34]])):
 cb 99 [aM.cur [D.J 1 A,I f0,I i0] [D.J 1 A,I p,I a0]] (a1.vals [.agg (bz (([[I 1,I 0,I 0,D.J 1 [[I 1]]],[I 6,I 0,I 0,D.J 1 [[I 2],[I 5]]],[I 4,I (1+a),I 0,D.J 1 [[I 3]]],[I 2,I b,I 0,D.J 1 [[I 4]]],[I 7,I 0,I 0,D.J 1 [[I 1]]],[I 8,I 0,I 0,D.v (aR)]]++[[I 8,I 0,I 0,D.v (aR)]]).set 0 [d31,d32,d33,D.J 1 [[I 1],[I 6]]]) (1+e) (1+d))]):=
 h.cc
theorem aA3(h:ad (El A b8 c9 d d0 bE b e f q f0 i0 g i c j k l m n o p a0 a [.b (a==0) false,.b (a==1) false,.b (a==2) false,.b (a==3) false])):
 cb 99 [aM.cur [D.J 1 A,I f0,I i0] [D.J 1 A,I p,I a0]] (a1.vals [.agg [D.J 4 [[I 1,I 0,I 0,D.J 1 [[I 1]]],[I 6,I 0,I 0,D.J 1 [[I 2],[I 5]]],[I 4,I (1+c),I 0,D.J 1 [[I 3]]],[I 2,I l,I 0,D.J 1 [[I 4]]],[I 7,I 0,I 0,D.J 1 [[I 1]]],[I 8,I 0,I 0,D.v (aR)]],I (1+d),I (1+b)]]):=
 h.cc
def Em(A:af)(a b c d e f g i:Int)(q:Bool)(j k m n o p dN e7 c1 d1 e1 f1 g1 i1:Int)(l:List O):List O:=aaZ A a b c d e f g i q j k (.b q false::.w A m n o::.w A p dN e7::.w A c1 d1 e1::.w A f1 g1 i1::.k A 61 g i m n 3 o::.v (1+o)::.k A 61 m n p dN 4 e7::.k A 61 p dN c1 d1 3 e1::.v (1+e1)::.k A 61 c1 d1 f1 g1 6 i1::l)
theorem aA4{A:af}{f0 i0 b8 c9 e d0 bE c f g:Int}{q:Bool}{i j a k l b m n d o p a0:Int}{d31 d32 d33 d34:D}(h:ad (Em A b8 c9 e d0 bE c f g q f0 i0 i j a k l b m n d o p a0 [.b (a0==0) true,.p ((0:Int)<=3),.p (3<(↑[[I 1,I 0,I 0,D.J 1 [[I 1]]],[I 5,I 0,I 0,D.J 1 [[I 2],[I 5]]],[I 4,I (1+a),I 0,D.J 1 [[I 3]]],[I 2,I b,I 0,D.J 1 [[I 4]]],[I 7,I 0,I 0,D.J 1 [[I 1]]],[I 8,I 0,I 0,D.v (aR)]].length:Int)),.e [[I 1,I 0,I 0,D.J 1 [[I 1]]],[I 5,I 0,I 0,D.J 1 [[I 2],[I 5]]],[I 4,I (1+a),I 0,D.J 1 [[I 3]]],[I 2,I b,I 0,D.J 1 [[I 4]]],[I 7,I 0,I 0,D.J 1 [[I 1]]],[I 8,I 0,I 0,D.v (aR)]] 3 [d31,d32,d33,d34]])):
 cb 99 [aM.cur [D.J 1 A,I f0,I i0] [D.J 1 A,I o,I p]] (a1.vals [.agg (bz ([[I 1,I 0,I 0,D.J 1 [[I 1]]],[I 5,I 0,I 0,D.J 1 [[I 2],[I 5]]],[I 4,I (1+a),I 0,D.J 1 [[I 3]]],[I 2,I b,I 0,D.J 1 [[I 4]]],[I 7,I 0,I 0,D.J 1 [[I 1]]],[I 8,I 0,I 0,D.v (aR)]].set 3 [I 3,I (1+d),I 0,D.J 1 [[I 4]]]) (1+e) (1+c))]):=
 h.cc
theorem aA5{A:af}{f0 i0 b8 c9 e d0 bE c f g:Int}{q:Bool}{i j a k l b m n o p a0 d:Int}{d31 d32 d33 d34:D}(h:ad (Em A b8 c9 e d0 bE c f g q f0 i0 i j a k l b m n o p a0 d [.b (d==0) false,.b (d==1) true,.p ((0:Int)<=4),.p (4<(↑[[I 1,I 0,I 0,D.J 1 [[I 1]]],[I 5,I 0,I 0,D.J 1 [[I 2],[I 5]]],[I 4,I (1+a),I 0,D.J 1 [[I 3]]],[I 2,I b,I 0,D.J 1 [[I 4]]],[I 7,I 0,I 0,D.J 1 [[I 1]]],[I 8,I 0,I 0,D.v (aR)]].length:Int)),.e [[I 1,I 0,I 0,D.J 1 [[I 1]]],[I 5,I 0,I 0,D.J 1 [[I 2],[I 5]]],[I 4,I (1+a),I 0,D.J 1 [[I 3]]],[I 2,I b,I 0,D.J 1 [[I 4]]],[I 7,I 0,I 0,D.J 1 [[I 1]]],[I 8,I 0,I 0,D.v (aR)]] 4 [d31,d32,d33,d34]])):
 cb 99 [aM.cur [D.J 1 A,I f0,I i0] [D.J 1 A,I p,I a0]] (a1.vals [.agg (bz ([[I 1,I 0,I 0,D.J 1 [[I 1]]],[I 5,I 0,I 0,D.J 1 [[I 2],[I 5]]],[I 4,I (1+a),I 0,D.J 1 [[I 3]]],[I 2,I b,I 0,D.J 1 [[I 4]]],[I 7,I 0,I 0,D.J 1 [[I 1]]],[I 8,I 0,I 0,D.v (aR)]].set 4 [I 8,I 0,I 0,D.v (aR)]) (1+e) (1+c))]):=
 h.cc
theorem aA6{A:af}{f0 i0 b8 c9 e d0 bE d f g:Int}{q:Bool}{i j a k l b m n o p a0 c:Int}{d31 d32 d33 d34:D}(h:ad (Em A b8 c9 e d0 bE d f g q f0 i0 i j a k l b m n o p a0 c [.b (c==0) false,.b (c==1) false,.b (c==2) true,.p ((0:Int)<=2),.p (2<(↑[[I 1,I 0,I 0,D.J 1 [[I 1]]],[I 5,I 0,I 0,D.J 1 [[I 2],[I 5]]],[I 4,I (1+a),I 0,D.J 1 [[I 3]]],[I 2,I b,I 0,D.J 1 [[I 4]]],[I 7,I 0,I 0,D.J 1 [[I 1]]],[I 8,I 0,I 0,D.v (aR)]].length:Int)),.e [[I 1,I 0,I 0,D.J 1 [[I 1]]],[I 5,I 0,I 0,D.J 1 [[I 2],[I 5]]],[I 4,I (1+a),I 0,D.J 1 [[I 3]]],[I 2,I b,I 0,D.J 1 [[I 4]]],[I 7,I 0,I 0,D.J 1 [[I 1]]],[I 8,I 0,I 0,D.v (aR)]] 2 [d31,d32,d33,d34]])):
 cb 99 [aM.cur [D.J 1 A,I f0,I i0] [D.J 1 A,I p,I a0]] (a1.vals [.agg (bz ([[I 1,I 0,I 0,D.J 1 [[I 1]]],[I 5,I 0,I 0,D.J 1 [[I 2],[I 5]]],[I 4,I (1+a),I 0,D.J 1 [[I 3]]],[I 2,I b,I 0,D.J 1 [[I 4]]],[I 7,I 0,I 0,D.J 1 [[I 1]]],[I 8,I 0,I 0,D.v (aR)]].set 2 [d31,d32,d33,D.J 1 [[I 3],[I 4]]]) (1+e) (1+d))]):=
 h.cc
theorem aA7{A:af}{f0 i0 b8 c9 e d0 bE d f g:Int}{q:Bool}{i j a k l b m n o p a0 c:Int}{d31 d32 d33 d34:D}(h:ad (Em A b8 c9 e d0 bE d f g q f0 i0 i j a k l b m n o p a0 c [.b (c==0) false,.b (c==1) false,.b (c==2) false,.b (c==3) true,.a .wr,.p (([[I 1,I 0,I 0,D.J 1 [[I 1]]],[I 5,I 0,I 0,D.J 1 [[I 2],[I 5]]],[I 4,I (1+a),I 0,D.J 1 [[I 3]]],[I 2,I b,I 0,D.J 1 [[I 4]]],[I 7,I 0,I 0,D.J 1 [[I 1]]],[I 8,I 0,I 0,D.v (aR)]].length+[[I 8,I 0,I 0,D.v (aR)]].length)*48<=140737488355328),.p ([[I 1,I 0,I 0,D.J 1 [[I 1]]],[I 5,I 0,I 0,D.J 1 [[I 2],[I 5]]],[I 4,I (1+a),I 0,D.J 1 [[I 3]]],[I 2,I b,I 0,D.J 1 [[I 4]]],[I 7,I 0,I 0,D.J 1 [[I 1]]],[I 8,I 0,I 0,D.v (aR)]].length+[[I 8,I 0,I 0,D.v (aR)]].length<=9223372036854775807),.p ((0:Int)<=0),.p (0<(↑([[I 1,I 0,I 0,D.J 1 [[I 1]]],[I 5,I 0,I 0,D.J 1 [[I 2],[I 5]]],[I 4,I (1+a),I 0,D.J 1 [[I 3]]],[I 2,I b,I 0,D.J 1 [[I 4]]],[I 7,I 0,I 0,D.J 1 [[I 1]]],[I 8,I 0,I 0,D.v (aR)]]++[[I 8,I 0,I 0,D.v (aR)]]).length:Int)),.e ([[I 1,I 0,I 0,D.J 1 [[I 1]]],[I 5,I 0,I 0,D.J 1 [[I 2],[I 5]]],[I 4,I (1+a),I 0,D.J 1 [[I 3]]],[I 2,I b,I 0,D.J 1 [[I 4]]],[I 7,I 0,I 0,D.J 1 [[I 1]]],[I 8,I 0,I 0,D.v (aR)]]++[[I 8,I 0,I 0,D.v (aR)]]) 0 [d31,d32,d33,d34]])):
 cb 99 [aM.cur [D.J 1 A,I f0,I i0] [D.J 1 A,I p,I a0]] (a1.vals [.agg (bz (([[I 1,I 0,I 0,D.J 1 [[I 1]]],[I 5,I 0,I 0,D.J 1 [[I 2],[I 5]]],[I 4,I (1+a),I 0,D.J 1 [[I 3]]],[I 2,I b,I 0,D.J 1 [[I 4]]],[I 7,I 0,I 0,D.J 1 [[I 1]]],[I 8,I 0,I 0,D.v (aR)]]++[[I 8,I 0,I 0,D.v (aR)]]).set 0 [d31,d32,d33,D.J 1 [[I 1],[I 6]]]) (1+e) (1+d))]):=
 h.cc
theorem aA8(h:ad (Em A b8 c9 d d0 bE b e f q f0 i0 g i c j k l m n o p a0 a [.b (a==0) false,.b (a==1) false,.b (a==2) false,.b (a==3) false])):
 cb 99 [aM.cur [D.J 1 A,I f0,I i0] [D.J 1 A,I p,I a0]] (a1.vals [.agg [D.J 4 [[I 1,I 0,I 0,D.J 1 [[I 1]]],[I 5,I 0,I 0,D.J 1 [[I 2],[I 5]]],[I 4,I (1+c),I 0,D.J 1 [[I 3]]],[I 2,I l,I 0,D.J 1 [[I 4]]],[I 7,I 0,I 0,D.J 1 [[I 1]]],[I 8,I 0,I 0,D.v (aR)]],I (1+d),I (1+b)]]):=
 h.cc
def Vh(C A:af)(b c d e f a:Int):aD:=a' 75 [(0,aS 1000000000),(2,aS 2),(3,aS 3),(4,aT d),(5,aS 1000000000),(6,aI.aF (bp.agg [aB 70000 4 A,av b,av c])),(7,aS 1000000000),(8,aS 3),(9,aI.aF (bp.one (aB 70000 4 A))),(10,aT (A.length:Int)),(11,aT d),(12,aS 1000000000),(13,aT a),(14,.aF (.one (.bg (a==0)))),(15,.aF (.one (.bg (a==0))))] [(3,[aB 70000 4 A,av b,av c]),(2,[.v (aR),av 0,av 0]),(1000000000,[.dC 1000000100 1 C,av e,av f])]
def N9(E A:af)(f g a e i j c d b:Int)(C:af):aD:=a' 75 [(0,aS 1000000000),(2,aS 2),(3,aS 3),(4,aT a),(5,aS 1000000000),(6,aI.aF (bp.agg [aB 70000 4 (A.set a.toNat (br c d b C)),av f,av g])),(7,aS 1000000000),(8,aS 3),(9,aI.aF (bp.one (aB 70000 4 (A.set a.toNat (br c d b C))))),(10,aT (A.length:Int)),(11,aT a),(12,aS 1000000000),(13,aT e),(14,.aF (.one (.bg (e==0)))),(15,.aF (.one (.bg (e==0)))),(16,aS 3),(17,aI.aF (bp.one (aB 70000 4 (A.set a.toNat (br c d b C))))),(18,aT a),(19,aS 1000000000),(20,aI.aF (bp.agg [av c,av d,av b,.cp])),(21,.aF (.one (.ep (Tag.own 70000) 4 (A.set a.toNat (br c d b C)) a.toNat 0)))] [(3,[aB 70000 4 (A.set a.toNat (br c d b C)),av f,av g]),(2,[.v (aR),av 0,av 0]),(1000000000,[.dC 1000000100 1 E,av i,av j])]
theorem aA9{A C:af}{n o a g i m b c d e f:Int}{E:af}{j k l:Int}{F:af}
  (h:cO [b4 prog 111 [aM.cur [D.J 1 A,I g,I i] [D.J 1 A,I b,I c]] (a1.vals [.agg (br d e f E)]),0<=a,a<(C.length:Int),C[a.toNat]?=some (br j k l F)]):
  ey prog (cT f65 5) (Vh A C n o a g i m) (N9 A C n o a m b c d e f E):=
 .of [[],[],[],[],[.dL [some [D.J 1 A,I b,I c]] (a1.vals [.agg (br d e f E)])],[],[.el (br j k l F)]] [[],[],[],[],[b4 prog 111 [aM.cur [D.J 1 A,I g,I i] [D.J 1 A,I b,I c]] (a1.vals [.agg (br d e f E)])],[0<=a,a<(C.length:Int)],[C[a.toNat]?=some (br j k l F)]] (by kernel_rfl) (by kernel_rfl) (by kernel_rfl) h
def QC(A:af)(a b:Int)(C:af)(c d e f g i j k m n:Int)(l:List O):List O:=.a (.dL [some [D.J 1 A,I a,I b]] (a1.vals [.agg (bz C c d)]))::.w A e f g::.w A i j k::.p (b4 prog 99 [aM.cur [D.J 1 A,I m,I n] [D.J 1 A,I a,I b]] (a1.vals [.agg (bz C c d)]))::.k A 61 a b e f (C.length:Int) g::.k A 61 e f i j 12 k::l
theorem aBa(h:ad (QC A o p C c d e f a g i b a0 b8 [.b (b==0) true,.a (.iL (N9 A C c d a b j k l m n E)),.p (ey prog (cT f65 5) (Vh A C c d a g i b) (N9 A C c d a b j k l m n E))])):
 cb 65 [aM.cur [D.J 1 A,I a0,I b8] [D.J 1 A,I j,I k]] (a1.vals [.agg (bz (C.set a.toNat (br l m n E)) c d)]):=
 h.cc
theorem aBb(h:ad (QC A j k C p l b c n d e a m o [.b (a==0) false,.b (a==1) true,.w A f g i,.p (b4 prog 64 [aM.cur [D.J 1 A,I d,I e] [D.J 1 A,I f,I g],aM.ro (.one (.J 1 [[I 0],[I 4],[I 5],[I (-1)]]))] (a1.vals [ae i]))])):
 cb 65 [aM.cur [D.J 1 A,I m,I o] [D.J 1 A,I f,I g]] (a1.vals [.agg (bz C i l)]):=
 h.cc
def Eo(A:af)(a b:Int)(C:af)(c d e f g i j k m n:Int)(l:List O):List O:=QC A a b C c d e f g i j k m n (.b (k==0) false::.b (k==1) false::l)
theorem aBc(h:ad (Eo A j k C l p b c n d e a m o [.b (a==2) true,.w A f g i,.p (b4 prog 64 [aM.cur [D.J 1 A,I d,I e] [D.J 1 A,I f,I g],aM.ro (.one (.J 1 [[I 0],[I 4],[I 5],[I (-1)]]))] (a1.vals [ae i]))])):
 cb 65 [aM.cur [D.J 1 A,I m,I o] [D.J 1 A,I f,I g]] (a1.vals [.agg (bz C l i)]):=
 h.cc
def Vi(C A:af)(b c d e f a:Int):aD:=a' 75 [(0,aS 1000000000),(2,aS 2),(3,aS 3),(4,aT d),(5,aS 1000000000),(6,aI.aF (bp.agg [aB 70000 4 A,av b,av c])),(7,aS 1000000000),(8,aS 3),(9,aI.aF (bp.one (aB 70000 4 A))),(10,aT (A.length:Int)),(11,aT d),(12,aS 1000000000),(13,aT a),(14,.aF (.one (.bg (a==0)))),(15,.aF (.one (.bg (a==0)))),(22,.aF (.one (.bg (a==1)))),(23,.aF (.one (.bg (a==1)))),(28,.aF (.one (.bg (a==2)))),(29,.aF (.one (.bg (a==2)))),(34,.aF (.one (.bg (a==3)))),(35,.aF (.one (.bg (a==3))))] [(3,[aB 70000 4 A,av b,av c]),(2,[.v (aR),av 0,av 0]),(1000000000,[.dC 1000000100 1 C,av e,av f])]
def N'(E A:af)(g i a f:Int)(C:af)(j k b c d e:Int):aD:=a' 75 [(0,aS 1000000000),(2,aS 2),(3,aS 3),(4,aT a),(5,aS 1000000000),(6,aI.aF (bp.agg [.J (.own 70000) 4 (A.set a.toNat (br c d e (C++[[I (b-1)]]))),av g,av i])),(7,aS 1000000000),(8,aS 3),(9,.aF (.one (.J (.own 70000) 4 (A.set a.toNat (br c d e (C++[[I (b-1)]])))))),(10,aT (A.length:Int)),(11,aT a),(12,aS 1000000000),(13,aT f),(14,.aF (.one (.bg (f==0)))),(15,.aF (.one (.bg (f==0)))),(22,.aF (.one (.bg (f==1)))),(23,.aF (.one (.bg (f==1)))),(28,.aF (.one (.bg (f==2)))),(29,.aF (.one (.bg (f==2)))),(34,.aF (.one (.bg (f==3)))),(35,.aF (.one (.bg (f==3)))),(36,aS 3),(37,.aF (.one (.J (.own 70000) 4 (A.set a.toNat (br c d e (C++[[I (b-1)]])))))),(38,aT a),(39,aS 3),(40,.aF (.one (.J (.own 70000) 4 (A.set a.toNat (br c d e (C++[[I (b-1)]])))))),(41,aT a),(42,.aF (.one (.ep (Tag.own 70000) 4 (A.set a.toNat (br c d e (C++[[I (b-1)]]))) a.toNat 0))),(43,.aF (.one (.ep (Tag.own 70000) 4 (A.set a.toNat (br c d e (C++[[I (b-1)]]))) a.toNat 3))),(45,aS 1000000000),(46,aT b),(47,aT (b-1)),(48,.aF (.one (.J (.own 48) 1 [[I (b-1)]]))),(50,.aF (.one (.ep (Tag.own 70000) 4 (A.set a.toNat (br c d e (C++[[I (b-1)]]))) a.toNat 0))),(51,.aF (.one (.ep (Tag.own 70000) 4 (A.set a.toNat (br c d e (C++[[I (b-1)]]))) a.toNat 3)))] [(3,[.J (.own 70000) 4 (A.set a.toNat (br c d e (C++[[I (b-1)]]))),av g,av i]),(2,[.v (aR),av 0,av 0]),(1000000000,[.dC 1000000100 1 E,av j,av k])]
theorem aBd{E C:af}{o p a i j n k l m:Int}{A:af}{c d b:Int}{d25 d26 d27:D}{e f g:Int}{F:af}
  (h:cO [0<=a,a<(C.length:Int),C[a.toNat]?=some (br k l m A),b4 prog 61 [aM.cur [D.J 1 E,I i,I j] [D.J 1 E,I c,I d],aM.ro (ae 9)] (a1.vals [ae b]),aL .i64 (b-1),(A.length+[[I (b-1)]].length)*8<=140737488355328,A.length+[[I (b-1)]].length<=9223372036854775807,C[a.toNat]?=some [d25,d26,d27,D.J 1 A],[d25,d26,d27,D.J 1 A][3]?=some (D.J 1 A),a.toNat=a.toNat,Flat [[I (b-1)]],0<=a,a<(C.length:Int),C[a.toNat]?=some (br e f g F),a.toNat=a.toNat]):
  ey prog (cT f65 11) (Vi E C o p a i j n) (N' E C o p a n A c d b e f g):=
 .of [[],[],[],[],[],[],[],[],[.sub,.el (br k l m A)],[],[.dL [some [D.J 1 E,I c,I d],none] (a1.vals [ae b])],[],[],[.el [d25,d26,d27,D.J 1 A]],[],[],[.el (br e f g F)]] [[],[],[],[],[],[],[0<=a,a<(C.length:Int)],[],[C[a.toNat]?=some (br k l m A)],[],[b4 prog 61 [aM.cur [D.J 1 E,I i,I j] [D.J 1 E,I c,I d],aM.ro (ae 9)] (a1.vals [ae b])],[aL .i64 (b-1)],[],[(A.length+[[I (b-1)]].length)*8<=140737488355328,A.length+[[I (b-1)]].length<=9223372036854775807,C[a.toNat]?=some [d25,d26,d27,D.J 1 A],[d25,d26,d27,D.J 1 A][3]?=some (D.J 1 A),a.toNat=a.toNat,Flat [[I (b-1)]]],[0<=a,a<(C.length:Int)],[],[C[a.toNat]?=some (br e f g F),a.toNat=a.toNat]] (by kernel_rfl) (by kernel_rfl) (by kernel_rfl) h
theorem aBe(h:ad (Eo A p a0 C c d e f b g i a b8 c9 [.b (a==2) false,.b (a==3) true,.a (.iL (N' A C c d b a E j k l m n o)),.p (ey prog (cT f65 11) (Vi A C c d b g i a) (N' A C c d b a E j k l m n o))])):
 cb 65 [aM.cur [D.J 1 A,I b8,I c9] [D.J 1 A,I j,I k]] (a1.vals [.agg [D.J 4 (C.set b.toNat (br m n o (E++[[I (l-1)]]))),I c,I d]]):=
 h.cc
def CJ(A C:af)(a b c d e f:Int):aD:=a' 75 [(0,aS 1000000000),(2,aS 2),(3,aS 3)] [(3,[aB 70000 4 C,av a,av b]),(2,[.v (aR),av c,av d]),(1000000000,[.dC 1000000100 1 A,av e,av f])]
def GM(A C:af)(a b c d e f:Int):aD:=a' 75 [(0,aS 1000000000),(2,aS 2),(3,aS 3)] [(3,[aB 70000 4 C,av a,av b]),(2,[.v (aR),av c,av d]),(1000000000,[.dC 1000000100 1 A,av e,av f])]
def CK(P:Program)(W:Array Oper)(A C:af)(a b c d e f g i j:Int):aD:=
 ny P W [[],[],[],[],[.dL [some [D.J 1 A,I g,I i],none] (a1.vals [ae j])],[],[]] (GM A C a b c d e f)
theorem Vj{A C:af}{d e f g a b i j c:Int}
  (h:cO [b4 prog 61 [aM.cur [D.J 1 A,I a,I b] [D.J 1 A,I i,I j],aM.ro (ae 2)] (a1.vals [ae c]),aL .i64 (8+c)]):
  ey prog (cT f65 13) (GM A C d e f g a b) (CK prog (cT f65 13) A C d e f g a b i j c):=
 .nV [0,0,0,0,1,1,0] h
theorem aBf(h:ad [.a (.iL (CK prog (cT f65 13) C A a b c d e f g i j)),.p (ey prog (cT f65 13) (GM C A a b c d e f) (CK prog (cT f65 13) C A a b c d e f g i j)),.b (decide ((A.length:Int)<8+j)) true,.a .wr,.g A [[I 8,I 0,I 0,D.v (aR)]] 48]):
 aV (ap f65 0) (CJ C A a b c d e f) .normal (CJ C (A++[[I 8,I 0,I 0,D.v (aR)]]) a b c d g i):=
 h.aQ [3,0,2] [3,2,1000000000]
def Oa(A C:af)(a b c d e f:Int):aD:=a' 75 [(0,aS 1000000000),(2,aS 2),(3,aS 3)] [(3,[aB 70000 4 C,av a,av b]),(2,[.v (aR),av c,av d]),(1000000000,[.dC 1000000100 1 A,av e,av f])]
theorem aBg(h:ad [.a (.iL (CK prog (cT f65 13) C A a b c d e f g i j)),.p (ey prog (cT f65 13) (GM C A a b c d e f) (CK prog (cT f65 13) C A a b c d e f g i j)),.b (decide ((A.length:Int)<8+j)) false]):
 aV (ap f65 0) (CJ C A a b c d e f) (.exit 1) (Oa C A a b c d g i):=
 h.aQ [3,2,0] [3,2,1000000000]
theorem aBh(h:ad (Eo A f g C i j b c l d e a k o [.b (a==2) false,.b (a==3) false,.b (a==4) true,.l [] [3,0,2] [3,2,1000000000] (ap f65 0) (CJ A C i j 0 0 d e) (.exit 1) (Oa A E m n b8 c9 p a0)])):
 cb 65 [aM.cur [D.J 1 A,I k,I o] [D.J 1 A,I p,I a0]] (a1.vals [.agg (bz E m n)]):=
 h.cc
theorem aBi(h:ad (Eo A g i C j k c d b e f a l m [.b (a==2) false,.b (a==3) false,.b (a==4) false,.b (a==5) true,.a .own,.p ((0:Int)<=none.getD 0),.p (none.getD 0<=(some b).getD (C.length:Int)),.p ((some b).getD (C.length:Int)<=(C.length:Int))])):
 cb 65 [aM.cur [D.J 1 A,I l,I m] [D.J 1 A,I e,I f]] (a1.vals [.agg [D.J 4 (List.take (((some b).getD (C.length:Int)).toNat-0) (List.drop 0 C)),I j,I k]]):=
 h.cc
theorem aBj(h:ad (Eo A f g C i j b c l d e a k m [.b (a==2) false,.b (a==3) false,.b (a==4) false,.b (a==5) false])):
 cb 65 [aM.cur [D.J 1 A,I k,I m] [D.J 1 A,I d,I e]] (a1.vals [.agg (bz C i j)]):=
 h.cc
def CL(A:af)(a b:Int)(C:af)(c d:Int):aD:=a' 29 [(0,aS 1000000000),(3,aI.aF (bp.one (aB 6 5 C))),(4,aT b),(5,aT a)] [(1000000000,[.dC 1000000100 1 A,av c,av d])]
theorem aBk(h:ad [.w A p f g,.k A 61 a0 b8 p f 6 g,.b (decide (e<g)) true,.w A i j d,.k A 61 p f i j 2 d,.v (o+d),.r 96 [ae (o+d),ae 0,ae 2] [ae a],.w A k l b,.w A m n c,.k A 61 i j k l 12 b,.k A 61 k l m n 40 c,.g C [(bi 0 a 0 b c)] 40,.h [(bi 0 a 0 b c)],.u e]):
 aV (ap f100 0) (CL A e o C a0 b8) .normal (CL A (e+1) a (C++[(bi 0 a 0 b c)]) m n):=
 h.aQ [5,0,4,3] [1000000000]
def Ob(A C:af)(a b:Int):aD:=a' 29 [(0,aS 1000000000),(3,aI.aF (bp.one (aB 6 5 C)))] [(1000000000,[.dC 1000000100 1 A,av a,av b])]
theorem aBl(h:ad [.w A c a b,.k A 61 e f c a 6 b,.b (decide (d<b)) false]):
 aV (ap f100 0) (CL A d g C e f) (.exit 0) (Ob A C c a):=
 h.aQ [3,0] [1000000000]
theorem aAM(h:ad [.l [] [5,0,4,3] [1000000000] (ap f100 0) (CL A 0 0 [] a b) (.exit 0) (Ob A C c d)]):
 cb 100 [aM.cur [D.J 1 A,I a,I b] [D.J 1 A,I c,I d]] (a1.vals [aP 5 C]):=
 h.cc
def Oc(A:af)(a c d b:Int):aD:=a' 27 [(0,aS 1000000000),(2,aS 2),(3,aS 3),(4,aS 1000000000),(5,.aF (.one (.J (.own 5) 1 [[I 1],[I 1],[I 1],[I 2],[I 3],[I 3],[I 3],[I 4],[I 4],[I 5],[I 6],[I 6],[I 7]]))),(6,aT a),(7,aS 1000000000),(8,aT b),(9,aI.aF (bp.agg [av a,av b,av 0])),(10,aS 3),(11,aT a),(12,.aF (.one (.bg (a==4)))),(13,.aF (.one (.v (Value.bool true)))),(14,.aF (.one (.v (Value.tuple #[])))),(15,.aF (.one (.v (Value.tuple #[])))),(16,.aF (.one (.v (Value.tuple #[])))),(17,.aF (.one (.v (Value.bool true))))] [(3,[av a,av b,av 0]),(2,[av 0,av 0,av 0]),(1000000000,[.dC 1000000100 1 A,av c,av d])]
def Od(P:Program)(W:Array Oper)(A:af)(e f g a b c d:Int):aD:=
 ny P W [[],[],[],[],[.dL [some [D.J 1 A,I b,I c],none] (a1.vals [ae d])],[],[],[],[]] (Oc A e f g a)
theorem aAN{A:af}{g c d a e f b:Int}
  (h:cO [aL .i64 (a+1),b4 prog 61 [aM.cur [D.J 1 A,I c,I d] [D.J 1 A,I e,I f],aM.ro (ae 2)] (a1.vals [ae b]),aL .i64 (a+1+b),(3:Int)≠0]):
  ey prog (cT f149 3) (Oc A g c d a) (Od prog (cT f149 3) A g c d a e f b):=
 .nV [0,0,1,0,1,1,1,0,0] h
def QA(A:af)(a b c d e f g i:Int)(l:List O):List O:=.w A a b c::.w A d e f::.p (b4 prog 64 [aM.cur [D.J 1 A,I g,I i] [D.J 1 A,I a,I b],aM.ro (.one (.J 1 [[I 1],[I 1],[I 1],[I 2],[I 3],[I 3],[I 3],[I 4],[I 4],[I 5],[I 6],[I 6],[I 7]]))] (a1.vals [ae c]))::.k A 61 a b d e 3 f::l
theorem aAO(h:ad (QA A i j b c d a k l [.b (b==4) true,.a (.iL (Od prog (cT f149 3) A b c d a e f g)),.p (ey prog (cT f149 3) (Oc A b c d a) (Od prog (cT f149 3) A b c d a e f g))])):
 cb 149 [aM.cur [D.J 1 A,I k,I l] [D.J 1 A,I e,I f]] (a1.vals [.agg [I b,I a,I ((a+1+g).tmod 3)]]):=
 h.cc
def Oe(A:af)(a c d b:Int):aD:=a' 27 [(0,aS 1000000000),(2,aS 2),(3,aS 3),(4,aS 1000000000),(5,.aF (.one (.J (.own 5) 1 [[I 1],[I 1],[I 1],[I 2],[I 3],[I 3],[I 3],[I 4],[I 4],[I 5],[I 6],[I 6],[I 7]]))),(6,aT a),(7,aS 1000000000),(8,aT b),(9,aI.aF (bp.agg [av a,av b,av 0])),(10,aS 3),(11,aT a),(12,.aF (.one (.bg (a==4)))),(13,.aF (.one (.v (Value.bool false)))),(14,aS 3),(15,aT a),(16,.aF (.one (.bg (a==5)))),(17,.aF (.one (.bg (a==5))))] [(3,[av a,av b,av 0]),(2,[av 0,av 0,av 0]),(1000000000,[.dC 1000000100 1 A,av c,av d])]
def Of(P:Program)(W:Array Oper)(A:af)(e f g a b c d:Int):aD:=
 ny P W [[],[],[],[],[.dL [some [D.J 1 A,I b,I c],none] (a1.vals [ae d])],[],[],[],[]] (Oe A e f g a)
theorem aAP{A:af}{g c d a e f b:Int}
  (h:cO [aL .i64 (a+1),b4 prog 61 [aM.cur [D.J 1 A,I c,I d] [D.J 1 A,I e,I f],aM.ro (ae 2)] (a1.vals [ae b]),aL .i64 (a+1+b),(3:Int)≠0]):
  ey prog (cT f149 3) (Oe A g c d a) (Of prog (cT f149 3) A g c d a e f b):=
 .nV [0,0,1,0,1,1,1,0,0] h
theorem aAQ(h:ad (QA A i j a c d b k l [.b (a==4) false,.b (a==5) true,.a (.iL (Of prog (cT f149 3) A a c d b e f g)),.p (ey prog (cT f149 3) (Oe A a c d b) (Of prog (cT f149 3) A a c d b e f g))])):
 cb 149 [aM.cur [D.J 1 A,I k,I l] [D.J 1 A,I e,I f]] (a1.vals [.agg [I a,I b,I ((b+1+g).tmod 3)]]):=
 h.cc
theorem aAR(h:ad (QA A c d a e f b g i [.b (a==4) false,.b (a==5) false])):
 cb 149 [aM.cur [D.J 1 A,I g,I i] [D.J 1 A,I e,I f]] (a1.vals [.agg [I a,I b,I 0]]):=
 h.cc
def CM(A:af)(a b:Int)(C:af)(c d:Int):aD:=a' 22 [(0,aS 1000000000),(1,aT a),(5,aI.aF (bp.one (aB 7 3 C))),(6,aT b)] [(1000000000,[.dC 1000000100 1 A,av c,av d])]
theorem aAS(h:ad [.w A k f g,.u d,.k A 61 l m k f (d+1) g,.b (decide (e<g)) true,.a (.dL [some [D.J 1 A,I i,I j]] (a1.vals [.agg [I a,I b,I c]])),.p (b4 prog 149 [aM.cur [D.J 1 A,I k,I f] [D.J 1 A,I i,I j]] (a1.vals [.agg [I a,I b,I c]])),.g C [[I a,I b,I c]] 24,.h [[I a,I b,I c]],.u e]):
 aV (ap f102 0) (CM A d e C l m) .normal (CM A d (e+1) (C++[[I a,I b,I c]]) i j):=
 h.aQ [6,0,1,5] [1000000000]
def Og(A C:af)(a b:Int):aD:=a' 22 [(0,aS 1000000000),(5,aI.aF (bp.one (aB 7 3 C)))] [(1000000000,[.dC 1000000100 1 A,av a,av b])]
theorem aAT(h:ad [.w A d a b,.u c,.k A 61 f g d a (c+1) b,.b (decide (e<b)) false]):
 aV (ap f102 0) (CM A c e C f g) (.exit 0) (Og A C d a):=
 h.aQ [5,0] [1000000000]
theorem aAU(h:ad [.l [] [6,0,1,5] [1000000000] (ap f102 0) (CM A c 0 [] a b) (.exit 0) (Og A C d e)]):
 cb 102 [aM.cur [D.J 1 A,I a,I b] [D.J 1 A,I d,I e],aM.ro (ae c)] (a1.vals [aP 3 C]):=
 h.cc
