import Derived.Test.YtdchjefneblpgaaGreatGE
set_option linter.unusedVariables false
set_option linter.unusedSimpArgs false
namespace Go.Proofs.YtdchjefneblpgaaGreat
open Go.Sx Go.RowKit Go.Proofs.Tryz
variable {a b c d e f g i j k l m n o p a0 b6 c5 d0 bE f0 i0 : Int} {A C E F : ag} {q : Bool}
def Aw(A:ag)(a b:Int):aC:=bb 32 [(0,.aG (.one (.dA 1000000100 1 A))),(3,aU b),(4,aU a)] []
theorem agp(h:ad [.f A a true,.b (decide (a<4000)) true,.v (b*131),.x A a [D.v (Value.int IntKind.u8 c)],.a (.pq (aU d)),.v c,.v (b*131+c),.v (b*131+c+7),.p (m' prog BinOp.and 3 (Operand.tmp 26) (Operand.const (Value.int IntKind.i64 1073741823)) (Value.int IntKind.i64 (b*131+c+7)) (Value.int IntKind.i64 1073741823) (Value.int IntKind.i64 d)),.u a]):
 aV (ap f117 0) (Aw A a b) .normal (Aw A (a+1) d):=
 h.aS [4,0,3] []
def Hq(A:ag)(a:Int):aC:=bb 32 [(0,.aG (.one (.dA 1000000100 1 A))),(3,aU a)] []
theorem agq(h:ad [.f A a true,.b (decide (a<4000)) false]):
 aV (ap f117 0) (Aw A a b) (.exit 0) (Hq A b):=
 h.aS [0,3] []
theorem agr(h:ad [.f A a false]):
 aV (ap f117 0) (Aw A a b) (.exit 0) (Hq A b):=
 h.aS [0,3] []
theorem ags(h:ad [.v (94701+(A.length:Int)),.l [] [4,0,3] [] (ap f117 0) (Aw A 0 (94701+(A.length:Int))) (.exit 0) (Hq A a)]):
 ca 117 [aM.ro (aO 1 A)] (aY.iM [some 0,none,none] [D.J 1 A,I 0,I a]):=
 h.cb
def ZM(a b c d e:Int)(l:List O):List O:=.a .wr::.a .wr::.a (.pq (aU a))::.a (.pq (aU b))::.a (.pq (aU c))::.a (.pq (aU d))::.p (m' prog BinOp.shr 3 (Operand.tmp 16) (Operand.const (Value.int IntKind.u64 33)) (Value.int IntKind.i64 (IntKind.i64.wrap (IntKind.i64.wrap (e*6364136223846793005)+1442695040888963407))) (Value.int IntKind.u64 33) (Value.int IntKind.i64 a))::.p (m' prog BinOp.shr 3 (Operand.tmp 21) (Operand.const (Value.int IntKind.u64 45)) (Value.int IntKind.i64 (IntKind.i64.wrap (IntKind.i64.wrap (e*6364136223846793005)+1442695040888963407))) (Value.int IntKind.u64 45) (Value.int IntKind.i64 b))::.p (m' prog BinOp.xor 3 (Operand.tmp 17) (Operand.tmp 22) (Value.int IntKind.i64 a) (Value.int IntKind.i64 b) (Value.int IntKind.i64 c))::.p (m' prog BinOp.and 3 (Operand.tmp 23) (Operand.const (Value.int IntKind.i64 255)) (Value.int IntKind.i64 c) (Value.int IntKind.i64 255) (Value.int IntKind.i64 d))::l
theorem agt(h:ad (ZM c d e f b [.i A a [D.v (Value.int IntKind.u8 i)],.a .wr,.a .wr,.a (.pq (aU g)),.p (m' prog BinOp.and 3 (Operand.tmp 47) (Operand.const (Value.int IntKind.i64 255)) (Value.int IntKind.i64 (IntKind.i64.wrap (f+IntKind.i64.wrap i))) (Value.int IntKind.i64 255) (Value.int IntKind.i64 g)),.u a])):
 ca 253 [aM.cur [D.J 1 A,I a,I b] [D.J 1 A,I (a+1),I (IntKind.i64.wrap (IntKind.i64.wrap (b*6364136223846793005)+1442695040888963407))]] (aY.vals [ae g]):=
 h.cb
theorem ahU(h:ad (ZM c d e f a [.f A b false])):
 ca 253 [aM.cur [D.J 1 A,I b,I a] [D.J 1 A,I b,I (IntKind.i64.wrap (IntKind.i64.wrap (a*6364136223846793005)+1442695040888963407))]] (aY.vals [ae f]):=
 h.cb
theorem ahV(h:ad [.b (decide (a<=0)) false,.b (decide (a<=256)) true,.a (.dN [some [D.J 1 A,I b,I c]] (aY.vals [ae d])),.p (b2 prog 253 [aM.cur [D.J 1 A,I e,I f] [D.J 1 A,I b,I c]] (aY.vals [ae d])),.p (a≠0)]):
 ca 138 [aM.cur [D.J 1 A,I e,I f] [D.J 1 A,I b,I c],aM.ro (ae a)] (aY.vals [ae (d.tmod a)]):=
 h.cb
theorem ahW(h:ad [.b (decide (d<=0)) false,.b (decide (d<=256)) false,.a (.dN [some [D.J 1 A,I l,I m]] (aY.vals [ae b])),.a (.dN [some [D.J 1 A,I n,I f]] (aY.vals [ae a])),.a (.dN [some [D.J 1 A,I g,I i]] (aY.vals [ae c])),.a (.dN [some [D.J 1 A,I j,I k]] (aY.vals [ae e])),.p (b2 prog 253 [aM.cur [D.J 1 A,I o,I p] [D.J 1 A,I l,I m]] (aY.vals [ae b])),.p (b2 prog 253 [aM.cur [D.J 1 A,I l,I m] [D.J 1 A,I n,I f]] (aY.vals [ae a])),.p (b2 prog 253 [aM.cur [D.J 1 A,I n,I f] [D.J 1 A,I g,I i]] (aY.vals [ae c])),.p (b2 prog 253 [aM.cur [D.J 1 A,I g,I i] [D.J 1 A,I j,I k]] (aY.vals [ae e])),.v (b*16777216),.v (a*65536),.v (b*16777216+a*65536),.v (c*256),.v (b*16777216+a*65536+c*256),.v (b*16777216+a*65536+c*256+e),.p (d≠0)]):
 ca 138 [aM.cur [D.J 1 A,I o,I p] [D.J 1 A,I j,I k],aM.ro (ae d)] (aY.vals [ae ((b*16777216+a*65536+c*256+e).tmod d)]):=
 h.cb
theorem ahX(h:ad [.w A a b c,.k A 138 d e a b f c]):
 ca 136 [aM.cur [D.J 1 A,I d,I e] [D.J 1 A,I a,I b],aM.ro (ae f)] (aY.vals [aj (c==0)]):=
 h.cb
theorem ahY(h:ad [.w A a b c,.k A 138 d e a b (C.length:Int) c,.x C c [I f]]):
 ca 140 [aM.cur [D.J 1 A,I d,I e] [D.J 1 A,I a,I b],aM.ro (aO 1 C)] (aY.vals [ae f]):=
 h.cb
theorem ahZ(h:ad [.w A b c d,.w A e f a,.k A 138 g i b c 4 d,.k A 138 b c e f 5 a]):
 ca 325 [aM.cur [D.J 1 A,I g,I i] [D.J 1 A,I e,I f]] (aY.vals [.agg [I d,I a]]):=
 h.cb
def PE(A:ag)(a b c d e f g i j:Int)(l:List O):List O:=.a (.dN [some [D.J 1 A,I a,I b]] (aY.vals [.agg [I c,I d]]))::.w A e f g::.p (b2 prog 325 [aM.cur [D.J 1 A,I i,I j] [D.J 1 A,I a,I b]] (aY.vals [.agg [I c,I d]]))::.k A 138 a b e f 10 g::l
theorem ah0(h:ad (PE A f g m i j a b k l [.b (b==0) true,.w A c d e,.p (b2 prog 140 [aM.cur [D.J 1 A,I j,I a] [D.J 1 A,I c,I d],aM.ro (.one (.J 1 [[I (-1)],[I 3],[I 4],[I 9223372036854775807]]))] (aY.vals [ae e]))])):
 ca 272 [aM.cur [D.J 1 A,I k,I l] [D.J 1 A,I c,I d]] (aY.vals [.agg [I e,I i]]):=
 h.cb
theorem ah1(h:ad (PE A f g i m j b a k l [.b (a==0) false,.b (a==1) true,.w A c d e,.p (b2 prog 140 [aM.cur [D.J 1 A,I j,I b] [D.J 1 A,I c,I d],aM.ro (.one (.J 1 [[I (-1)],[I 5],[I 6],[I 7],[I (-9223372036854775808)]]))] (aY.vals [ae e]))])):
 ca 272 [aM.cur [D.J 1 A,I k,I l] [D.J 1 A,I c,I d]] (aY.vals [.agg [I i,I e]]):=
 h.cb
theorem ah2(h:ad (PE A c d e f g b a i j [.b (a==0) false,.b (a==1) false])):
 ca 272 [aM.cur [D.J 1 A,I i,I j] [D.J 1 A,I g,I b]] (aY.vals [.agg [I e,I f]]):=
 h.cb
theorem ah3(h:ad [.w A j k l,.a (.dN [some [D.J 1 A,I m,I n]] (aY.vals [.agg [I a,I b]])),.w A c d e,.w A f g i,.k A 138 o p j k 5 l,.p (b2 prog 325 [aM.cur [D.J 1 A,I j,I k] [D.J 1 A,I m,I n]] (aY.vals [.agg [I a,I b]])),.k A 138 m n c d 12 e,.k A 138 c d f g 40 i]):
 ca 271 [aM.cur [D.J 1 A,I o,I p] [D.J 1 A,I f,I g]] (aY.vals [.agg (bh l a b e i)]):=
 h.cb
def D2(A:ag)(a b c d e f g i j k m n:Int)(l:List O):List O:=.a (.dN [some [D.J 1 A,I a,I b]] (aY.vals [.agg (bh c d e f g)]))::.w A i j k::.p (b2 prog 271 [aM.cur [D.J 1 A,I m,I n] [D.J 1 A,I a,I b]] (aY.vals [.agg (bh c d e f g)]))::.k A 138 a b i j 12 k::l
theorem ah4(h:ad (D2 A i j p k l m a b c d n o [.b (d==0) true,.w A e f g,.p (b2 prog 140 [aM.cur [D.J 1 A,I b,I c] [D.J 1 A,I e,I f],aM.ro (.one (.J 1 [[I (-1)],[I 7],[I 8]]))] (aY.vals [ae g]))])):
 ca 178 [aM.cur [D.J 1 A,I n,I o] [D.J 1 A,I e,I f]] (aY.vals [.agg (bh g k l m a)]):=
 h.cb
theorem ah5(h:ad (D2 A j k l p a0 m b c d a n o [.b (a==0) false,.b (a==1) true,.a (.dN [some [D.J 1 A,I e,I f]] (aY.vals [.agg [I g,I i]])),.p (b2 prog 272 [aM.cur [D.J 1 A,I c,I d] [D.J 1 A,I e,I f]] (aY.vals [.agg [I g,I i]]))])):
 ca 178 [aM.cur [D.J 1 A,I n,I o] [D.J 1 A,I e,I f]] (aY.vals [.agg (bh l g i m b)]):=
 h.cb
theorem ah6(h:ad (D2 A i j k l m p b c d a n o [.b (a==0) false,.b (a==1) false,.b (a==2) true,.w A e f g,.p (b2 prog 140 [aM.cur [D.J 1 A,I c,I d] [D.J 1 A,I e,I f],aM.ro (.one (.J 1 [[I (-1)],[I 99],[I 100],[I (-9223372036854775808)]]))] (aY.vals [ae g]))])):
 ca 178 [aM.cur [D.J 1 A,I n,I o] [D.J 1 A,I e,I f]] (aY.vals [.agg (bh k l m g b)]):=
 h.cb
theorem ah7(h:ad (D2 A g i j k l m o b c a n p [.b (a==0) false,.b (a==1) false,.b (a==2) false,.b (a==3) true,.w A d e f,.p (b2 prog 140 [aM.cur [D.J 1 A,I b,I c] [D.J 1 A,I d,I e],aM.ro (.one (.J 1 [[I (-1)],[I 999],[I 1000],[I 9223372036854775807]]))] (aY.vals [ae f]))])):
 ca 178 [aM.cur [D.J 1 A,I n,I p] [D.J 1 A,I d,I e]] (aY.vals [.agg (bh j k l m f)]):=
 h.cb
theorem ah8(h:ad (D2 A e f g i j k b c d a l m [.b (a==0) false,.b (a==1) false,.b (a==2) false,.b (a==3) false])):
 ca 178 [aM.cur [D.J 1 A,I l,I m] [D.J 1 A,I c,I d]] (aY.vals [.agg (bh g i j k b)]):=
 h.cb
def ZN(A:ag)(a b c d e f g i:Int)(q:Bool)(j k:Int)(l:List O):List O:=.w A a b c::.w A d e f::.y A g i q::.k A 138 j k a b 3 c::.v (1+c)::.k A 138 a b d e 3 f::.v (1+f)::.m A 136 d e g i 3 q::l
def D0(A:ag)(a b c d e f g i:Int)(q:Bool)(j k m n o p eC fb c1 d1 e1 f1 g1 i1:Int)(l:List O):List O:=ZN A a b c d e f g i q j k (.b q true::.w A m n o::.w A p eC fb::.w A c1 d1 e1::.w A f1 g1 i1::.k A 138 g i m n 3 o::.v (1+o)::.k A 138 m n p eC 4 fb::.k A 138 p eC c1 d1 3 e1::.v (1+e1)::.k A 138 c1 d1 f1 g1 6 i1::l)
theorem ah9{A:ag}{f0 i0 b6 c5 e d0 bE c f g:Int}{q:Bool}{i j a k l b m n d o p a0:Int}{d31 d32 d33 d34:D}(h:ad (D0 A b6 c5 e d0 bE c f g q f0 i0 i j a k l b m n d o p a0 [.b (a0==0) true,.p ((0:Int)<=3),.p (3<(↑[[I 1,I 0,I 0,D.J 1 [[I 1]]],[I 6,I 0,I 0,D.J 1 [[I 2],[I 5]]],[I 4,I (1+a),I 0,D.J 1 [[I 3]]],[I 2,I b,I 0,D.J 1 [[I 4]]],[I 7,I 0,I 0,D.J 1 [[I 1]]],[I 8,I 0,I 0,D.v (aN)]].length:Int)),.e [[I 1,I 0,I 0,D.J 1 [[I 1]]],[I 6,I 0,I 0,D.J 1 [[I 2],[I 5]]],[I 4,I (1+a),I 0,D.J 1 [[I 3]]],[I 2,I b,I 0,D.J 1 [[I 4]]],[I 7,I 0,I 0,D.J 1 [[I 1]]],[I 8,I 0,I 0,D.v (aN)]] 3 [d31,d32,d33,d34]])):
 ca 118 [aM.cur [D.J 1 A,I f0,I i0] [D.J 1 A,I o,I p]] (aY.vals [.agg (br ([[I 1,I 0,I 0,D.J 1 [[I 1]]],[I 6,I 0,I 0,D.J 1 [[I 2],[I 5]]],[I 4,I (1+a),I 0,D.J 1 [[I 3]]],[I 2,I b,I 0,D.J 1 [[I 4]]],[I 7,I 0,I 0,D.J 1 [[I 1]]],[I 8,I 0,I 0,D.v (aN)]].set 3 [I 3,I (1+d),I 0,D.J 1 [[I 4]]]) (1+e) (1+c))]):=
 h.cb
theorem aia{A:ag}{f0 i0 b6 c5 e d0 bE c f g:Int}{q:Bool}{i j a k l b m n o p a0 d:Int}{d31 d32 d33 d34:D}(h:ad (D0 A b6 c5 e d0 bE c f g q f0 i0 i j a k l b m n o p a0 d [.b (d==0) false,.b (d==1) true,.p ((0:Int)<=4),.p (4<(↑[[I 1,I 0,I 0,D.J 1 [[I 1]]],[I 6,I 0,I 0,D.J 1 [[I 2],[I 5]]],[I 4,I (1+a),I 0,D.J 1 [[I 3]]],[I 2,I b,I 0,D.J 1 [[I 4]]],[I 7,I 0,I 0,D.J 1 [[I 1]]],[I 8,I 0,I 0,D.v (aN)]].length:Int)),.e [[I 1,I 0,I 0,D.J 1 [[I 1]]],[I 6,I 0,I 0,D.J 1 [[I 2],[I 5]]],[I 4,I (1+a),I 0,D.J 1 [[I 3]]],[I 2,I b,I 0,D.J 1 [[I 4]]],[I 7,I 0,I 0,D.J 1 [[I 1]]],[I 8,I 0,I 0,D.v (aN)]] 4 [d31,d32,d33,d34]])):
 ca 118 [aM.cur [D.J 1 A,I f0,I i0] [D.J 1 A,I p,I a0]] (aY.vals [.agg (br ([[I 1,I 0,I 0,D.J 1 [[I 1]]],[I 6,I 0,I 0,D.J 1 [[I 2],[I 5]]],[I 4,I (1+a),I 0,D.J 1 [[I 3]]],[I 2,I b,I 0,D.J 1 [[I 4]]],[I 7,I 0,I 0,D.J 1 [[I 1]]],[I 8,I 0,I 0,D.v (aN)]].set 4 [I 8,I 0,I 0,D.v (aN)]) (1+e) (1+c))]):=
 h.cb
theorem aib{A:ag}{f0 i0 b6 c5 e d0 bE d f g:Int}{q:Bool}{i j a k l b m n o p a0 c:Int}{d31 d32 d33 d34:D}(h:ad (D0 A b6 c5 e d0 bE d f g q f0 i0 i j a k l b m n o p a0 c [.b (c==0) false,.b (c==1) false,.b (c==2) true,.p ((0:Int)<=2),.p (2<(↑[[I 1,I 0,I 0,D.J 1 [[I 1]]],[I 6,I 0,I 0,D.J 1 [[I 2],[I 5]]],[I 4,I (1+a),I 0,D.J 1 [[I 3]]],[I 2,I b,I 0,D.J 1 [[I 4]]],[I 7,I 0,I 0,D.J 1 [[I 1]]],[I 8,I 0,I 0,D.v (aN)]].length:Int)),.e [[I 1,I 0,I 0,D.J 1 [[I 1]]],[I 6,I 0,I 0,D.J 1 [[I 2],[I 5]]],[I 4,I (1+a),I 0,D.J 1 [[I 3]]],[I 2,I b,I 0,D.J 1 [[I 4]]],[I 7,I 0,I 0,D.J 1 [[I 1]]],[I 8,I 0,I 0,D.v (aN)]] 2 [d31,d32,d33,d34]])):
 ca 118 [aM.cur [D.J 1 A,I f0,I i0] [D.J 1 A,I p,I a0]] (aY.vals [.agg (br ([[I 1,I 0,I 0,D.J 1 [[I 1]]],[I 6,I 0,I 0,D.J 1 [[I 2],[I 5]]],[I 4,I (1+a),I 0,D.J 1 [[I 3]]],[I 2,I b,I 0,D.J 1 [[I 4]]],[I 7,I 0,I 0,D.J 1 [[I 1]]],[I 8,I 0,I 0,D.v (aN)]].set 2 [d31,d32,d33,D.J 1 [[I 3],[I 4]]]) (1+e) (1+d))]):=
 h.cb
theorem aic{A:ag}{f0 i0 b6 c5 e d0 bE d f g:Int}{q:Bool}{i j a k l b m n o p a0 c:Int}{d31 d32 d33 d34:D}(h:ad (D0 A b6 c5 e d0 bE d f g q f0 i0 i j a k l b m n o p a0 c [.b (c==0) false,.b (c==1) false,.b (c==2) false,.b (c==3) true,.a .wr,.p (([[I 1,I 0,I 0,D.J 1 [[I 1]]],[I 6,I 0,I 0,D.J 1 [[I 2],[I 5]]],[I 4,I (1+a),I 0,D.J 1 [[I 3]]],[I 2,I b,I 0,D.J 1 [[I 4]]],[I 7,I 0,I 0,D.J 1 [[I 1]]],[I 8,I 0,I 0,D.v (aN)]].length+[[I 8,I 0,I 0,D.v (aN)]].length)*48<=140737488355328),.p ([[I 1,I 0,I 0,D.J 1 [[I 1]]],[I 6,I 0,I 0,D.J 1 [[I 2],[I 5]]],[I 4,I (1+a),I 0,D.J 1 [[I 3]]],[I 2,I b,I 0,D.J 1 [[I 4]]],[I 7,I 0,I 0,D.J 1 [[I 1]]],[I 8,I 0,I 0,D.v (aN)]].length+[[I 8,I 0,I 0,D.v (aN)]].length<=9223372036854775807),.p ((0:Int)<=0),.p (0<(↑([[I 1,I 0,I 0,D.J 1 [[I 1]]],[I 6,I 0,I 0,D.J 1 [[I 2],[I 5]]],[I 4,I (1+a),I 0,D.J 1 [[I 3]]],[I 2,I b,I 0,D.J 1 [[I 4]]],[I 7,I 0,I 0,D.J 1 [[I 1]]],[I 8,I 0,I 0,D.v (aN)]]++[[I 8,I 0,I 0,D.v (aN)]]).length:Int)),.e ([[I 1,I 0,I 0,D.J 1 [[I 1]]],[I 6,I 0,I 0,D.J 1 [[I 2],[I 5]]],[I 4,I (1+a),I 0,D.J 1 [[I 3]]],[I 2,I b,I 0,D.J 1 [[I 4]]],[I 7,I 0,I 0,D.J 1 [[I 1]]],[I 8,I 0,I 0,D.v (aN)]]++[[I 8,I 0,I 0,D.v (aN)]]) 0 [d31,d32,d33,d34]])):
 ca 118 [aM.cur [D.J 1 A,I f0,I i0] [D.J 1 A,I p,I a0]] (aY.vals [.agg (br (([[I 1,I 0,I 0,D.J 1 [[I 1]]],[I 6,I 0,I 0,D.J 1 [[I 2],[I 5]]],[I 4,I (1+a),I 0,D.J 1 [[I 3]]],[I 2,I b,I 0,D.J 1 [[I 4]]],[I 7,I 0,I 0,D.J 1 [[I 1]]],[I 8,I 0,I 0,D.v (aN)]]++[[I 8,I 0,I 0,D.v (aN)]]).set 0 [d31,d32,d33,D.J 1 [[I 1],[I 6]]]) (1+e) (1+d))]):=
 h.cb
theorem aid(h:ad (D0 A b6 c5 d d0 bE b e f q f0 i0 g i c j k l m n o p a0 a [.b (a==0) false,.b (a==1) false,.b (a==2) false,.b (a==3) false])):
 ca 118 [aM.cur [D.J 1 A,I f0,I i0] [D.J 1 A,I p,I a0]] (aY.vals [.agg [D.J 4 [[I 1,I 0,I 0,D.J 1 [[I 1]]],[I 6,I 0,I 0,D.J 1 [[I 2],[I 5]]],[I 4,I (1+c),I 0,D.J 1 [[I 3]]],[I 2,I l,I 0,D.J 1 [[I 4]]],[I 7,I 0,I 0,D.J 1 [[I 1]]],[I 8,I 0,I 0,D.v (aN)]],I (1+d),I (1+b)]]):=
 h.cb
def D1(A:ag)(a b c d e f g i:Int)(q:Bool)(j k m n o p eC fb c1 d1 e1 f1 g1 i1:Int)(l:List O):List O:=ZN A a b c d e f g i q j k (.b q false::.w A m n o::.w A p eC fb::.w A c1 d1 e1::.w A f1 g1 i1::.k A 138 g i m n 3 o::.v (1+o)::.k A 138 m n p eC 4 fb::.k A 138 p eC c1 d1 3 e1::.v (1+e1)::.k A 138 c1 d1 f1 g1 6 i1::l)
theorem aie{A:ag}{f0 i0 b6 c5 e d0 bE c f g:Int}{q:Bool}{i j a k l b m n d o p a0:Int}{d31 d32 d33 d34:D}(h:ad (D1 A b6 c5 e d0 bE c f g q f0 i0 i j a k l b m n d o p a0 [.b (a0==0) true,.p ((0:Int)<=3),.p (3<(↑[[I 1,I 0,I 0,D.J 1 [[I 1]]],[I 5,I 0,I 0,D.J 1 [[I 2],[I 5]]],[I 4,I (1+a),I 0,D.J 1 [[I 3]]],[I 2,I b,I 0,D.J 1 [[I 4]]],[I 7,I 0,I 0,D.J 1 [[I 1]]],[I 8,I 0,I 0,D.v (aN)]].length:Int)),.e [[I 1,I 0,I 0,D.J 1 [[I 1]]],[I 5,I 0,I 0,D.J 1 [[I 2],[I 5]]],[I 4,I (1+a),I 0,D.J 1 [[I 3]]],[I 2,I b,I 0,D.J 1 [[I 4]]],[I 7,I 0,I 0,D.J 1 [[I 1]]],[I 8,I 0,I 0,D.v (aN)]] 3 [d31,d32,d33,d34]])):
 ca 118 [aM.cur [D.J 1 A,I f0,I i0] [D.J 1 A,I o,I p]] (aY.vals [.agg (br ([[I 1,I 0,I 0,D.J 1 [[I 1]]],[I 5,I 0,I 0,D.J 1 [[I 2],[I 5]]],[I 4,I (1+a),I 0,D.J 1 [[I 3]]],[I 2,I b,I 0,D.J 1 [[I 4]]],[I 7,I 0,I 0,D.J 1 [[I 1]]],[I 8,I 0,I 0,D.v (aN)]].set 3 [I 3,I (1+d),I 0,D.J 1 [[I 4]]]) (1+e) (1+c))]):=
 h.cb
theorem aif{A:ag}{f0 i0 b6 c5 e d0 bE c f g:Int}{q:Bool}{i j a k l b m n o p a0 d:Int}{d31 d32 d33 d34:D}(h:ad (D1 A b6 c5 e d0 bE c f g q f0 i0 i j a k l b m n o p a0 d [.b (d==0) false,.b (d==1) true,.p ((0:Int)<=4),.p (4<(↑[[I 1,I 0,I 0,D.J 1 [[I 1]]],[I 5,I 0,I 0,D.J 1 [[I 2],[I 5]]],[I 4,I (1+a),I 0,D.J 1 [[I 3]]],[I 2,I b,I 0,D.J 1 [[I 4]]],[I 7,I 0,I 0,D.J 1 [[I 1]]],[I 8,I 0,I 0,D.v (aN)]].length:Int)),.e [[I 1,I 0,I 0,D.J 1 [[I 1]]],[I 5,I 0,I 0,D.J 1 [[I 2],[I 5]]],[I 4,I (1+a),I 0,D.J 1 [[I 3]]],[I 2,I b,I 0,D.J 1 [[I 4]]],[I 7,I 0,I 0,D.J 1 [[I 1]]],[I 8,I 0,I 0,D.v (aN)]] 4 [d31,d32,d33,d34]])):
 ca 118 [aM.cur [D.J 1 A,I f0,I i0] [D.J 1 A,I p,I a0]] (aY.vals [.agg (br ([[I 1,I 0,I 0,D.J 1 [[I 1]]],[I 5,I 0,I 0,D.J 1 [[I 2],[I 5]]],[I 4,I (1+a),I 0,D.J 1 [[I 3]]],[I 2,I b,I 0,D.J 1 [[I 4]]],[I 7,I 0,I 0,D.J 1 [[I 1]]],[I 8,I 0,I 0,D.v (aN)]].set 4 [I 8,I 0,I 0,D.v (aN)]) (1+e) (1+c))]):=
 h.cb
theorem aih{A:ag}{f0 i0 b6 c5 e d0 bE d f g:Int}{q:Bool}{i j a k l b m n o p a0 c:Int}{d31 d32 d33 d34:D}(h:ad (D1 A b6 c5 e d0 bE d f g q f0 i0 i j a k l b m n o p a0 c [.b (c==0) false,.b (c==1) false,.b (c==2) true,.p ((0:Int)<=2),.p (2<(↑[[I 1,I 0,I 0,D.J 1 [[I 1]]],[I 5,I 0,I 0,D.J 1 [[I 2],[I 5]]],[I 4,I (1+a),I 0,D.J 1 [[I 3]]],[I 2,I b,I 0,D.J 1 [[I 4]]],[I 7,I 0,I 0,D.J 1 [[I 1]]],[I 8,I 0,I 0,D.v (aN)]].length:Int)),.e [[I 1,I 0,I 0,D.J 1 [[I 1]]],[I 5,I 0,I 0,D.J 1 [[I 2],[I 5]]],[I 4,I (1+a),I 0,D.J 1 [[I 3]]],[I 2,I b,I 0,D.J 1 [[I 4]]],[I 7,I 0,I 0,D.J 1 [[I 1]]],[I 8,I 0,I 0,D.v (aN)]] 2 [d31,d32,d33,d34]])):
 ca 118 [aM.cur [D.J 1 A,I f0,I i0] [D.J 1 A,I p,I a0]] (aY.vals [.agg (br ([[I 1,I 0,I 0,D.J 1 [[I 1]]],[I 5,I 0,I 0,D.J 1 [[I 2],[I 5]]],[I 4,I (1+a),I 0,D.J 1 [[I 3]]],[I 2,I b,I 0,D.J 1 [[I 4]]],[I 7,I 0,I 0,D.J 1 [[I 1]]],[I 8,I 0,I 0,D.v (aN)]].set 2 [d31,d32,d33,D.J 1 [[I 3],[I 4]]]) (1+e) (1+d))]):=
 h.cb
theorem aii{A:ag}{f0 i0 b6 c5 e d0 bE d f g:Int}{q:Bool}{i j a k l b m n o p a0 c:Int}{d31 d32 d33 d34:D}(h:ad (D1 A b6 c5 e d0 bE d f g q f0 i0 i j a k l b m n o p a0 c [.b (c==0) false,.b (c==1) false,.b (c==2) false,.b (c==3) true,.a .wr,.p (([[I 1,I 0,I 0,D.J 1 [[I 1]]],[I 5,I 0,I 0,D.J 1 [[I 2],[I 5]]],[I 4,I (1+a),I 0,D.J 1 [[I 3]]],[I 2,I b,I 0,D.J 1 [[I 4]]],[I 7,I 0,I 0,D.J 1 [[I 1]]],[I 8,I 0,I 0,D.v (aN)]].length+[[I 8,I 0,I 0,D.v (aN)]].length)*48<=140737488355328),.p ([[I 1,I 0,I 0,D.J 1 [[I 1]]],[I 5,I 0,I 0,D.J 1 [[I 2],[I 5]]],[I 4,I (1+a),I 0,D.J 1 [[I 3]]],[I 2,I b,I 0,D.J 1 [[I 4]]],[I 7,I 0,I 0,D.J 1 [[I 1]]],[I 8,I 0,I 0,D.v (aN)]].length+[[I 8,I 0,I 0,D.v (aN)]].length<=9223372036854775807),.p ((0:Int)<=0),.p (0<(↑([[I 1,I 0,I 0,D.J 1 [[I 1]]],[I 5,I 0,I 0,D.J 1 [[I 2],[I 5]]],[I 4,I (1+a),I 0,D.J 1 [[I 3]]],[I 2,I b,I 0,D.J 1 [[I 4]]],[I 7,I 0,I 0,D.J 1 [[I 1]]],[I 8,I 0,I 0,D.v (aN)]]++[[I 8,I 0,I 0,D.v (aN)]]).length:Int)),.e ([[I 1,I 0,I 0,D.J 1 [[I 1]]],[I 5,I 0,I 0,D.J 1 [[I 2],[I 5]]],[I 4,I (1+a),I 0,D.J 1 [[I 3]]],[I 2,I b,I 0,D.J 1 [[I 4]]],[I 7,I 0,I 0,D.J 1 [[I 1]]],[I 8,I 0,I 0,D.v (aN)]]++[[I 8,I 0,I 0,D.v (aN)]]) 0 [d31,d32,d33,d34]])):
 ca 118 [aM.cur [D.J 1 A,I f0,I i0] [D.J 1 A,I p,I a0]] (aY.vals [.agg (br (([[I 1,I 0,I 0,D.J 1 [[I 1]]],[I 5,I 0,I 0,D.J 1 [[I 2],[I 5]]],[I 4,I (1+a),I 0,D.J 1 [[I 3]]],[I 2,I b,I 0,D.J 1 [[I 4]]],[I 7,I 0,I 0,D.J 1 [[I 1]]],[I 8,I 0,I 0,D.v (aN)]]++[[I 8,I 0,I 0,D.v (aN)]]).set 0 [d31,d32,d33,D.J 1 [[I 1],[I 6]]]) (1+e) (1+d))]):=
 h.cb
theorem aij(h:ad (D1 A b6 c5 d d0 bE b e f q f0 i0 g i c j k l m n o p a0 a [.b (a==0) false,.b (a==1) false,.b (a==2) false,.b (a==3) false])):
 ca 118 [aM.cur [D.J 1 A,I f0,I i0] [D.J 1 A,I p,I a0]] (aY.vals [.agg [D.J 4 [[I 1,I 0,I 0,D.J 1 [[I 1]]],[I 5,I 0,I 0,D.J 1 [[I 2],[I 5]]],[I 4,I (1+c),I 0,D.J 1 [[I 3]]],[I 2,I l,I 0,D.J 1 [[I 4]]],[I 7,I 0,I 0,D.J 1 [[I 1]]],[I 8,I 0,I 0,D.v (aN)]],I (1+d),I (1+b)]]):=
 h.cb
def Vy(C A:ag)(b c d e f a:Int):aC:=bb 75 [(0,aR 1000000000),(2,aR 2),(3,aR 3),(4,aU d),(5,aR 1000000000),(6,aI.aG (bl.agg [aB 70000 4 A,au b,au c])),(7,aR 1000000000),(8,aR 3),(9,aI.aG (bl.one (aB 70000 4 A))),(10,aU (A.length:Int)),(11,aU d),(12,aR 1000000000),(13,aU a),(14,.aG (.one (.bg (a==0)))),(15,.aG (.one (.bg (a==0))))] [(3,[aB 70000 4 A,au b,au c]),(2,[.v (aN),au 0,au 0]),(1000000000,[.dA 1000000100 1 C,au e,au f])]
def NW(E A:ag)(f g a e i j c d b:Int)(C:ag):aC:=bb 75 [(0,aR 1000000000),(2,aR 2),(3,aR 3),(4,aU a),(5,aR 1000000000),(6,aI.aG (bl.agg [aB 70000 4 (A.set a.toNat (bp c d b C)),au f,au g])),(7,aR 1000000000),(8,aR 3),(9,aI.aG (bl.one (aB 70000 4 (A.set a.toNat (bp c d b C))))),(10,aU (A.length:Int)),(11,aU a),(12,aR 1000000000),(13,aU e),(14,.aG (.one (.bg (e==0)))),(15,.aG (.one (.bg (e==0)))),(16,aR 3),(17,aI.aG (bl.one (aB 70000 4 (A.set a.toNat (bp c d b C))))),(18,aU a),(19,aR 1000000000),(20,aI.aG (bl.agg [au c,au d,au b,.cp])),(21,.aG (.one (.ep (Tag.own 70000) 4 (A.set a.toNat (bp c d b C)) a.toNat 0)))] [(3,[aB 70000 4 (A.set a.toNat (bp c d b C)),au f,au g]),(2,[.v (aN),au 0,au 0]),(1000000000,[.dA 1000000100 1 E,au i,au j])]
theorem aik{A C:ag}{n o a g i m b c d e f:Int}{E:ag}{j k l:Int}{F:ag}
  (h:cQ [b2 prog 252 [aM.cur [D.J 1 A,I g,I i] [D.J 1 A,I b,I c]] (aY.vals [.agg (bp d e f E)]),0<=a,a<(C.length:Int),C[a.toNat]?=some (bp j k l F)]):
  eK prog (c' f137 5) (Vy A C n o a g i m) (NW A C n o a m b c d e f E):=
 .of [[],[],[],[],[.dN [some [D.J 1 A,I b,I c]] (aY.vals [.agg (bp d e f E)])],[],[.el (bp j k l F)]] [[],[],[],[],[b2 prog 252 [aM.cur [D.J 1 A,I g,I i] [D.J 1 A,I b,I c]] (aY.vals [.agg (bp d e f E)])],[0<=a,a<(C.length:Int)],[C[a.toNat]?=some (bp j k l F)]] (by kernel_rfl) (by kernel_rfl) (by kernel_rfl) h
def PF(A:ag)(a b:Int)(C:ag)(c d e f g i j k m n:Int)(l:List O):List O:=.a (.dN [some [D.J 1 A,I a,I b]] (aY.vals [.agg (br C c d)]))::.w A e f g::.w A i j k::.p (b2 prog 118 [aM.cur [D.J 1 A,I m,I n] [D.J 1 A,I a,I b]] (aY.vals [.agg (br C c d)]))::.k A 138 a b e f (C.length:Int) g::.k A 138 e f i j 12 k::l
theorem ahu(h:ad (PF A o p C c d e f a g i b a0 b6 [.b (b==0) true,.a (.jl (NW A C c d a b j k l m n E)),.p (eK prog (c' f137 5) (Vy A C c d a g i b) (NW A C c d a b j k l m n E))])):
 ca 137 [aM.cur [D.J 1 A,I a0,I b6] [D.J 1 A,I j,I k]] (aY.vals [.agg (br (C.set a.toNat (bp l m n E)) c d)]):=
 h.cb
theorem ahv(h:ad (PF A j k C p l b c n d e a m o [.b (a==0) false,.b (a==1) true,.w A f g i,.p (b2 prog 140 [aM.cur [D.J 1 A,I d,I e] [D.J 1 A,I f,I g],aM.ro (.one (.J 1 [[I 0],[I 4],[I 5],[I (-1)]]))] (aY.vals [ae i]))])):
 ca 137 [aM.cur [D.J 1 A,I m,I o] [D.J 1 A,I f,I g]] (aY.vals [.agg (br C i l)]):=
 h.cb
def D3(A:ag)(a b:Int)(C:ag)(c d e f g i j k m n:Int)(l:List O):List O:=PF A a b C c d e f g i j k m n (.b (k==0) false::.b (k==1) false::l)
theorem ahw(h:ad (D3 A j k C l p b c n d e a m o [.b (a==2) true,.w A f g i,.p (b2 prog 140 [aM.cur [D.J 1 A,I d,I e] [D.J 1 A,I f,I g],aM.ro (.one (.J 1 [[I 0],[I 4],[I 5],[I (-1)]]))] (aY.vals [ae i]))])):
 ca 137 [aM.cur [D.J 1 A,I m,I o] [D.J 1 A,I f,I g]] (aY.vals [.agg (br C l i)]):=
 h.cb
def Vz(C A:ag)(b c d e f a:Int):aC:=bb 75 [(0,aR 1000000000),(2,aR 2),(3,aR 3),(4,aU d),(5,aR 1000000000),(6,aI.aG (bl.agg [aB 70000 4 A,au b,au c])),(7,aR 1000000000),(8,aR 3),(9,aI.aG (bl.one (aB 70000 4 A))),(10,aU (A.length:Int)),(11,aU d),(12,aR 1000000000),(13,aU a),(14,.aG (.one (.bg (a==0)))),(15,.aG (.one (.bg (a==0)))),(22,.aG (.one (.bg (a==1)))),(23,.aG (.one (.bg (a==1)))),(28,.aG (.one (.bg (a==2)))),(29,.aG (.one (.bg (a==2)))),(34,.aG (.one (.bg (a==3)))),(35,.aG (.one (.bg (a==3))))] [(3,[aB 70000 4 A,au b,au c]),(2,[.v (aN),au 0,au 0]),(1000000000,[.dA 1000000100 1 C,au e,au f])]
def NY(E A:ag)(g i a f:Int)(C:ag)(j k b c d e:Int):aC:=bb 75 [(0,aR 1000000000),(2,aR 2),(3,aR 3),(4,aU a),(5,aR 1000000000),(6,aI.aG (bl.agg [.J (.own 70000) 4 (A.set a.toNat (bp c d e (C++[[I (b-1)]]))),au g,au i])),(7,aR 1000000000),(8,aR 3),(9,.aG (.one (.J (.own 70000) 4 (A.set a.toNat (bp c d e (C++[[I (b-1)]])))))),(10,aU (A.length:Int)),(11,aU a),(12,aR 1000000000),(13,aU f),(14,.aG (.one (.bg (f==0)))),(15,.aG (.one (.bg (f==0)))),(22,.aG (.one (.bg (f==1)))),(23,.aG (.one (.bg (f==1)))),(28,.aG (.one (.bg (f==2)))),(29,.aG (.one (.bg (f==2)))),(34,.aG (.one (.bg (f==3)))),(35,.aG (.one (.bg (f==3)))),(36,aR 3),(37,.aG (.one (.J (.own 70000) 4 (A.set a.toNat (bp c d e (C++[[I (b-1)]])))))),(38,aU a),(39,aR 3),(40,.aG (.one (.J (.own 70000) 4 (A.set a.toNat (bp c d e (C++[[I (b-1)]])))))),(41,aU a),(42,.aG (.one (.ep (Tag.own 70000) 4 (A.set a.toNat (bp c d e (C++[[I (b-1)]]))) a.toNat 0))),(43,.aG (.one (.ep (Tag.own 70000) 4 (A.set a.toNat (bp c d e (C++[[I (b-1)]]))) a.toNat 3))),(45,aR 1000000000),(46,aU b),(47,aU (b-1)),(48,.aG (.one (.J (.own 48) 1 [[I (b-1)]]))),(50,.aG (.one (.ep (Tag.own 70000) 4 (A.set a.toNat (bp c d e (C++[[I (b-1)]]))) a.toNat 0))),(51,.aG (.one (.ep (Tag.own 70000) 4 (A.set a.toNat (bp c d e (C++[[I (b-1)]]))) a.toNat 3)))] [(3,[.J (.own 70000) 4 (A.set a.toNat (bp c d e (C++[[I (b-1)]]))),au g,au i]),(2,[.v (aN),au 0,au 0]),(1000000000,[.dA 1000000100 1 E,au j,au k])]
theorem ahx{E C:ag}{o p a i j n k l m:Int}{A:ag}{c d b:Int}{d25 d26 d27:D}{e f g:Int}{F:ag}
  (h:cQ [0<=a,a<(C.length:Int),C[a.toNat]?=some (bp k l m A),b2 prog 138 [aM.cur [D.J 1 E,I i,I j] [D.J 1 E,I c,I d],aM.ro (ae 9)] (aY.vals [ae b]),aL .i64 (b-1),(A.length+[[I (b-1)]].length)*8<=140737488355328,A.length+[[I (b-1)]].length<=9223372036854775807,C[a.toNat]?=some [d25,d26,d27,D.J 1 A],[d25,d26,d27,D.J 1 A][3]?=some (D.J 1 A),a.toNat=a.toNat,Flat [[I (b-1)]],0<=a,a<(C.length:Int),C[a.toNat]?=some (bp e f g F),a.toNat=a.toNat]):
  eK prog (c' f137 11) (Vz E C o p a i j n) (NY E C o p a n A c d b e f g):=
 .of [[],[],[],[],[],[],[],[],[.sub,.el (bp k l m A)],[],[.dN [some [D.J 1 E,I c,I d],none] (aY.vals [ae b])],[],[],[.el [d25,d26,d27,D.J 1 A]],[],[],[.el (bp e f g F)]] [[],[],[],[],[],[],[0<=a,a<(C.length:Int)],[],[C[a.toNat]?=some (bp k l m A)],[],[b2 prog 138 [aM.cur [D.J 1 E,I i,I j] [D.J 1 E,I c,I d],aM.ro (ae 9)] (aY.vals [ae b])],[aL .i64 (b-1)],[],[(A.length+[[I (b-1)]].length)*8<=140737488355328,A.length+[[I (b-1)]].length<=9223372036854775807,C[a.toNat]?=some [d25,d26,d27,D.J 1 A],[d25,d26,d27,D.J 1 A][3]?=some (D.J 1 A),a.toNat=a.toNat,Flat [[I (b-1)]]],[0<=a,a<(C.length:Int)],[],[C[a.toNat]?=some (bp e f g F),a.toNat=a.toNat]] (by kernel_rfl) (by kernel_rfl) (by kernel_rfl) h
theorem ahy(h:ad (D3 A p a0 C c d e f b g i a b6 c5 [.b (a==2) false,.b (a==3) true,.a (.jl (NY A C c d b a E j k l m n o)),.p (eK prog (c' f137 11) (Vz A C c d b g i a) (NY A C c d b a E j k l m n o))])):
 ca 137 [aM.cur [D.J 1 A,I b6,I c5] [D.J 1 A,I j,I k]] (aY.vals [.agg [D.J 4 (C.set b.toNat (bp m n o (E++[[I (l-1)]]))),I c,I d]]):=
 h.cb
def CS(A C:ag)(a b c d e f:Int):aC:=bb 75 [(0,aR 1000000000),(2,aR 2),(3,aR 3)] [(3,[aB 70000 4 C,au a,au b]),(2,[.v (aN),au c,au d]),(1000000000,[.dA 1000000100 1 A,au e,au f])]
def Hr(A C:ag)(a b c d e f:Int):aC:=bb 75 [(0,aR 1000000000),(2,aR 2),(3,aR 3)] [(3,[aB 70000 4 C,au a,au b]),(2,[.v (aN),au c,au d]),(1000000000,[.dA 1000000100 1 A,au e,au f])]
def CT(P:Program)(W:Array Oper)(A C:ag)(a b c d e f g i j:Int):aC:=
 oD P W [[],[],[],[],[.dN [some [D.J 1 A,I g,I i],none] (aY.vals [ae j])],[],[]] (Hr A C a b c d e f)
theorem VA{A C:ag}{d e f g a b i j c:Int}
  (h:cQ [b2 prog 138 [aM.cur [D.J 1 A,I a,I b] [D.J 1 A,I i,I j],aM.ro (ae 2)] (aY.vals [ae c]),aL .i64 (8+c)]):
  eK prog (c' f137 13) (Hr A C d e f g a b) (CT prog (c' f137 13) A C d e f g a b i j c):=
 .pj [0,0,0,0,1,1,0] h
theorem ahz(h:ad [.a (.jl (CT prog (c' f137 13) C A a b c d e f g i j)),.p (eK prog (c' f137 13) (Hr C A a b c d e f) (CT prog (c' f137 13) C A a b c d e f g i j)),.b (decide ((A.length:Int)<8+j)) true,.a .wr,.g A [[I 8,I 0,I 0,D.v (aN)]] 48]):
 aV (ap f137 0) (CS C A a b c d e f) .normal (CS C (A++[[I 8,I 0,I 0,D.v (aN)]]) a b c d g i):=
 h.aS [3,0,2] [3,2,1000000000]
def NZ(A C:ag)(a b c d e f:Int):aC:=bb 75 [(0,aR 1000000000),(2,aR 2),(3,aR 3)] [(3,[aB 70000 4 C,au a,au b]),(2,[.v (aN),au c,au d]),(1000000000,[.dA 1000000100 1 A,au e,au f])]
theorem ahA(h:ad [.a (.jl (CT prog (c' f137 13) C A a b c d e f g i j)),.p (eK prog (c' f137 13) (Hr C A a b c d e f) (CT prog (c' f137 13) C A a b c d e f g i j)),.b (decide ((A.length:Int)<8+j)) false]):
 aV (ap f137 0) (CS C A a b c d e f) (.exit 1) (NZ C A a b c d g i):=
 h.aS [3,2,0] [3,2,1000000000]
theorem ahB(h:ad (D3 A f g C i j b c l d e a k o [.b (a==2) false,.b (a==3) false,.b (a==4) true,.l [] [3,0,2] [3,2,1000000000] (ap f137 0) (CS A C i j 0 0 d e) (.exit 1) (NZ A E m n b6 c5 p a0)])):
 ca 137 [aM.cur [D.J 1 A,I k,I o] [D.J 1 A,I p,I a0]] (aY.vals [.agg (br E m n)]):=
 h.cb
theorem ahC(h:ad (D3 A g i C j k c d b e f a l m [.b (a==2) false,.b (a==3) false,.b (a==4) false,.b (a==5) true,.a .own,.p ((0:Int)<=none.getD 0),.p (none.getD 0<=(some b).getD (C.length:Int)),.p ((some b).getD (C.length:Int)<=(C.length:Int))])):
 ca 137 [aM.cur [D.J 1 A,I l,I m] [D.J 1 A,I e,I f]] (aY.vals [.agg [D.J 4 (List.take (((some b).getD (C.length:Int)).toNat-0) (List.drop 0 C)),I j,I k]]):=
 h.cb
theorem ahD(h:ad (D3 A f g C i j b c l d e a k m [.b (a==2) false,.b (a==3) false,.b (a==4) false,.b (a==5) false])):
 ca 137 [aM.cur [D.J 1 A,I k,I m] [D.J 1 A,I d,I e]] (aY.vals [.agg (br C i j)]):=
 h.cb
def CU(A:ag)(a b:Int)(C:ag)(c d:Int):aC:=bb 29 [(0,aR 1000000000),(3,aI.aG (bl.one (aB 6 5 C))),(4,aU b),(5,aU a)] [(1000000000,[.dA 1000000100 1 A,au c,au d])]
theorem ahE(h:ad [.w A p f g,.k A 138 a0 b6 p f 6 g,.b (decide (e<g)) true,.w A i j d,.k A 138 p f i j 2 d,.v (o+d),.r 130 [ae (o+d),ae 0,ae 2] [ae a],.w A k l b,.w A m n c,.k A 138 i j k l 12 b,.k A 138 k l m n 40 c,.g C [(bh 0 a 0 b c)] 40,.h [(bh 0 a 0 b c)],.u e]):
 aV (ap f119 0) (CU A e o C a0 b6) .normal (CU A (e+1) a (C++[(bh 0 a 0 b c)]) m n):=
 h.aS [5,0,4,3] [1000000000]
def N0(A C:ag)(a b:Int):aC:=bb 29 [(0,aR 1000000000),(3,aI.aG (bl.one (aB 6 5 C)))] [(1000000000,[.dA 1000000100 1 A,au a,au b])]
theorem ahF(h:ad [.w A c a b,.k A 138 e f c a 6 b,.b (decide (d<b)) false]):
 aV (ap f119 0) (CU A d g C e f) (.exit 0) (N0 A C c a):=
 h.aS [3,0] [1000000000]
theorem ahG(h:ad [.l [] [5,0,4,3] [1000000000] (ap f119 0) (CU A 0 0 [] a b) (.exit 0) (N0 A C c d)]):
 ca 119 [aM.cur [D.J 1 A,I a,I b] [D.J 1 A,I c,I d]] (aY.vals [aO 5 C]):=
 h.cb
def N1(A:ag)(a c d b:Int):aC:=bb 27 [(0,aR 1000000000),(2,aR 2),(3,aR 3),(4,aR 1000000000),(5,.aG (.one (.J (.own 5) 1 [[I 1],[I 1],[I 1],[I 2],[I 3],[I 3],[I 3],[I 4],[I 4],[I 5],[I 6],[I 6],[I 7]]))),(6,aU a),(7,aR 1000000000),(8,aU b),(9,aI.aG (bl.agg [au a,au b,au 0])),(10,aR 3),(11,aU a),(12,.aG (.one (.bg (a==4)))),(13,.aG (.one (.v (Value.bool true)))),(14,.aG (.one (.v (Value.tuple #[])))),(15,.aG (.one (.v (Value.tuple #[])))),(16,.aG (.one (.v (Value.tuple #[])))),(17,.aG (.one (.v (Value.bool true))))] [(3,[au a,au b,au 0]),(2,[au 0,au 0,au 0]),(1000000000,[.dA 1000000100 1 A,au c,au d])]
def N2(P:Program)(W:Array Oper)(A:ag)(e f g a b c d:Int):aC:=
 oD P W [[],[],[],[],[.dN [some [D.J 1 A,I b,I c],none] (aY.vals [ae d])],[],[],[],[]] (N1 A e f g a)
theorem ahH{A:ag}{g c d a e f b:Int}
  (h:cQ [aL .i64 (a+1),b2 prog 138 [aM.cur [D.J 1 A,I c,I d] [D.J 1 A,I e,I f],aM.ro (ae 2)] (aY.vals [ae b]),aL .i64 (a+1+b),(3:Int)≠0]):
  eK prog (c' f242 3) (N1 A g c d a) (N2 prog (c' f242 3) A g c d a e f b):=
 .pj [0,0,1,0,1,1,1,0,0] h
def PD(A:ag)(a b c d e f g i:Int)(l:List O):List O:=.w A a b c::.w A d e f::.p (b2 prog 140 [aM.cur [D.J 1 A,I g,I i] [D.J 1 A,I a,I b],aM.ro (.one (.J 1 [[I 1],[I 1],[I 1],[I 2],[I 3],[I 3],[I 3],[I 4],[I 4],[I 5],[I 6],[I 6],[I 7]]))] (aY.vals [ae c]))::.k A 138 a b d e 3 f::l
theorem ahI(h:ad (PD A i j b c d a k l [.b (b==4) true,.a (.jl (N2 prog (c' f242 3) A b c d a e f g)),.p (eK prog (c' f242 3) (N1 A b c d a) (N2 prog (c' f242 3) A b c d a e f g))])):
 ca 242 [aM.cur [D.J 1 A,I k,I l] [D.J 1 A,I e,I f]] (aY.vals [.agg [I b,I a,I ((a+1+g).tmod 3)]]):=
 h.cb
def N3(A:ag)(a c d b:Int):aC:=bb 27 [(0,aR 1000000000),(2,aR 2),(3,aR 3),(4,aR 1000000000),(5,.aG (.one (.J (.own 5) 1 [[I 1],[I 1],[I 1],[I 2],[I 3],[I 3],[I 3],[I 4],[I 4],[I 5],[I 6],[I 6],[I 7]]))),(6,aU a),(7,aR 1000000000),(8,aU b),(9,aI.aG (bl.agg [au a,au b,au 0])),(10,aR 3),(11,aU a),(12,.aG (.one (.bg (a==4)))),(13,.aG (.one (.v (Value.bool false)))),(14,aR 3),(15,aU a),(16,.aG (.one (.bg (a==5)))),(17,.aG (.one (.bg (a==5))))] [(3,[au a,au b,au 0]),(2,[au 0,au 0,au 0]),(1000000000,[.dA 1000000100 1 A,au c,au d])]
def N4(P:Program)(W:Array Oper)(A:ag)(e f g a b c d:Int):aC:=
 oD P W [[],[],[],[],[.dN [some [D.J 1 A,I b,I c],none] (aY.vals [ae d])],[],[],[],[]] (N3 A e f g a)
theorem ahJ{A:ag}{g c d a e f b:Int}
  (h:cQ [aL .i64 (a+1),b2 prog 138 [aM.cur [D.J 1 A,I c,I d] [D.J 1 A,I e,I f],aM.ro (ae 2)] (aY.vals [ae b]),aL .i64 (a+1+b),(3:Int)≠0]):
  eK prog (c' f242 3) (N3 A g c d a) (N4 prog (c' f242 3) A g c d a e f b):=
 .pj [0,0,1,0,1,1,1,0,0] h
theorem ahK(h:ad (PD A i j a c d b k l [.b (a==4) false,.b (a==5) true,.a (.jl (N4 prog (c' f242 3) A a c d b e f g)),.p (eK prog (c' f242 3) (N3 A a c d b) (N4 prog (c' f242 3) A a c d b e f g))])):
 ca 242 [aM.cur [D.J 1 A,I k,I l] [D.J 1 A,I e,I f]] (aY.vals [.agg [I a,I b,I ((b+1+g).tmod 3)]]):=
 h.cb
theorem ahL(h:ad (PD A c d a e f b g i [.b (a==4) false,.b (a==5) false])):
 ca 242 [aM.cur [D.J 1 A,I g,I i] [D.J 1 A,I e,I f]] (aY.vals [.agg [I a,I b,I 0]]):=
 h.cb
def CV(A:ag)(a b:Int)(C:ag)(c d:Int):aC:=bb 22 [(0,aR 1000000000),(1,aU a),(5,aI.aG (bl.one (aB 7 3 C))),(6,aU b)] [(1000000000,[.dA 1000000100 1 A,au c,au d])]
theorem ahM(h:ad [.w A k f g,.u d,.k A 138 l m k f (d+1) g,.b (decide (e<g)) true,.a (.dN [some [D.J 1 A,I i,I j]] (aY.vals [.agg [I a,I b,I c]])),.p (b2 prog 242 [aM.cur [D.J 1 A,I k,I f] [D.J 1 A,I i,I j]] (aY.vals [.agg [I a,I b,I c]])),.g C [[I a,I b,I c]] 24,.h [[I a,I b,I c]],.u e]):
 aV (ap f120 0) (CV A d e C l m) .normal (CV A d (e+1) (C++[[I a,I b,I c]]) i j):=
 h.aS [6,0,1,5] [1000000000]
def N5(A C:ag)(a b:Int):aC:=bb 22 [(0,aR 1000000000),(5,aI.aG (bl.one (aB 7 3 C)))] [(1000000000,[.dA 1000000100 1 A,au a,au b])]
theorem ahN(h:ad [.w A d a b,.u c,.k A 138 f g d a (c+1) b,.b (decide (e<b)) false]):
 aV (ap f120 0) (CV A c e C f g) (.exit 0) (N5 A C d a):=
 h.aS [5,0] [1000000000]
theorem ahO(h:ad [.l [] [6,0,1,5] [1000000000] (ap f120 0) (CV A c 0 [] a b) (.exit 0) (N5 A C d e)]):
 ca 120 [aM.cur [D.J 1 A,I a,I b] [D.J 1 A,I d,I e],aM.ro (ae c)] (aY.vals [aO 3 C]):=
 h.cb
