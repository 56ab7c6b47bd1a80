import Derived.Test.YtdchjefneblpgaaGreatGE
set_option linter.unusedVariables false
set_option linter.unusedSimpArgs false
namespace Go.Proofs.YtdchjefneblpgaaGreat
open Go.Sx Go.RowKit Go.Proofs.Tryz
variable {a b c d e f g i j k l m n o p a0 b4 cW d0 bz f0 g0 : Int} {A C E F : af} {q : Bool}
def xC(A:af)(a b:Int):aH:=bj 32 [(0,.aJ (.one (.dg 1000000100 1 A))),(3,aZ b),(4,aZ a)] []
theorem alD(h:ad [.f A a true,.b (decide (a<4000)) true,.v (b*131),.x A a [D.v (Value.int IntKind.u8 c)],.a (.nI (aZ d)),.v c,.v (b*131+c),.v (b*131+c+7),.p (lp prog BinOp.and 3 (Operand.tmp 26) (Operand.const (Value.int IntKind.i64 1073741823)) (Value.int IntKind.i64 (b*131+c+7)) (Value.int IntKind.i64 1073741823) (Value.int IntKind.i64 d)),.u a]):
 a1 (ar f117 0) (xC A a b) .normal (xC A (a+1) d):=
 h.aW [4,0,3] []
def C9(A:af)(a:Int):aH:=bj 32 [(0,.aJ (.one (.dg 1000000100 1 A))),(3,aZ a)] []
theorem alE(h:ad [.f A a true,.b (decide (a<4000)) false]):
 a1 (ar f117 0) (xC A a b) (.exit 0) (C9 A b):=
 h.aW [0,3] []
theorem alF(h:ad [.f A a false]):
 a1 (ar f117 0) (xC A a b) (.exit 0) (C9 A b):=
 h.aW [0,3] []
theorem alG(h:ad [.v (94701+(A.length:Int)),.l [] [4,0,3] [] (ar f117 0) (xC A 0 (94701+(A.length:Int))) (.exit 0) (C9 A a)]):
 b3 117 [aM.ro (a7 1 A)] (aS.h7 [some 0,none,none] [D.J 1 A,I 0,I a]):=
 h.b5
def UE(a b c d e:Int)(l:List O):List O:=.a .wr::.a .wr::.a (.nI (aZ a))::.a (.nI (aZ b))::.a (.nI (aZ c))::.a (.nI (aZ d))::.p (lp prog BinOp.shr 3 (Operand.tmp 16) (Operand.const (Value.int IntKind.u64 33)) (Value.int IntKind.i64 (IntKind.i64.wrap (IntKind.i64.wrap (e*6364136223846793005)+1442695040888963407))) (Value.int IntKind.u64 33) (Value.int IntKind.i64 a))::.p (lp prog BinOp.shr 3 (Operand.tmp 21) (Operand.const (Value.int IntKind.u64 45)) (Value.int IntKind.i64 (IntKind.i64.wrap (IntKind.i64.wrap (e*6364136223846793005)+1442695040888963407))) (Value.int IntKind.u64 45) (Value.int IntKind.i64 b))::.p (lp prog BinOp.xor 3 (Operand.tmp 17) (Operand.tmp 22) (Value.int IntKind.i64 a) (Value.int IntKind.i64 b) (Value.int IntKind.i64 c))::.p (lp prog BinOp.and 3 (Operand.tmp 23) (Operand.const (Value.int IntKind.i64 255)) (Value.int IntKind.i64 c) (Value.int IntKind.i64 255) (Value.int IntKind.i64 d))::l
theorem alH(h:ad (UE c d e f b [.i A a [D.v (Value.int IntKind.u8 i)],.a .wr,.a .wr,.a (.nI (aZ g)),.p (lp prog BinOp.and 3 (Operand.tmp 47) (Operand.const (Value.int IntKind.i64 255)) (Value.int IntKind.i64 (IntKind.i64.wrap (f+IntKind.i64.wrap i))) (Value.int IntKind.i64 255) (Value.int IntKind.i64 g)),.u a])):
 b3 253 [aM.cur [D.J 1 A,I a,I b] [D.J 1 A,I (a+1),I (IntKind.i64.wrap (IntKind.i64.wrap (b*6364136223846793005)+1442695040888963407))]] (aS.vals [ae g]):=
 h.b5
theorem alI(h:ad (UE c d e f a [.f A b false])):
 b3 253 [aM.cur [D.J 1 A,I b,I a] [D.J 1 A,I b,I (IntKind.i64.wrap (IntKind.i64.wrap (a*6364136223846793005)+1442695040888963407))]] (aS.vals [ae f]):=
 h.b5
theorem alJ(h:ad [.b (decide (a<=0)) false,.b (decide (a<=256)) true,.a (.dj [some [D.J 1 A,I b,I c]] (aS.vals [ae d])),.p (bT prog 253 [aM.cur [D.J 1 A,I e,I f] [D.J 1 A,I b,I c]] (aS.vals [ae d])),.p (a≠0)]):
 b3 138 [aM.cur [D.J 1 A,I e,I f] [D.J 1 A,I b,I c],aM.ro (ae a)] (aS.vals [ae (d.tmod a)]):=
 h.b5
theorem alK(h:ad [.b (decide (d<=0)) false,.b (decide (d<=256)) false,.a (.dj [some [D.J 1 A,I l,I m]] (aS.vals [ae b])),.a (.dj [some [D.J 1 A,I n,I f]] (aS.vals [ae a])),.a (.dj [some [D.J 1 A,I g,I i]] (aS.vals [ae c])),.a (.dj [some [D.J 1 A,I j,I k]] (aS.vals [ae e])),.p (bT prog 253 [aM.cur [D.J 1 A,I o,I p] [D.J 1 A,I l,I m]] (aS.vals [ae b])),.p (bT prog 253 [aM.cur [D.J 1 A,I l,I m] [D.J 1 A,I n,I f]] (aS.vals [ae a])),.p (bT prog 253 [aM.cur [D.J 1 A,I n,I f] [D.J 1 A,I g,I i]] (aS.vals [ae c])),.p (bT prog 253 [aM.cur [D.J 1 A,I g,I i] [D.J 1 A,I j,I k]] (aS.vals [ae e])),.v (b*16777216),.v (a*65536),.v (b*16777216+a*65536),.v (c*256),.v (b*16777216+a*65536+c*256),.v (b*16777216+a*65536+c*256+e),.p (d≠0)]):
 b3 138 [aM.cur [D.J 1 A,I o,I p] [D.J 1 A,I j,I k],aM.ro (ae d)] (aS.vals [ae ((b*16777216+a*65536+c*256+e).tmod d)]):=
 h.b5
theorem alL(h:ad [.w A a b c,.k A 138 d e a b f c]):
 b3 136 [aM.cur [D.J 1 A,I d,I e] [D.J 1 A,I a,I b],aM.ro (ae f)] (aS.vals [ao (c==0)]):=
 h.b5
theorem alM(h:ad [.w A a b c,.k A 138 d e a b (C.length:Int) c,.x C c [I f]]):
 b3 140 [aM.cur [D.J 1 A,I d,I e] [D.J 1 A,I a,I b],aM.ro (a7 1 C)] (aS.vals [ae f]):=
 h.b5
theorem alN(h:ad [.w A b c d,.w A e f a,.k A 138 g i b c 4 d,.k A 138 b c e f 5 a]):
 b3 325 [aM.cur [D.J 1 A,I g,I i] [D.J 1 A,I e,I f]] (aS.vals [.agg [I d,I a]]):=
 h.b5
def LG(A:af)(a b c d e f g i j:Int)(l:List O):List O:=.a (.dj [some [D.J 1 A,I a,I b]] (aS.vals [.agg [I c,I d]]))::.w A e f g::.p (bT prog 325 [aM.cur [D.J 1 A,I i,I j] [D.J 1 A,I a,I b]] (aS.vals [.agg [I c,I d]]))::.k A 138 a b e f 10 g::l
theorem alO(h:ad (LG A f g m i j a b k l [.b (b==0) true,.w A c d e,.p (bT prog 140 [aM.cur [D.J 1 A,I j,I a] [D.J 1 A,I c,I d],aM.ro (.one (.J 1 [[I (-1)],[I 3],[I 4],[I 9223372036854775807]]))] (aS.vals [ae e]))])):
 b3 272 [aM.cur [D.J 1 A,I k,I l] [D.J 1 A,I c,I d]] (aS.vals [.agg [I e,I i]]):=
 h.b5
theorem alP(h:ad (LG A f g i m j b a k l [.b (a==0) false,.b (a==1) true,.w A c d e,.p (bT prog 140 [aM.cur [D.J 1 A,I j,I b] [D.J 1 A,I c,I d],aM.ro (.one (.J 1 [[I (-1)],[I 5],[I 6],[I 7],[I (-9223372036854775808)]]))] (aS.vals [ae e]))])):
 b3 272 [aM.cur [D.J 1 A,I k,I l] [D.J 1 A,I c,I d]] (aS.vals [.agg [I i,I e]]):=
 h.b5
theorem alQ(h:ad (LG A c d e f g b a i j [.b (a==0) false,.b (a==1) false])):
 b3 272 [aM.cur [D.J 1 A,I i,I j] [D.J 1 A,I g,I b]] (aS.vals [.agg [I e,I f]]):=
 h.b5
theorem alR(h:ad [.w A j k l,.a (.dj [some [D.J 1 A,I m,I n]] (aS.vals [.agg [I a,I b]])),.w A c d e,.w A f g i,.k A 138 o p j k 5 l,.p (bT prog 325 [aM.cur [D.J 1 A,I j,I k] [D.J 1 A,I m,I n]] (aS.vals [.agg [I a,I b]])),.k A 138 m n c d 12 e,.k A 138 c d f g 40 i]):
 b3 271 [aM.cur [D.J 1 A,I o,I p] [D.J 1 A,I f,I g]] (aS.vals [.agg (bi l a b e i)]):=
 h.b5
def A5(A:af)(a b c d e f g i j k m n:Int)(l:List O):List O:=.a (.dj [some [D.J 1 A,I a,I b]] (aS.vals [.agg (bi c d e f g)]))::.w A i j k::.p (bT prog 271 [aM.cur [D.J 1 A,I m,I n] [D.J 1 A,I a,I b]] (aS.vals [.agg (bi c d e f g)]))::.k A 138 a b i j 12 k::l
theorem alS(h:ad (A5 A i j p k l m a b c d n o [.b (d==0) true,.w A e f g,.p (bT prog 140 [aM.cur [D.J 1 A,I b,I c] [D.J 1 A,I e,I f],aM.ro (.one (.J 1 [[I (-1)],[I 7],[I 8]]))] (aS.vals [ae g]))])):
 b3 178 [aM.cur [D.J 1 A,I n,I o] [D.J 1 A,I e,I f]] (aS.vals [.agg (bi g k l m a)]):=
 h.b5
theorem alT(h:ad (A5 A j k l p a0 m b c d a n o [.b (a==0) false,.b (a==1) true,.a (.dj [some [D.J 1 A,I e,I f]] (aS.vals [.agg [I g,I i]])),.p (bT prog 272 [aM.cur [D.J 1 A,I c,I d] [D.J 1 A,I e,I f]] (aS.vals [.agg [I g,I i]]))])):
 b3 178 [aM.cur [D.J 1 A,I n,I o] [D.J 1 A,I e,I f]] (aS.vals [.agg (bi l g i m b)]):=
 h.b5
theorem alU(h:ad (A5 A i j k l m p b c d a n o [.b (a==0) false,.b (a==1) false,.b (a==2) true,.w A e f g,.p (bT prog 140 [aM.cur [D.J 1 A,I c,I d] [D.J 1 A,I e,I f],aM.ro (.one (.J 1 [[I (-1)],[I 99],[I 100],[I (-9223372036854775808)]]))] (aS.vals [ae g]))])):
 b3 178 [aM.cur [D.J 1 A,I n,I o] [D.J 1 A,I e,I f]] (aS.vals [.agg (bi k l m g b)]):=
 h.b5
theorem alV(h:ad (A5 A g i j k l m o b c a n p [.b (a==0) false,.b (a==1) false,.b (a==2) false,.b (a==3) true,.w A d e f,.p (bT prog 140 [aM.cur [D.J 1 A,I b,I c] [D.J 1 A,I d,I e],aM.ro (.one (.J 1 [[I (-1)],[I 999],[I 1000],[I 9223372036854775807]]))] (aS.vals [ae f]))])):
 b3 178 [aM.cur [D.J 1 A,I n,I p] [D.J 1 A,I d,I e]] (aS.vals [.agg (bi j k l m f)]):=
 h.b5
theorem alW(h:ad (A5 A e f g i j k b c d a l m [.b (a==0) false,.b (a==1) false,.b (a==2) false,.b (a==3) false])):
 b3 178 [aM.cur [D.J 1 A,I l,I m] [D.J 1 A,I c,I d]] (aS.vals [.agg (bi g i j k b)]):=
 h.b5
def UF(A:af)(a b c d e f g i:Int)(q:Bool)(j k:Int)(l:List O):List O:=.w A a b c::.w A d e f::.y A g i q::.k A 138 j k a b 3 c::.v (1+c)::.k A 138 a b d e 3 f::.v (1+f)::.m A 136 d e g i 3 q::l
def A3(A:af)(a b c d e f g i:Int)(q:Bool)(j k m n o p eC gD c1 d1 e1 f1 g1 i1:Int)(l:List O):List O:=UF A a b c d e f g i q j k (.b q true::.w A m n o::.w A p eC gD::.w A c1 d1 e1::.w A f1 g1 i1::.k A 138 g i m n 3 o::.v (1+o)::.k A 138 m n p eC 4 gD::.k A 138 p eC c1 d1 3 e1::.v (1+e1)::.k A 138 c1 d1 f1 g1 6 i1::l)
theorem ak5{A:af}{f0 g0 b4 cW e d0 bz c f g:Int}{q:Bool}{i j a k l b m n d o p a0:Int}{d31 d32 d33 d34:D}(h:ad (A3 A b4 cW e d0 bz c f g q f0 g0 i j a k l b m n d o p a0 [.b (a0==0) true,.p ((0:Int)<=3),.p (3<(↑[[I 1,I 0,I 0,D.J 1 [[I 1]]],[I 6,I 0,I 0,D.J 1 [[I 2],[I 5]]],[I 4,I (1+a),I 0,D.J 1 [[I 3]]],[I 2,I b,I 0,D.J 1 [[I 4]]],[I 7,I 0,I 0,D.J 1 [[I 1]]],[I 8,I 0,I 0,D.v (aO)]].length:Int)),.e [[I 1,I 0,I 0,D.J 1 [[I 1]]],[I 6,I 0,I 0,D.J 1 [[I 2],[I 5]]],[I 4,I (1+a),I 0,D.J 1 [[I 3]]],[I 2,I b,I 0,D.J 1 [[I 4]]],[I 7,I 0,I 0,D.J 1 [[I 1]]],[I 8,I 0,I 0,D.v (aO)]] 3 [d31,d32,d33,d34]])):
 b3 118 [aM.cur [D.J 1 A,I f0,I g0] [D.J 1 A,I o,I p]] (aS.vals [.agg (bD ([[I 1,I 0,I 0,D.J 1 [[I 1]]],[I 6,I 0,I 0,D.J 1 [[I 2],[I 5]]],[I 4,I (1+a),I 0,D.J 1 [[I 3]]],[I 2,I b,I 0,D.J 1 [[I 4]]],[I 7,I 0,I 0,D.J 1 [[I 1]]],[I 8,I 0,I 0,D.v (aO)]].set 3 [I 3,I (1+d),I 0,D.J 1 [[I 4]]]) (1+e) (1+c))]):=
 h.b5
theorem ak6{A:af}{f0 g0 b4 cW e d0 bz c f g:Int}{q:Bool}{i j a k l b m n o p a0 d:Int}{d31 d32 d33 d34:D}(h:ad (A3 A b4 cW e d0 bz c f g q f0 g0 i j a k l b m n o p a0 d [.b (d==0) false,.b (d==1) true,.p ((0:Int)<=4),.p (4<(↑[[I 1,I 0,I 0,D.J 1 [[I 1]]],[I 6,I 0,I 0,D.J 1 [[I 2],[I 5]]],[I 4,I (1+a),I 0,D.J 1 [[I 3]]],[I 2,I b,I 0,D.J 1 [[I 4]]],[I 7,I 0,I 0,D.J 1 [[I 1]]],[I 8,I 0,I 0,D.v (aO)]].length:Int)),.e [[I 1,I 0,I 0,D.J 1 [[I 1]]],[I 6,I 0,I 0,D.J 1 [[I 2],[I 5]]],[I 4,I (1+a),I 0,D.J 1 [[I 3]]],[I 2,I b,I 0,D.J 1 [[I 4]]],[I 7,I 0,I 0,D.J 1 [[I 1]]],[I 8,I 0,I 0,D.v (aO)]] 4 [d31,d32,d33,d34]])):
 b3 118 [aM.cur [D.J 1 A,I f0,I g0] [D.J 1 A,I p,I a0]] (aS.vals [.agg (bD ([[I 1,I 0,I 0,D.J 1 [[I 1]]],[I 6,I 0,I 0,D.J 1 [[I 2],[I 5]]],[I 4,I (1+a),I 0,D.J 1 [[I 3]]],[I 2,I b,I 0,D.J 1 [[I 4]]],[I 7,I 0,I 0,D.J 1 [[I 1]]],[I 8,I 0,I 0,D.v (aO)]].set 4 [I 8,I 0,I 0,D.v (aO)]) (1+e) (1+c))]):=
 h.b5
theorem ak7{A:af}{f0 g0 b4 cW e d0 bz d f g:Int}{q:Bool}{i j a k l b m n o p a0 c:Int}{d31 d32 d33 d34:D}(h:ad (A3 A b4 cW e d0 bz d f g q f0 g0 i j a k l b m n o p a0 c [.b (c==0) false,.b (c==1) false,.b (c==2) true,.p ((0:Int)<=2),.p (2<(↑[[I 1,I 0,I 0,D.J 1 [[I 1]]],[I 6,I 0,I 0,D.J 1 [[I 2],[I 5]]],[I 4,I (1+a),I 0,D.J 1 [[I 3]]],[I 2,I b,I 0,D.J 1 [[I 4]]],[I 7,I 0,I 0,D.J 1 [[I 1]]],[I 8,I 0,I 0,D.v (aO)]].length:Int)),.e [[I 1,I 0,I 0,D.J 1 [[I 1]]],[I 6,I 0,I 0,D.J 1 [[I 2],[I 5]]],[I 4,I (1+a),I 0,D.J 1 [[I 3]]],[I 2,I b,I 0,D.J 1 [[I 4]]],[I 7,I 0,I 0,D.J 1 [[I 1]]],[I 8,I 0,I 0,D.v (aO)]] 2 [d31,d32,d33,d34]])):
 b3 118 [aM.cur [D.J 1 A,I f0,I g0] [D.J 1 A,I p,I a0]] (aS.vals [.agg (bD ([[I 1,I 0,I 0,D.J 1 [[I 1]]],[I 6,I 0,I 0,D.J 1 [[I 2],[I 5]]],[I 4,I (1+a),I 0,D.J 1 [[I 3]]],[I 2,I b,I 0,D.J 1 [[I 4]]],[I 7,I 0,I 0,D.J 1 [[I 1]]],[I 8,I 0,I 0,D.v (aO)]].set 2 [d31,d32,d33,D.J 1 [[I 3],[I 4]]]) (1+e) (1+d))]):=
 h.b5
theorem ak8{A:af}{f0 g0 b4 cW e d0 bz d f g:Int}{q:Bool}{i j a k l b m n o p a0 c:Int}{d31 d32 d33 d34:D}(h:ad (A3 A b4 cW e d0 bz d f g q f0 g0 i j a k l b m n o p a0 c [.b (c==0) false,.b (c==1) false,.b (c==2) false,.b (c==3) true,.a .wr,.p (([[I 1,I 0,I 0,D.J 1 [[I 1]]],[I 6,I 0,I 0,D.J 1 [[I 2],[I 5]]],[I 4,I (1+a),I 0,D.J 1 [[I 3]]],[I 2,I b,I 0,D.J 1 [[I 4]]],[I 7,I 0,I 0,D.J 1 [[I 1]]],[I 8,I 0,I 0,D.v (aO)]].length+[[I 8,I 0,I 0,D.v (aO)]].length)*48<=140737488355328),.p ([[I 1,I 0,I 0,D.J 1 [[I 1]]],[I 6,I 0,I 0,D.J 1 [[I 2],[I 5]]],[I 4,I (1+a),I 0,D.J 1 [[I 3]]],[I 2,I b,I 0,D.J 1 [[I 4]]],[I 7,I 0,I 0,D.J 1 [[I 1]]],[I 8,I 0,I 0,D.v (aO)]].length+[[I 8,I 0,I 0,D.v (aO)]].length<=9223372036854775807),.p ((0:Int)<=0),.p (0<(↑([[I 1,I 0,I 0,D.J 1 [[I 1]]],[I 6,I 0,I 0,D.J 1 [[I 2],[I 5]]],[I 4,I (1+a),I 0,D.J 1 [[I 3]]],[I 2,I b,I 0,D.J 1 [[I 4]]],[I 7,I 0,I 0,D.J 1 [[I 1]]],[I 8,I 0,I 0,D.v (aO)]]++[[I 8,I 0,I 0,D.v (aO)]]).length:Int)),.e ([[I 1,I 0,I 0,D.J 1 [[I 1]]],[I 6,I 0,I 0,D.J 1 [[I 2],[I 5]]],[I 4,I (1+a),I 0,D.J 1 [[I 3]]],[I 2,I b,I 0,D.J 1 [[I 4]]],[I 7,I 0,I 0,D.J 1 [[I 1]]],[I 8,I 0,I 0,D.v (aO)]]++[[I 8,I 0,I 0,D.v (aO)]]) 0 [d31,d32,d33,d34]])):
 b3 118 [aM.cur [D.J 1 A,I f0,I g0] [D.J 1 A,I p,I a0]] (aS.vals [.agg (bD (([[I 1,I 0,I 0,D.J 1 [[I 1]]],[I 6,I 0,I 0,D.J 1 [[I 2],[I 5]]],[I 4,I (1+a),I 0,D.J 1 [[I 3]]],[I 2,I b,I 0,D.J 1 [[I 4]]],[I 7,I 0,I 0,D.J 1 [[I 1]]],[I 8,I 0,I 0,D.v (aO)]]++[[I 8,I 0,I 0,D.v (aO)]]).set 0 [d31,d32,d33,D.J 1 [[I 1],[I 6]]]) (1+e) (1+d))]):=
 h.b5
theorem ak9(h:ad (A3 A b4 cW d d0 bz b e f q f0 g0 g i c j k l m n o p a0 a [.b (a==0) false,.b (a==1) false,.b (a==2) false,.b (a==3) false])):
 b3 118 [aM.cur [D.J 1 A,I f0,I g0] [D.J 1 A,I p,I a0]] (aS.vals [.agg [D.J 4 [[I 1,I 0,I 0,D.J 1 [[I 1]]],[I 6,I 0,I 0,D.J 1 [[I 2],[I 5]]],[I 4,I (1+c),I 0,D.J 1 [[I 3]]],[I 2,I l,I 0,D.J 1 [[I 4]]],[I 7,I 0,I 0,D.J 1 [[I 1]]],[I 8,I 0,I 0,D.v (aO)]],I (1+d),I (1+b)]]):=
 h.b5
def A4(A:af)(a b c d e f g i:Int)(q:Bool)(j k m n o p eC gD c1 d1 e1 f1 g1 i1:Int)(l:List O):List O:=UF A a b c d e f g i q j k (.b q false::.w A m n o::.w A p eC gD::.w A c1 d1 e1::.w A f1 g1 i1::.k A 138 g i m n 3 o::.v (1+o)::.k A 138 m n p eC 4 gD::.k A 138 p eC c1 d1 3 e1::.v (1+e1)::.k A 138 c1 d1 f1 g1 6 i1::l)
theorem ala{A:af}{f0 g0 b4 cW e d0 bz c f g:Int}{q:Bool}{i j a k l b m n d o p a0:Int}{d31 d32 d33 d34:D}(h:ad (A4 A b4 cW e d0 bz c f g q f0 g0 i j a k l b m n d o p a0 [.b (a0==0) true,.p ((0:Int)<=3),.p (3<(↑[[I 1,I 0,I 0,D.J 1 [[I 1]]],[I 5,I 0,I 0,D.J 1 [[I 2],[I 5]]],[I 4,I (1+a),I 0,D.J 1 [[I 3]]],[I 2,I b,I 0,D.J 1 [[I 4]]],[I 7,I 0,I 0,D.J 1 [[I 1]]],[I 8,I 0,I 0,D.v (aO)]].length:Int)),.e [[I 1,I 0,I 0,D.J 1 [[I 1]]],[I 5,I 0,I 0,D.J 1 [[I 2],[I 5]]],[I 4,I (1+a),I 0,D.J 1 [[I 3]]],[I 2,I b,I 0,D.J 1 [[I 4]]],[I 7,I 0,I 0,D.J 1 [[I 1]]],[I 8,I 0,I 0,D.v (aO)]] 3 [d31,d32,d33,d34]])):
 b3 118 [aM.cur [D.J 1 A,I f0,I g0] [D.J 1 A,I o,I p]] (aS.vals [.agg (bD ([[I 1,I 0,I 0,D.J 1 [[I 1]]],[I 5,I 0,I 0,D.J 1 [[I 2],[I 5]]],[I 4,I (1+a),I 0,D.J 1 [[I 3]]],[I 2,I b,I 0,D.J 1 [[I 4]]],[I 7,I 0,I 0,D.J 1 [[I 1]]],[I 8,I 0,I 0,D.v (aO)]].set 3 [I 3,I (1+d),I 0,D.J 1 [[I 4]]]) (1+e) (1+c))]):=
 h.b5
theorem alb{A:af}{f0 g0 b4 cW e d0 bz c f g:Int}{q:Bool}{i j a k l b m n o p a0 d:Int}{d31 d32 d33 d34:D}(h:ad (A4 A b4 cW e d0 bz c f g q f0 g0 i j a k l b m n o p a0 d [.b (d==0) false,.b (d==1) true,.p ((0:Int)<=4),.p (4<(↑[[I 1,I 0,I 0,D.J 1 [[I 1]]],[I 5,I 0,I 0,D.J 1 [[I 2],[I 5]]],[I 4,I (1+a),I 0,D.J 1 [[I 3]]],[I 2,I b,I 0,D.J 1 [[I 4]]],[I 7,I 0,I 0,D.J 1 [[I 1]]],[I 8,I 0,I 0,D.v (aO)]].length:Int)),.e [[I 1,I 0,I 0,D.J 1 [[I 1]]],[I 5,I 0,I 0,D.J 1 [[I 2],[I 5]]],[I 4,I (1+a),I 0,D.J 1 [[I 3]]],[I 2,I b,I 0,D.J 1 [[I 4]]],[I 7,I 0,I 0,D.J 1 [[I 1]]],[I 8,I 0,I 0,D.v (aO)]] 4 [d31,d32,d33,d34]])):
 b3 118 [aM.cur [D.J 1 A,I f0,I g0] [D.J 1 A,I p,I a0]] (aS.vals [.agg (bD ([[I 1,I 0,I 0,D.J 1 [[I 1]]],[I 5,I 0,I 0,D.J 1 [[I 2],[I 5]]],[I 4,I (1+a),I 0,D.J 1 [[I 3]]],[I 2,I b,I 0,D.J 1 [[I 4]]],[I 7,I 0,I 0,D.J 1 [[I 1]]],[I 8,I 0,I 0,D.v (aO)]].set 4 [I 8,I 0,I 0,D.v (aO)]) (1+e) (1+c))]):=
 h.b5
theorem alc{A:af}{f0 g0 b4 cW e d0 bz d f g:Int}{q:Bool}{i j a k l b m n o p a0 c:Int}{d31 d32 d33 d34:D}(h:ad (A4 A b4 cW e d0 bz d f g q f0 g0 i j a k l b m n o p a0 c [.b (c==0) false,.b (c==1) false,.b (c==2) true,.p ((0:Int)<=2),.p (2<(↑[[I 1,I 0,I 0,D.J 1 [[I 1]]],[I 5,I 0,I 0,D.J 1 [[I 2],[I 5]]],[I 4,I (1+a),I 0,D.J 1 [[I 3]]],[I 2,I b,I 0,D.J 1 [[I 4]]],[I 7,I 0,I 0,D.J 1 [[I 1]]],[I 8,I 0,I 0,D.v (aO)]].length:Int)),.e [[I 1,I 0,I 0,D.J 1 [[I 1]]],[I 5,I 0,I 0,D.J 1 [[I 2],[I 5]]],[I 4,I (1+a),I 0,D.J 1 [[I 3]]],[I 2,I b,I 0,D.J 1 [[I 4]]],[I 7,I 0,I 0,D.J 1 [[I 1]]],[I 8,I 0,I 0,D.v (aO)]] 2 [d31,d32,d33,d34]])):
 b3 118 [aM.cur [D.J 1 A,I f0,I g0] [D.J 1 A,I p,I a0]] (aS.vals [.agg (bD ([[I 1,I 0,I 0,D.J 1 [[I 1]]],[I 5,I 0,I 0,D.J 1 [[I 2],[I 5]]],[I 4,I (1+a),I 0,D.J 1 [[I 3]]],[I 2,I b,I 0,D.J 1 [[I 4]]],[I 7,I 0,I 0,D.J 1 [[I 1]]],[I 8,I 0,I 0,D.v (aO)]].set 2 [d31,d32,d33,D.J 1 [[I 3],[I 4]]]) (1+e) (1+d))]):=
 h.b5
theorem ald{A:af}{f0 g0 b4 cW e d0 bz d f g:Int}{q:Bool}{i j a k l b m n o p a0 c:Int}{d31 d32 d33 d34:D}(h:ad (A4 A b4 cW e d0 bz d f g q f0 g0 i j a k l b m n o p a0 c [.b (c==0) false,.b (c==1) false,.b (c==2) false,.b (c==3) true,.a .wr,.p (([[I 1,I 0,I 0,D.J 1 [[I 1]]],[I 5,I 0,I 0,D.J 1 [[I 2],[I 5]]],[I 4,I (1+a),I 0,D.J 1 [[I 3]]],[I 2,I b,I 0,D.J 1 [[I 4]]],[I 7,I 0,I 0,D.J 1 [[I 1]]],[I 8,I 0,I 0,D.v (aO)]].length+[[I 8,I 0,I 0,D.v (aO)]].length)*48<=140737488355328),.p ([[I 1,I 0,I 0,D.J 1 [[I 1]]],[I 5,I 0,I 0,D.J 1 [[I 2],[I 5]]],[I 4,I (1+a),I 0,D.J 1 [[I 3]]],[I 2,I b,I 0,D.J 1 [[I 4]]],[I 7,I 0,I 0,D.J 1 [[I 1]]],[I 8,I 0,I 0,D.v (aO)]].length+[[I 8,I 0,I 0,D.v (aO)]].length<=9223372036854775807),.p ((0:Int)<=0),.p (0<(↑([[I 1,I 0,I 0,D.J 1 [[I 1]]],[I 5,I 0,I 0,D.J 1 [[I 2],[I 5]]],[I 4,I (1+a),I 0,D.J 1 [[I 3]]],[I 2,I b,I 0,D.J 1 [[I 4]]],[I 7,I 0,I 0,D.J 1 [[I 1]]],[I 8,I 0,I 0,D.v (aO)]]++[[I 8,I 0,I 0,D.v (aO)]]).length:Int)),.e ([[I 1,I 0,I 0,D.J 1 [[I 1]]],[I 5,I 0,I 0,D.J 1 [[I 2],[I 5]]],[I 4,I (1+a),I 0,D.J 1 [[I 3]]],[I 2,I b,I 0,D.J 1 [[I 4]]],[I 7,I 0,I 0,D.J 1 [[I 1]]],[I 8,I 0,I 0,D.v (aO)]]++[[I 8,I 0,I 0,D.v (aO)]]) 0 [d31,d32,d33,d34]])):
 b3 118 [aM.cur [D.J 1 A,I f0,I g0] [D.J 1 A,I p,I a0]] (aS.vals [.agg (bD (([[I 1,I 0,I 0,D.J 1 [[I 1]]],[I 5,I 0,I 0,D.J 1 [[I 2],[I 5]]],[I 4,I (1+a),I 0,D.J 1 [[I 3]]],[I 2,I b,I 0,D.J 1 [[I 4]]],[I 7,I 0,I 0,D.J 1 [[I 1]]],[I 8,I 0,I 0,D.v (aO)]]++[[I 8,I 0,I 0,D.v (aO)]]).set 0 [d31,d32,d33,D.J 1 [[I 1],[I 6]]]) (1+e) (1+d))]):=
 h.b5
theorem ale(h:ad (A4 A b4 cW d d0 bz b e f q f0 g0 g i c j k l m n o p a0 a [.b (a==0) false,.b (a==1) false,.b (a==2) false,.b (a==3) false])):
 b3 118 [aM.cur [D.J 1 A,I f0,I g0] [D.J 1 A,I p,I a0]] (aS.vals [.agg [D.J 4 [[I 1,I 0,I 0,D.J 1 [[I 1]]],[I 5,I 0,I 0,D.J 1 [[I 2],[I 5]]],[I 4,I (1+c),I 0,D.J 1 [[I 3]]],[I 2,I l,I 0,D.J 1 [[I 4]]],[I 7,I 0,I 0,D.J 1 [[I 1]]],[I 8,I 0,I 0,D.v (aO)]],I (1+d),I (1+b)]]):=
 h.b5
def P6(C A:af)(b c d e f a:Int):aH:=bj 75 [(0,aR 1000000000),(2,aR 2),(3,aR 3),(4,aZ d),(5,aR 1000000000),(6,aI.aJ (bq.agg [aG 70000 4 A,aw b,aw c])),(7,aR 1000000000),(8,aR 3),(9,aI.aJ (bq.one (aG 70000 4 A))),(10,aZ (A.length:Int)),(11,aZ d),(12,aR 1000000000),(13,aZ a),(14,.aJ (.one (.bc (a==0)))),(15,.aJ (.one (.bc (a==0))))] [(3,[aG 70000 4 A,aw b,aw c]),(2,[.v (aO),aw 0,aw 0]),(1000000000,[.dg 1000000100 1 C,aw e,aw f])]
def J0(E A:af)(f g a e i j c d b:Int)(C:af):aH:=bj 75 [(0,aR 1000000000),(2,aR 2),(3,aR 3),(4,aZ a),(5,aR 1000000000),(6,aI.aJ (bq.agg [aG 70000 4 (A.set a.toNat (bk c d b C)),aw f,aw g])),(7,aR 1000000000),(8,aR 3),(9,aI.aJ (bq.one (aG 70000 4 (A.set a.toNat (bk c d b C))))),(10,aZ (A.length:Int)),(11,aZ a),(12,aR 1000000000),(13,aZ e),(14,.aJ (.one (.bc (e==0)))),(15,.aJ (.one (.bc (e==0)))),(16,aR 3),(17,aI.aJ (bq.one (aG 70000 4 (A.set a.toNat (bk c d b C))))),(18,aZ a),(19,aR 1000000000),(20,aI.aJ (bq.agg [aw c,aw d,aw b,.cp])),(21,.aJ (.one (.cX (Tag.own 70000) 4 (A.set a.toNat (bk c d b C)) a.toNat 0)))] [(3,[aG 70000 4 (A.set a.toNat (bk c d b C)),aw f,aw g]),(2,[.v (aO),aw 0,aw 0]),(1000000000,[.dg 1000000100 1 E,aw i,aw j])]
theorem alf{A C:af}{n o a g i m b c d e f:Int}{E:af}{j k l:Int}{F:af}
  (h:cE [bT prog 252 [aM.cur [D.J 1 A,I g,I i] [D.J 1 A,I b,I c]] (aS.vals [.agg (bk d e f E)]),0<=a,a<(C.length:Int),C[a.toNat]?=some (bk j k l F)]):
  ee prog (cO f137 5) (P6 A C n o a g i m) (J0 A C n o a m b c d e f E):=
 .of [[],[],[],[],[.dj [some [D.J 1 A,I b,I c]] (aS.vals [.agg (bk d e f E)])],[],[.el (bk j k l F)]] [[],[],[],[],[bT prog 252 [aM.cur [D.J 1 A,I g,I i] [D.J 1 A,I b,I c]] (aS.vals [.agg (bk d e f E)])],[0<=a,a<(C.length:Int)],[C[a.toNat]?=some (bk j k l F)]] (by kernel_rfl) (by kernel_rfl) (by kernel_rfl) h
def LH(A:af)(a b:Int)(C:af)(c d e f g i j k m n:Int)(l:List O):List O:=.a (.dj [some [D.J 1 A,I a,I b]] (aS.vals [.agg (bD C c d)]))::.w A e f g::.w A i j k::.p (bT prog 118 [aM.cur [D.J 1 A,I m,I n] [D.J 1 A,I a,I b]] (aS.vals [.agg (bD C c d)]))::.k A 138 a b e f (C.length:Int) g::.k A 138 e f i j 12 k::l
theorem alg(h:ad (LH A o p C c d e f a g i b a0 b4 [.b (b==0) true,.a (.ig (J0 A C c d a b j k l m n E)),.p (ee prog (cO f137 5) (P6 A C c d a g i b) (J0 A C c d a b j k l m n E))])):
 b3 137 [aM.cur [D.J 1 A,I a0,I b4] [D.J 1 A,I j,I k]] (aS.vals [.agg (bD (C.set a.toNat (bk l m n E)) c d)]):=
 h.b5
theorem alh(h:ad (LH A j k C p l b c n d e a m o [.b (a==0) false,.b (a==1) true,.w A f g i,.p (bT prog 140 [aM.cur [D.J 1 A,I d,I e] [D.J 1 A,I f,I g],aM.ro (.one (.J 1 [[I 0],[I 4],[I 5],[I (-1)]]))] (aS.vals [ae i]))])):
 b3 137 [aM.cur [D.J 1 A,I m,I o] [D.J 1 A,I f,I g]] (aS.vals [.agg (bD C i l)]):=
 h.b5
def A6(A:af)(a b:Int)(C:af)(c d e f g i j k m n:Int)(l:List O):List O:=LH A a b C c d e f g i j k m n (.b (k==0) false::.b (k==1) false::l)
theorem ali(h:ad (A6 A j k C l p b c n d e a m o [.b (a==2) true,.w A f g i,.p (bT prog 140 [aM.cur [D.J 1 A,I d,I e] [D.J 1 A,I f,I g],aM.ro (.one (.J 1 [[I 0],[I 4],[I 5],[I (-1)]]))] (aS.vals [ae i]))])):
 b3 137 [aM.cur [D.J 1 A,I m,I o] [D.J 1 A,I f,I g]] (aS.vals [.agg (bD C l i)]):=
 h.b5
def P7(C A:af)(b c d e f a:Int):aH:=bj 75 [(0,aR 1000000000),(2,aR 2),(3,aR 3),(4,aZ d),(5,aR 1000000000),(6,aI.aJ (bq.agg [aG 70000 4 A,aw b,aw c])),(7,aR 1000000000),(8,aR 3),(9,aI.aJ (bq.one (aG 70000 4 A))),(10,aZ (A.length:Int)),(11,aZ d),(12,aR 1000000000),(13,aZ a),(14,.aJ (.one (.bc (a==0)))),(15,.aJ (.one (.bc (a==0)))),(22,.aJ (.one (.bc (a==1)))),(23,.aJ (.one (.bc (a==1)))),(28,.aJ (.one (.bc (a==2)))),(29,.aJ (.one (.bc (a==2)))),(34,.aJ (.one (.bc (a==3)))),(35,.aJ (.one (.bc (a==3))))] [(3,[aG 70000 4 A,aw b,aw c]),(2,[.v (aO),aw 0,aw 0]),(1000000000,[.dg 1000000100 1 C,aw e,aw f])]
def J1(E A:af)(g i a f:Int)(C:af)(j k b c d e:Int):aH:=bj 75 [(0,aR 1000000000),(2,aR 2),(3,aR 3),(4,aZ a),(5,aR 1000000000),(6,aI.aJ (bq.agg [.J (.own 70000) 4 (A.set a.toNat (bk c d e (C++[[I (b-1)]]))),aw g,aw i])),(7,aR 1000000000),(8,aR 3),(9,.aJ (.one (.J (.own 70000) 4 (A.set a.toNat (bk c d e (C++[[I (b-1)]])))))),(10,aZ (A.length:Int)),(11,aZ a),(12,aR 1000000000),(13,aZ f),(14,.aJ (.one (.bc (f==0)))),(15,.aJ (.one (.bc (f==0)))),(22,.aJ (.one (.bc (f==1)))),(23,.aJ (.one (.bc (f==1)))),(28,.aJ (.one (.bc (f==2)))),(29,.aJ (.one (.bc (f==2)))),(34,.aJ (.one (.bc (f==3)))),(35,.aJ (.one (.bc (f==3)))),(36,aR 3),(37,.aJ (.one (.J (.own 70000) 4 (A.set a.toNat (bk c d e (C++[[I (b-1)]])))))),(38,aZ a),(39,aR 3),(40,.aJ (.one (.J (.own 70000) 4 (A.set a.toNat (bk c d e (C++[[I (b-1)]])))))),(41,aZ a),(42,.aJ (.one (.cX (Tag.own 70000) 4 (A.set a.toNat (bk c d e (C++[[I (b-1)]]))) a.toNat 0))),(43,.aJ (.one (.cX (Tag.own 70000) 4 (A.set a.toNat (bk c d e (C++[[I (b-1)]]))) a.toNat 3))),(45,aR 1000000000),(46,aZ b),(47,aZ (b-1)),(48,.aJ (.one (.J (.own 48) 1 [[I (b-1)]]))),(50,.aJ (.one (.cX (Tag.own 70000) 4 (A.set a.toNat (bk c d e (C++[[I (b-1)]]))) a.toNat 0))),(51,.aJ (.one (.cX (Tag.own 70000) 4 (A.set a.toNat (bk c d e (C++[[I (b-1)]]))) a.toNat 3)))] [(3,[.J (.own 70000) 4 (A.set a.toNat (bk c d e (C++[[I (b-1)]]))),aw g,aw i]),(2,[.v (aO),aw 0,aw 0]),(1000000000,[.dg 1000000100 1 E,aw j,aw k])]
theorem alj{E C:af}{o p a i j n k l m:Int}{A:af}{c d b:Int}{d25 d26 d27:D}{e f g:Int}{F:af}
  (h:cE [0<=a,a<(C.length:Int),C[a.toNat]?=some (bk k l m A),bT prog 138 [aM.cur [D.J 1 E,I i,I j] [D.J 1 E,I c,I d],aM.ro (ae 9)] (aS.vals [ae b]),az .i64 (b-1),(A.length+[[I (b-1)]].length)*8<=140737488355328,A.length+[[I (b-1)]].length<=9223372036854775807,C[a.toNat]?=some [d25,d26,d27,D.J 1 A],[d25,d26,d27,D.J 1 A][3]?=some (D.J 1 A),a.toNat=a.toNat,Flat [[I (b-1)]],0<=a,a<(C.length:Int),C[a.toNat]?=some (bk e f g F),a.toNat=a.toNat]):
  ee prog (cO f137 11) (P7 E C o p a i j n) (J1 E C o p a n A c d b e f g):=
 .of [[],[],[],[],[],[],[],[],[.sub,.el (bk k l m A)],[],[.dj [some [D.J 1 E,I c,I d],none] (aS.vals [ae b])],[],[],[.el [d25,d26,d27,D.J 1 A]],[],[],[.el (bk e f g F)]] [[],[],[],[],[],[],[0<=a,a<(C.length:Int)],[],[C[a.toNat]?=some (bk k l m A)],[],[bT prog 138 [aM.cur [D.J 1 E,I i,I j] [D.J 1 E,I c,I d],aM.ro (ae 9)] (aS.vals [ae b])],[az .i64 (b-1)],[],[(A.length+[[I (b-1)]].length)*8<=140737488355328,A.length+[[I (b-1)]].length<=9223372036854775807,C[a.toNat]?=some [d25,d26,d27,D.J 1 A],[d25,d26,d27,D.J 1 A][3]?=some (D.J 1 A),a.toNat=a.toNat,Flat [[I (b-1)]]],[0<=a,a<(C.length:Int)],[],[C[a.toNat]?=some (bk e f g F),a.toNat=a.toNat]] (by kernel_rfl) (by kernel_rfl) (by kernel_rfl) h
theorem alk(h:ad (A6 A p a0 C c d e f b g i a b4 cW [.b (a==2) false,.b (a==3) true,.a (.ig (J1 A C c d b a E j k l m n o)),.p (ee prog (cO f137 11) (P7 A C c d b g i a) (J1 A C c d b a E j k l m n o))])):
 b3 137 [aM.cur [D.J 1 A,I b4,I cW] [D.J 1 A,I j,I k]] (aS.vals [.agg [D.J 4 (C.set b.toNat (bk m n o (E++[[I (l-1)]]))),I c,I d]]):=
 h.b5
def zC(A C:af)(a b c d e f:Int):aH:=bj 75 [(0,aR 1000000000),(2,aR 2),(3,aR 3)] [(3,[aG 70000 4 C,aw a,aw b]),(2,[.v (aO),aw c,aw d]),(1000000000,[.dg 1000000100 1 A,aw e,aw f])]
def C'(A C:af)(a b c d e f:Int):aH:=bj 75 [(0,aR 1000000000),(2,aR 2),(3,aR 3)] [(3,[aG 70000 4 C,aw a,aw b]),(2,[.v (aO),aw c,aw d]),(1000000000,[.dg 1000000100 1 A,aw e,aw f])]
def zD(P:Program)(W:Array Oper)(A C:af)(a b c d e f g i j:Int):aH:=
 mP P W [[],[],[],[],[.dj [some [D.J 1 A,I g,I i],none] (aS.vals [ae j])],[],[]] (C' A C a b c d e f)
theorem P8{A C:af}{d e f g a b i j c:Int}
  (h:cE [bT prog 138 [aM.cur [D.J 1 A,I a,I b] [D.J 1 A,I i,I j],aM.ro (ae 2)] (aS.vals [ae c]),az .i64 (8+c)]):
  ee prog (cO f137 13) (C' A C d e f g a b) (zD prog (cO f137 13) A C d e f g a b i j c):=
 .nH [0,0,0,0,1,1,0] h
theorem alm(h:ad [.a (.ig (zD prog (cO f137 13) C A a b c d e f g i j)),.p (ee prog (cO f137 13) (C' C A a b c d e f) (zD prog (cO f137 13) C A a b c d e f g i j)),.b (decide ((A.length:Int)<8+j)) true,.a .wr,.g A [[I 8,I 0,I 0,D.v (aO)]] 48]):
 a1 (ar f137 0) (zC C A a b c d e f) .normal (zC C (A++[[I 8,I 0,I 0,D.v (aO)]]) a b c d g i):=
 h.aW [3,0,2] [3,2,1000000000]
def J2(A C:af)(a b c d e f:Int):aH:=bj 75 [(0,aR 1000000000),(2,aR 2),(3,aR 3)] [(3,[aG 70000 4 C,aw a,aw b]),(2,[.v (aO),aw c,aw d]),(1000000000,[.dg 1000000100 1 A,aw e,aw f])]
theorem aln(h:ad [.a (.ig (zD prog (cO f137 13) C A a b c d e f g i j)),.p (ee prog (cO f137 13) (C' C A a b c d e f) (zD prog (cO f137 13) C A a b c d e f g i j)),.b (decide ((A.length:Int)<8+j)) false]):
 a1 (ar f137 0) (zC C A a b c d e f) (.exit 1) (J2 C A a b c d g i):=
 h.aW [3,2,0] [3,2,1000000000]
theorem alo(h:ad (A6 A f g C i j b c l d e a k o [.b (a==2) false,.b (a==3) false,.b (a==4) true,.l [] [3,0,2] [3,2,1000000000] (ar f137 0) (zC A C i j 0 0 d e) (.exit 1) (J2 A E m n b4 cW p a0)])):
 b3 137 [aM.cur [D.J 1 A,I k,I o] [D.J 1 A,I p,I a0]] (aS.vals [.agg (bD E m n)]):=
 h.b5
theorem alp(h:ad (A6 A g i C j k c d b e f a l m [.b (a==2) false,.b (a==3) false,.b (a==4) false,.b (a==5) true,.a .own,.p ((0:Int)<=none.getD 0),.p (none.getD 0<=(some b).getD (C.length:Int)),.p ((some b).getD (C.length:Int)<=(C.length:Int))])):
 b3 137 [aM.cur [D.J 1 A,I l,I m] [D.J 1 A,I e,I f]] (aS.vals [.agg [D.J 4 (List.take (((some b).getD (C.length:Int)).toNat-0) (List.drop 0 C)),I j,I k]]):=
 h.b5
theorem alq(h:ad (A6 A f g C i j b c l d e a k m [.b (a==2) false,.b (a==3) false,.b (a==4) false,.b (a==5) false])):
 b3 137 [aM.cur [D.J 1 A,I k,I m] [D.J 1 A,I d,I e]] (aS.vals [.agg (bD C i j)]):=
 h.b5
def zE(A:af)(a b:Int)(C:af)(c d:Int):aH:=bj 29 [(0,aR 1000000000),(3,aI.aJ (bq.one (aG 6 5 C))),(4,aZ b),(5,aZ a)] [(1000000000,[.dg 1000000100 1 A,aw c,aw d])]
theorem alr(h:ad [.w A p f g,.k A 138 a0 b4 p f 6 g,.b (decide (e<g)) true,.w A i j d,.k A 138 p f i j 2 d,.v (o+d),.r 130 [ae (o+d),ae 0,ae 2] [ae a],.w A k l b,.w A m n c,.k A 138 i j k l 12 b,.k A 138 k l m n 40 c,.g C [(bi 0 a 0 b c)] 40,.h [(bi 0 a 0 b c)],.u e]):
 a1 (ar f119 0) (zE A e o C a0 b4) .normal (zE A (e+1) a (C++[(bi 0 a 0 b c)]) m n):=
 h.aW [5,0,4,3] [1000000000]
def J3(A C:af)(a b:Int):aH:=bj 29 [(0,aR 1000000000),(3,aI.aJ (bq.one (aG 6 5 C)))] [(1000000000,[.dg 1000000100 1 A,aw a,aw b])]
theorem als(h:ad [.w A c a b,.k A 138 e f c a 6 b,.b (decide (d<b)) false]):
 a1 (ar f119 0) (zE A d g C e f) (.exit 0) (J3 A C c a):=
 h.aW [3,0] [1000000000]
theorem alu(h:ad [.l [] [5,0,4,3] [1000000000] (ar f119 0) (zE A 0 0 [] a b) (.exit 0) (J3 A C c d)]):
 b3 119 [aM.cur [D.J 1 A,I a,I b] [D.J 1 A,I c,I d]] (aS.vals [a7 5 C]):=
 h.b5
def J4(A:af)(a c d b:Int):aH:=bj 27 [(0,aR 1000000000),(2,aR 2),(3,aR 3),(4,aR 1000000000),(5,.aJ (.one (.J (.own 5) 1 [[I 1],[I 1],[I 1],[I 2],[I 3],[I 3],[I 3],[I 4],[I 4],[I 5],[I 6],[I 6],[I 7]]))),(6,aZ a),(7,aR 1000000000),(8,aZ b),(9,aI.aJ (bq.agg [aw a,aw b,aw 0])),(10,aR 3),(11,aZ a),(12,.aJ (.one (.bc (a==4)))),(13,.aJ (.one (.v (Value.bool true)))),(14,.aJ (.one (.v (Value.tuple #[])))),(15,.aJ (.one (.v (Value.tuple #[])))),(16,.aJ (.one (.v (Value.tuple #[])))),(17,.aJ (.one (.v (Value.bool true))))] [(3,[aw a,aw b,aw 0]),(2,[aw 0,aw 0,aw 0]),(1000000000,[.dg 1000000100 1 A,aw c,aw d])]
def J5(P:Program)(W:Array Oper)(A:af)(e f g a b c d:Int):aH:=
 mP P W [[],[],[],[],[.dj [some [D.J 1 A,I b,I c],none] (aS.vals [ae d])],[],[],[],[]] (J4 A e f g a)
theorem alv{A:af}{g c d a e f b:Int}
  (h:cE [az .i64 (a+1),bT prog 138 [aM.cur [D.J 1 A,I c,I d] [D.J 1 A,I e,I f],aM.ro (ae 2)] (aS.vals [ae b]),az .i64 (a+1+b),(3:Int)≠0]):
  ee prog (cO f242 3) (J4 A g c d a) (J5 prog (cO f242 3) A g c d a e f b):=
 .nH [0,0,1,0,1,1,1,0,0] h
def LF(A:af)(a b c d e f g i:Int)(l:List O):List O:=.w A a b c::.w A d e f::.p (bT prog 140 [aM.cur [D.J 1 A,I g,I i] [D.J 1 A,I a,I b],aM.ro (.one (.J 1 [[I 1],[I 1],[I 1],[I 2],[I 3],[I 3],[I 3],[I 4],[I 4],[I 5],[I 6],[I 6],[I 7]]))] (aS.vals [ae c]))::.k A 138 a b d e 3 f::l
theorem alw(h:ad (LF A i j b c d a k l [.b (b==4) true,.a (.ig (J5 prog (cO f242 3) A b c d a e f g)),.p (ee prog (cO f242 3) (J4 A b c d a) (J5 prog (cO f242 3) A b c d a e f g))])):
 b3 242 [aM.cur [D.J 1 A,I k,I l] [D.J 1 A,I e,I f]] (aS.vals [.agg [I b,I a,I ((a+1+g).tmod 3)]]):=
 h.b5
def J6(A:af)(a c d b:Int):aH:=bj 27 [(0,aR 1000000000),(2,aR 2),(3,aR 3),(4,aR 1000000000),(5,.aJ (.one (.J (.own 5) 1 [[I 1],[I 1],[I 1],[I 2],[I 3],[I 3],[I 3],[I 4],[I 4],[I 5],[I 6],[I 6],[I 7]]))),(6,aZ a),(7,aR 1000000000),(8,aZ b),(9,aI.aJ (bq.agg [aw a,aw b,aw 0])),(10,aR 3),(11,aZ a),(12,.aJ (.one (.bc (a==4)))),(13,.aJ (.one (.v (Value.bool false)))),(14,aR 3),(15,aZ a),(16,.aJ (.one (.bc (a==5)))),(17,.aJ (.one (.bc (a==5))))] [(3,[aw a,aw b,aw 0]),(2,[aw 0,aw 0,aw 0]),(1000000000,[.dg 1000000100 1 A,aw c,aw d])]
def J7(P:Program)(W:Array Oper)(A:af)(e f g a b c d:Int):aH:=
 mP P W [[],[],[],[],[.dj [some [D.J 1 A,I b,I c],none] (aS.vals [ae d])],[],[],[],[]] (J6 A e f g a)
theorem akV{A:af}{g c d a e f b:Int}
  (h:cE [az .i64 (a+1),bT prog 138 [aM.cur [D.J 1 A,I c,I d] [D.J 1 A,I e,I f],aM.ro (ae 2)] (aS.vals [ae b]),az .i64 (a+1+b),(3:Int)≠0]):
  ee prog (cO f242 3) (J6 A g c d a) (J7 prog (cO f242 3) A g c d a e f b):=
 .nH [0,0,1,0,1,1,1,0,0] h
theorem akW(h:ad (LF A i j a c d b k l [.b (a==4) false,.b (a==5) true,.a (.ig (J7 prog (cO f242 3) A a c d b e f g)),.p (ee prog (cO f242 3) (J6 A a c d b) (J7 prog (cO f242 3) A a c d b e f g))])):
 b3 242 [aM.cur [D.J 1 A,I k,I l] [D.J 1 A,I e,I f]] (aS.vals [.agg [I a,I b,I ((b+1+g).tmod 3)]]):=
 h.b5
theorem akX(h:ad (LF A c d a e f b g i [.b (a==4) false,.b (a==5) false])):
 b3 242 [aM.cur [D.J 1 A,I g,I i] [D.J 1 A,I e,I f]] (aS.vals [.agg [I a,I b,I 0]]):=
 h.b5
def Ao(A:af)(a b:Int)(C:af)(c d:Int):aH:=bj 22 [(0,aR 1000000000),(1,aZ a),(5,aI.aJ (bq.one (aG 7 3 C))),(6,aZ b)] [(1000000000,[.dg 1000000100 1 A,aw c,aw d])]
theorem akY(h:ad [.w A k f g,.u d,.k A 138 l m k f (d+1) g,.b (decide (e<g)) true,.a (.dj [some [D.J 1 A,I i,I j]] (aS.vals [.agg [I a,I b,I c]])),.p (bT prog 242 [aM.cur [D.J 1 A,I k,I f] [D.J 1 A,I i,I j]] (aS.vals [.agg [I a,I b,I c]])),.g C [[I a,I b,I c]] 24,.h [[I a,I b,I c]],.u e]):
 a1 (ar f120 0) (Ao A d e C l m) .normal (Ao A d (e+1) (C++[[I a,I b,I c]]) i j):=
 h.aW [6,0,1,5] [1000000000]
def J8(A C:af)(a b:Int):aH:=bj 22 [(0,aR 1000000000),(5,aI.aJ (bq.one (aG 7 3 C)))] [(1000000000,[.dg 1000000100 1 A,aw a,aw b])]
theorem akZ(h:ad [.w A d a b,.u c,.k A 138 f g d a (c+1) b,.b (decide (e<b)) false]):
 a1 (ar f120 0) (Ao A c e C f g) (.exit 0) (J8 A C d a):=
 h.aW [5,0] [1000000000]
theorem ak0(h:ad [.l [] [6,0,1,5] [1000000000] (ar f120 0) (Ao A c 0 [] a b) (.exit 0) (J8 A C d e)]):
 b3 120 [aM.cur [D.J 1 A,I a,I b] [D.J 1 A,I d,I e],aM.ro (ae c)] (aS.vals [a7 3 C]):=
 h.b5
