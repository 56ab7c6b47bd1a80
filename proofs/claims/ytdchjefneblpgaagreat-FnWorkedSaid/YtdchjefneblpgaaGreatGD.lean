import Derived.Test.YtdchjefneblpgaaGreatGE
namespace Go.Proofs.YtdchjefneblpgaaGreat
open Go.Sx Go.RowKit Go.Proofs.Tryz
variable {a b c d e f g i j k l m n o p a0 cg dx d0 bE f0 i0 : Int} {A C E F : ae} {q : Bool}
def xu(A:ae)(a b:Int):aI:=bg 32 [(0,.aK (.one (.de 1000000100 1 A))),(3,aY b),(4,aY a)] []
theorem ak2(h:ad [.f A a true,.b (decide (a<4000)) true,.v (b*131),.x A a [D.v (Value.int IntKind.u8 c)],.a (.nJ (aY d)),.v c,.v (b*131+c),.v (b*131+c+7),.p (lv prog BinOp.and 3 (Operand.tmp 26) (Operand.const (Value.int IntKind.i64 1073741823)) (Value.int IntKind.i64 (b*131+c+7)) (Value.int IntKind.i64 1073741823) (Value.int IntKind.i64 d)),.u a]):
a7 (aq f117 0) (xu A a b) .normal (xu A (a+1) d):=
h.aX [4,0,3] []
def Dd(A:ae)(a:Int):aI:=bg 32 [(0,.aK (.one (.de 1000000100 1 A))),(3,aY a)] []
theorem ak3(h:ad [.f A a true,.b (decide (a<4000)) false]):
a7 (aq f117 0) (xu A a b) (.exit 0) (Dd A b):=
h.aX [0,3] []
theorem ak4(h:ad [.f A a false]):
a7 (aq f117 0) (xu A a b) (.exit 0) (Dd A b):=
h.aX [0,3] []
theorem ak5(h:ad [.v (94701+(A.length:Int)),.l [] [4,0,3] [] (aq f117 0) (xu A 0 (94701+(A.length:Int))) (.exit 0) (Dd A a)]):
b3 117 [aM.ro (aP 1 A)] (aT.iN [some 0,none,none] [D.J 1 A,I 0,I a]):=
h.b6
def Ux(a b c d e:Int)(l:List O):List O:=.a .wr::.a .wr::.a (.nJ (aY a))::.a (.nJ (aY b))::.a (.nJ (aY c))::.a (.nJ (aY d))::.p (lv prog BinOp.shr 3 (Operand.tmp 16) (Operand.const (Value.int IntKind.u64 33)) (Value.int IntKind.i64 (IntKind.i64.wrap (IntKind.i64.wrap (e*6364136223846793005)+1442695040888963407))) (Value.int IntKind.u64 33) (Value.int IntKind.i64 a))::.p (lv prog BinOp.shr 3 (Operand.tmp 21) (Operand.const (Value.int IntKind.u64 45)) (Value.int IntKind.i64 (IntKind.i64.wrap (IntKind.i64.wrap (e*6364136223846793005)+1442695040888963407))) (Value.int IntKind.u64 45) (Value.int IntKind.i64 b))::.p (lv prog BinOp.xor 3 (Operand.tmp 17) (Operand.tmp 22) (Value.int IntKind.i64 a) (Value.int IntKind.i64 b) (Value.int IntKind.i64 c))::.p (lv prog BinOp.and 3 (Operand.tmp 23) (Operand.const (Value.int IntKind.i64 255)) (Value.int IntKind.i64 c) (Value.int IntKind.i64 255) (Value.int IntKind.i64 d))::l
theorem ak6(h:ad (Ux c d e f b [.i A a [D.v (Value.int IntKind.u8 i)],.a .wr,.a .wr,.a (.nJ (aY g)),.p (lv prog BinOp.and 3 (Operand.tmp 47) (Operand.const (Value.int IntKind.i64 255)) (Value.int IntKind.i64 (IntKind.i64.wrap (f+IntKind.i64.wrap i))) (Value.int IntKind.i64 255) (Value.int IntKind.i64 g)),.u a])):
b3 253 [aM.cur [D.J 1 A,I a,I b] [D.J 1 A,I (a+1),I (IntKind.i64.wrap (IntKind.i64.wrap (b*6364136223846793005)+1442695040888963407))]] (aT.vals [af g]):=
h.b6
theorem akx(h:ad (Ux c d e f a [.f A b false])):
b3 253 [aM.cur [D.J 1 A,I b,I a] [D.J 1 A,I b,I (IntKind.i64.wrap (IntKind.i64.wrap (a*6364136223846793005)+1442695040888963407))]] (aT.vals [af f]):=
h.b6
theorem aky(h:ad [.b (decide (a<=0)) false,.b (decide (a<=256)) true,.a (.dr [some [D.J 1 A,I b,I c]] (aT.vals [af d])),.p (bY prog 253 [aM.cur [D.J 1 A,I e,I f] [D.J 1 A,I b,I c]] (aT.vals [af d])),.p (a≠0)]):
b3 138 [aM.cur [D.J 1 A,I e,I f] [D.J 1 A,I b,I c],aM.ro (af a)] (aT.vals [af (d.tmod a)]):=
h.b6
theorem akz(h:ad [.b (decide (d<=0)) false,.b (decide (d<=256)) false,.a (.dr [some [D.J 1 A,I l,I m]] (aT.vals [af b])),.a (.dr [some [D.J 1 A,I n,I f]] (aT.vals [af a])),.a (.dr [some [D.J 1 A,I g,I i]] (aT.vals [af c])),.a (.dr [some [D.J 1 A,I j,I k]] (aT.vals [af e])),.p (bY prog 253 [aM.cur [D.J 1 A,I o,I p] [D.J 1 A,I l,I m]] (aT.vals [af b])),.p (bY prog 253 [aM.cur [D.J 1 A,I l,I m] [D.J 1 A,I n,I f]] (aT.vals [af a])),.p (bY prog 253 [aM.cur [D.J 1 A,I n,I f] [D.J 1 A,I g,I i]] (aT.vals [af c])),.p (bY prog 253 [aM.cur [D.J 1 A,I g,I i] [D.J 1 A,I j,I k]] (aT.vals [af e])),.v (b*16777216),.v (a*65536),.v (b*16777216+a*65536),.v (c*256),.v (b*16777216+a*65536+c*256),.v (b*16777216+a*65536+c*256+e),.p (d≠0)]):
b3 138 [aM.cur [D.J 1 A,I o,I p] [D.J 1 A,I j,I k],aM.ro (af d)] (aT.vals [af ((b*16777216+a*65536+c*256+e).tmod d)]):=
h.b6
theorem akA(h:ad [.w A a b c,.k A 138 d e a b f c]):
b3 136 [aM.cur [D.J 1 A,I d,I e] [D.J 1 A,I a,I b],aM.ro (af f)] (aT.vals [ak (c==0)]):=
h.b6
theorem akB(h:ad [.w A a b c,.k A 138 d e a b (C.length:Int) c,.x C c [I f]]):
b3 140 [aM.cur [D.J 1 A,I d,I e] [D.J 1 A,I a,I b],aM.ro (aP 1 C)] (aT.vals [af f]):=
h.b6
theorem akC(h:ad [.w A b c d,.w A e f a,.k A 138 g i b c 4 d,.k A 138 b c e f 5 a]):
b3 325 [aM.cur [D.J 1 A,I g,I i] [D.J 1 A,I e,I f]] (aT.vals [.agg [I d,I a]]):=
h.b6
def LN(A:ae)(a b c d e f g i j:Int)(l:List O):List O:=.a (.dr [some [D.J 1 A,I a,I b]] (aT.vals [.agg [I c,I d]]))::.w A e f g::.p (bY prog 325 [aM.cur [D.J 1 A,I i,I j] [D.J 1 A,I a,I b]] (aT.vals [.agg [I c,I d]]))::.k A 138 a b e f 10 g::l
theorem akD(h:ad (LN A f g m i j a b k l [.b (b==0) true,.w A c d e,.p (bY prog 140 [aM.cur [D.J 1 A,I j,I a] [D.J 1 A,I c,I d],aM.ro (.one (.J 1 [[I (-1)],[I 3],[I 4],[I 9223372036854775807]]))] (aT.vals [af e]))])):
b3 272 [aM.cur [D.J 1 A,I k,I l] [D.J 1 A,I c,I d]] (aT.vals [.agg [I e,I i]]):=
h.b6
theorem akE(h:ad (LN A f g i m j b a k l [.b (a==0) false,.b (a==1) true,.w A c d e,.p (bY prog 140 [aM.cur [D.J 1 A,I j,I b] [D.J 1 A,I c,I d],aM.ro (.one (.J 1 [[I (-1)],[I 5],[I 6],[I 7],[I (-9223372036854775808)]]))] (aT.vals [af e]))])):
b3 272 [aM.cur [D.J 1 A,I k,I l] [D.J 1 A,I c,I d]] (aT.vals [.agg [I i,I e]]):=
h.b6
theorem akF(h:ad (LN A c d e f g b a i j [.b (a==0) false,.b (a==1) false])):
b3 272 [aM.cur [D.J 1 A,I i,I j] [D.J 1 A,I g,I b]] (aT.vals [.agg [I e,I f]]):=
h.b6
theorem akG(h:ad [.w A j k l,.a (.dr [some [D.J 1 A,I m,I n]] (aT.vals [.agg [I a,I b]])),.w A c d e,.w A f g i,.k A 138 o p j k 5 l,.p (bY prog 325 [aM.cur [D.J 1 A,I j,I k] [D.J 1 A,I m,I n]] (aT.vals [.agg [I a,I b]])),.k A 138 m n c d 12 e,.k A 138 c d f g 40 i]):
b3 271 [aM.cur [D.J 1 A,I o,I p] [D.J 1 A,I f,I g]] (aT.vals [.agg (bn l a b e i)]):=
h.b6
def A2(A:ae)(a b c d e f g i j k m n:Int)(l:List O):List O:=.a (.dr [some [D.J 1 A,I a,I b]] (aT.vals [.agg (bn c d e f g)]))::.w A i j k::.p (bY prog 271 [aM.cur [D.J 1 A,I m,I n] [D.J 1 A,I a,I b]] (aT.vals [.agg (bn c d e f g)]))::.k A 138 a b i j 12 k::l
theorem al9(h:ad (A2 A i j p k l m a b c d n o [.b (d==0) true,.w A e f g,.p (bY prog 140 [aM.cur [D.J 1 A,I b,I c] [D.J 1 A,I e,I f],aM.ro (.one (.J 1 [[I (-1)],[I 7],[I 8]]))] (aT.vals [af g]))])):
b3 178 [aM.cur [D.J 1 A,I n,I o] [D.J 1 A,I e,I f]] (aT.vals [.agg (bn g k l m a)]):=
h.b6
theorem ama(h:ad (A2 A j k l p a0 m b c d a n o [.b (a==0) false,.b (a==1) true,.a (.dr [some [D.J 1 A,I e,I f]] (aT.vals [.agg [I g,I i]])),.p (bY prog 272 [aM.cur [D.J 1 A,I c,I d] [D.J 1 A,I e,I f]] (aT.vals [.agg [I g,I i]]))])):
b3 178 [aM.cur [D.J 1 A,I n,I o] [D.J 1 A,I e,I f]] (aT.vals [.agg (bn l g i m b)]):=
h.b6
theorem amb(h:ad (A2 A i j k l m p b c d a n o [.b (a==0) false,.b (a==1) false,.b (a==2) true,.w A e f g,.p (bY prog 140 [aM.cur [D.J 1 A,I c,I d] [D.J 1 A,I e,I f],aM.ro (.one (.J 1 [[I (-1)],[I 99],[I 100],[I (-9223372036854775808)]]))] (aT.vals [af g]))])):
b3 178 [aM.cur [D.J 1 A,I n,I o] [D.J 1 A,I e,I f]] (aT.vals [.agg (bn k l m g b)]):=
h.b6
theorem amc(h:ad (A2 A g i j k l m o b c a n p [.b (a==0) false,.b (a==1) false,.b (a==2) false,.b (a==3) true,.w A d e f,.p (bY prog 140 [aM.cur [D.J 1 A,I b,I c] [D.J 1 A,I d,I e],aM.ro (.one (.J 1 [[I (-1)],[I 999],[I 1000],[I 9223372036854775807]]))] (aT.vals [af f]))])):
b3 178 [aM.cur [D.J 1 A,I n,I p] [D.J 1 A,I d,I e]] (aT.vals [.agg (bn j k l m f)]):=
h.b6
theorem amd(h:ad (A2 A e f g i j k b c d a l m [.b (a==0) false,.b (a==1) false,.b (a==2) false,.b (a==3) false])):
b3 178 [aM.cur [D.J 1 A,I l,I m] [D.J 1 A,I c,I d]] (aT.vals [.agg (bn g i j k b)]):=
h.b6
def Uy(A:ae)(a b c d e f g i:Int)(q:Bool)(j k:Int)(l:List O):List O:=.w A a b c::.w A d e f::.y A g i q::.k A 138 j k a b 3 c::.v (1+c)::.k A 138 a b d e 3 f::.v (1+f)::.m A 136 d e g i 3 q::l
def A0(A:ae)(a b c d e f g i:Int)(q:Bool)(j k m n o p eO gV c1 d1 e1 f1 g1 i1:Int)(l:List O):List O:=Uy A a b c d e f g i q j k (.b q true::.w A m n o::.w A p eO gV::.w A c1 d1 e1::.w A f1 g1 i1::.k A 138 g i m n 3 o::.v (1+o)::.k A 138 m n p eO 4 gV::.k A 138 p eO c1 d1 3 e1::.v (1+e1)::.k A 138 c1 d1 f1 g1 6 i1::l)
theorem ame{A:ae}{f0 i0 cg dx e d0 bE c f g:Int}{q:Bool}{i j a k l b m n d o p a0:Int}{d31 d32 d33 d34:D}(h:ad (A0 A cg dx e d0 bE c f g q f0 i0 i j a k l b m n d o p a0 [.b (a0==0) true,.p ((0:Int)<=3),.p (3<(↑[[I 1,I 0,I 0,D.J 1 [[I 1]]],[I 6,I 0,I 0,D.J 1 [[I 2],[I 5]]],[I 4,I (1+a),I 0,D.J 1 [[I 3]]],[I 2,I b,I 0,D.J 1 [[I 4]]],[I 7,I 0,I 0,D.J 1 [[I 1]]],[I 8,I 0,I 0,D.v (aO)]].length:Int)),.e [[I 1,I 0,I 0,D.J 1 [[I 1]]],[I 6,I 0,I 0,D.J 1 [[I 2],[I 5]]],[I 4,I (1+a),I 0,D.J 1 [[I 3]]],[I 2,I b,I 0,D.J 1 [[I 4]]],[I 7,I 0,I 0,D.J 1 [[I 1]]],[I 8,I 0,I 0,D.v (aO)]] 3 [d31,d32,d33,d34]])):
b3 118 [aM.cur [D.J 1 A,I f0,I i0] [D.J 1 A,I o,I p]] (aT.vals [.agg (bq ([[I 1,I 0,I 0,D.J 1 [[I 1]]],[I 6,I 0,I 0,D.J 1 [[I 2],[I 5]]],[I 4,I (1+a),I 0,D.J 1 [[I 3]]],[I 2,I b,I 0,D.J 1 [[I 4]]],[I 7,I 0,I 0,D.J 1 [[I 1]]],[I 8,I 0,I 0,D.v (aO)]].set 3 [I 3,I (1+d),I 0,D.J 1 [[I 4]]]) (1+e) (1+c))]):=
h.b6
theorem amf{A:ae}{f0 i0 cg dx e d0 bE c f g:Int}{q:Bool}{i j a k l b m n o p a0 d:Int}{d31 d32 d33 d34:D}(h:ad (A0 A cg dx e d0 bE c f g q f0 i0 i j a k l b m n o p a0 d [.b (d==0) false,.b (d==1) true,.p ((0:Int)<=4),.p (4<(↑[[I 1,I 0,I 0,D.J 1 [[I 1]]],[I 6,I 0,I 0,D.J 1 [[I 2],[I 5]]],[I 4,I (1+a),I 0,D.J 1 [[I 3]]],[I 2,I b,I 0,D.J 1 [[I 4]]],[I 7,I 0,I 0,D.J 1 [[I 1]]],[I 8,I 0,I 0,D.v (aO)]].length:Int)),.e [[I 1,I 0,I 0,D.J 1 [[I 1]]],[I 6,I 0,I 0,D.J 1 [[I 2],[I 5]]],[I 4,I (1+a),I 0,D.J 1 [[I 3]]],[I 2,I b,I 0,D.J 1 [[I 4]]],[I 7,I 0,I 0,D.J 1 [[I 1]]],[I 8,I 0,I 0,D.v (aO)]] 4 [d31,d32,d33,d34]])):
b3 118 [aM.cur [D.J 1 A,I f0,I i0] [D.J 1 A,I p,I a0]] (aT.vals [.agg (bq ([[I 1,I 0,I 0,D.J 1 [[I 1]]],[I 6,I 0,I 0,D.J 1 [[I 2],[I 5]]],[I 4,I (1+a),I 0,D.J 1 [[I 3]]],[I 2,I b,I 0,D.J 1 [[I 4]]],[I 7,I 0,I 0,D.J 1 [[I 1]]],[I 8,I 0,I 0,D.v (aO)]].set 4 [I 8,I 0,I 0,D.v (aO)]) (1+e) (1+c))]):=
h.b6
theorem amg{A:ae}{f0 i0 cg dx e d0 bE d f g:Int}{q:Bool}{i j a k l b m n o p a0 c:Int}{d31 d32 d33 d34:D}(h:ad (A0 A cg dx e d0 bE d f g q f0 i0 i j a k l b m n o p a0 c [.b (c==0) false,.b (c==1) false,.b (c==2) true,.p ((0:Int)<=2),.p (2<(↑[[I 1,I 0,I 0,D.J 1 [[I 1]]],[I 6,I 0,I 0,D.J 1 [[I 2],[I 5]]],[I 4,I (1+a),I 0,D.J 1 [[I 3]]],[I 2,I b,I 0,D.J 1 [[I 4]]],[I 7,I 0,I 0,D.J 1 [[I 1]]],[I 8,I 0,I 0,D.v (aO)]].length:Int)),.e [[I 1,I 0,I 0,D.J 1 [[I 1]]],[I 6,I 0,I 0,D.J 1 [[I 2],[I 5]]],[I 4,I (1+a),I 0,D.J 1 [[I 3]]],[I 2,I b,I 0,D.J 1 [[I 4]]],[I 7,I 0,I 0,D.J 1 [[I 1]]],[I 8,I 0,I 0,D.v (aO)]] 2 [d31,d32,d33,d34]])):
b3 118 [aM.cur [D.J 1 A,I f0,I i0] [D.J 1 A,I p,I a0]] (aT.vals [.agg (bq ([[I 1,I 0,I 0,D.J 1 [[I 1]]],[I 6,I 0,I 0,D.J 1 [[I 2],[I 5]]],[I 4,I (1+a),I 0,D.J 1 [[I 3]]],[I 2,I b,I 0,D.J 1 [[I 4]]],[I 7,I 0,I 0,D.J 1 [[I 1]]],[I 8,I 0,I 0,D.v (aO)]].set 2 [d31,d32,d33,D.J 1 [[I 3],[I 4]]]) (1+e) (1+d))]):=
h.b6
theorem amh{A:ae}{f0 i0 cg dx e d0 bE d f g:Int}{q:Bool}{i j a k l b m n o p a0 c:Int}{d31 d32 d33 d34:D}(h:ad (A0 A cg dx e d0 bE d f g q f0 i0 i j a k l b m n o p a0 c [.b (c==0) false,.b (c==1) false,.b (c==2) false,.b (c==3) true,.a .wr,.p (([[I 1,I 0,I 0,D.J 1 [[I 1]]],[I 6,I 0,I 0,D.J 1 [[I 2],[I 5]]],[I 4,I (1+a),I 0,D.J 1 [[I 3]]],[I 2,I b,I 0,D.J 1 [[I 4]]],[I 7,I 0,I 0,D.J 1 [[I 1]]],[I 8,I 0,I 0,D.v (aO)]].length+[[I 8,I 0,I 0,D.v (aO)]].length)*48<=140737488355328),.p ([[I 1,I 0,I 0,D.J 1 [[I 1]]],[I 6,I 0,I 0,D.J 1 [[I 2],[I 5]]],[I 4,I (1+a),I 0,D.J 1 [[I 3]]],[I 2,I b,I 0,D.J 1 [[I 4]]],[I 7,I 0,I 0,D.J 1 [[I 1]]],[I 8,I 0,I 0,D.v (aO)]].length+[[I 8,I 0,I 0,D.v (aO)]].length<=9223372036854775807),.p ((0:Int)<=0),.p (0<(↑([[I 1,I 0,I 0,D.J 1 [[I 1]]],[I 6,I 0,I 0,D.J 1 [[I 2],[I 5]]],[I 4,I (1+a),I 0,D.J 1 [[I 3]]],[I 2,I b,I 0,D.J 1 [[I 4]]],[I 7,I 0,I 0,D.J 1 [[I 1]]],[I 8,I 0,I 0,D.v (aO)]]++[[I 8,I 0,I 0,D.v (aO)]]).length:Int)),.e ([[I 1,I 0,I 0,D.J 1 [[I 1]]],[I 6,I 0,I 0,D.J 1 [[I 2],[I 5]]],[I 4,I (1+a),I 0,D.J 1 [[I 3]]],[I 2,I b,I 0,D.J 1 [[I 4]]],[I 7,I 0,I 0,D.J 1 [[I 1]]],[I 8,I 0,I 0,D.v (aO)]]++[[I 8,I 0,I 0,D.v (aO)]]) 0 [d31,d32,d33,d34]])):
b3 118 [aM.cur [D.J 1 A,I f0,I i0] [D.J 1 A,I p,I a0]] (aT.vals [.agg (bq (([[I 1,I 0,I 0,D.J 1 [[I 1]]],[I 6,I 0,I 0,D.J 1 [[I 2],[I 5]]],[I 4,I (1+a),I 0,D.J 1 [[I 3]]],[I 2,I b,I 0,D.J 1 [[I 4]]],[I 7,I 0,I 0,D.J 1 [[I 1]]],[I 8,I 0,I 0,D.v (aO)]]++[[I 8,I 0,I 0,D.v (aO)]]).set 0 [d31,d32,d33,D.J 1 [[I 1],[I 6]]]) (1+e) (1+d))]):=
h.b6
theorem ami(h:ad (A0 A cg dx d d0 bE b e f q f0 i0 g i c j k l m n o p a0 a [.b (a==0) false,.b (a==1) false,.b (a==2) false,.b (a==3) false])):
b3 118 [aM.cur [D.J 1 A,I f0,I i0] [D.J 1 A,I p,I a0]] (aT.vals [.agg [D.J 4 [[I 1,I 0,I 0,D.J 1 [[I 1]]],[I 6,I 0,I 0,D.J 1 [[I 2],[I 5]]],[I 4,I (1+c),I 0,D.J 1 [[I 3]]],[I 2,I l,I 0,D.J 1 [[I 4]]],[I 7,I 0,I 0,D.J 1 [[I 1]]],[I 8,I 0,I 0,D.v (aO)]],I (1+d),I (1+b)]]):=
h.b6
def A1(A:ae)(a b c d e f g i:Int)(q:Bool)(j k m n o p eO gV c1 d1 e1 f1 g1 i1:Int)(l:List O):List O:=Uy A a b c d e f g i q j k (.b q false::.w A m n o::.w A p eO gV::.w A c1 d1 e1::.w A f1 g1 i1::.k A 138 g i m n 3 o::.v (1+o)::.k A 138 m n p eO 4 gV::.k A 138 p eO c1 d1 3 e1::.v (1+e1)::.k A 138 c1 d1 f1 g1 6 i1::l)
theorem amj{A:ae}{f0 i0 cg dx e d0 bE c f g:Int}{q:Bool}{i j a k l b m n d o p a0:Int}{d31 d32 d33 d34:D}(h:ad (A1 A cg dx e d0 bE c f g q f0 i0 i j a k l b m n d o p a0 [.b (a0==0) true,.p ((0:Int)<=3),.p (3<(↑[[I 1,I 0,I 0,D.J 1 [[I 1]]],[I 5,I 0,I 0,D.J 1 [[I 2],[I 5]]],[I 4,I (1+a),I 0,D.J 1 [[I 3]]],[I 2,I b,I 0,D.J 1 [[I 4]]],[I 7,I 0,I 0,D.J 1 [[I 1]]],[I 8,I 0,I 0,D.v (aO)]].length:Int)),.e [[I 1,I 0,I 0,D.J 1 [[I 1]]],[I 5,I 0,I 0,D.J 1 [[I 2],[I 5]]],[I 4,I (1+a),I 0,D.J 1 [[I 3]]],[I 2,I b,I 0,D.J 1 [[I 4]]],[I 7,I 0,I 0,D.J 1 [[I 1]]],[I 8,I 0,I 0,D.v (aO)]] 3 [d31,d32,d33,d34]])):
b3 118 [aM.cur [D.J 1 A,I f0,I i0] [D.J 1 A,I o,I p]] (aT.vals [.agg (bq ([[I 1,I 0,I 0,D.J 1 [[I 1]]],[I 5,I 0,I 0,D.J 1 [[I 2],[I 5]]],[I 4,I (1+a),I 0,D.J 1 [[I 3]]],[I 2,I b,I 0,D.J 1 [[I 4]]],[I 7,I 0,I 0,D.J 1 [[I 1]]],[I 8,I 0,I 0,D.v (aO)]].set 3 [I 3,I (1+d),I 0,D.J 1 [[I 4]]]) (1+e) (1+c))]):=
h.b6
theorem amk{A:ae}{f0 i0 cg dx e d0 bE c f g:Int}{q:Bool}{i j a k l b m n o p a0 d:Int}{d31 d32 d33 d34:D}(h:ad (A1 A cg dx e d0 bE c f g q f0 i0 i j a k l b m n o p a0 d [.b (d==0) false,.b (d==1) true,.p ((0:Int)<=4),.p (4<(↑[[I 1,I 0,I 0,D.J 1 [[I 1]]],[I 5,I 0,I 0,D.J 1 [[I 2],[I 5]]],[I 4,I (1+a),I 0,D.J 1 [[I 3]]],[I 2,I b,I 0,D.J 1 [[I 4]]],[I 7,I 0,I 0,D.J 1 [[I 1]]],[I 8,I 0,I 0,D.v (aO)]].length:Int)),.e [[I 1,I 0,I 0,D.J 1 [[I 1]]],[I 5,I 0,I 0,D.J 1 [[I 2],[I 5]]],[I 4,I (1+a),I 0,D.J 1 [[I 3]]],[I 2,I b,I 0,D.J 1 [[I 4]]],[I 7,I 0,I 0,D.J 1 [[I 1]]],[I 8,I 0,I 0,D.v (aO)]] 4 [d31,d32,d33,d34]])):
b3 118 [aM.cur [D.J 1 A,I f0,I i0] [D.J 1 A,I p,I a0]] (aT.vals [.agg (bq ([[I 1,I 0,I 0,D.J 1 [[I 1]]],[I 5,I 0,I 0,D.J 1 [[I 2],[I 5]]],[I 4,I (1+a),I 0,D.J 1 [[I 3]]],[I 2,I b,I 0,D.J 1 [[I 4]]],[I 7,I 0,I 0,D.J 1 [[I 1]]],[I 8,I 0,I 0,D.v (aO)]].set 4 [I 8,I 0,I 0,D.v (aO)]) (1+e) (1+c))]):=
h.b6
theorem aml{A:ae}{f0 i0 cg dx e d0 bE d f g:Int}{q:Bool}{i j a k l b m n o p a0 c:Int}{d31 d32 d33 d34:D}(h:ad (A1 A cg dx e d0 bE d f g q f0 i0 i j a k l b m n o p a0 c [.b (c==0) false,.b (c==1) false,.b (c==2) true,.p ((0:Int)<=2),.p (2<(↑[[I 1,I 0,I 0,D.J 1 [[I 1]]],[I 5,I 0,I 0,D.J 1 [[I 2],[I 5]]],[I 4,I (1+a),I 0,D.J 1 [[I 3]]],[I 2,I b,I 0,D.J 1 [[I 4]]],[I 7,I 0,I 0,D.J 1 [[I 1]]],[I 8,I 0,I 0,D.v (aO)]].length:Int)),.e [[I 1,I 0,I 0,D.J 1 [[I 1]]],[I 5,I 0,I 0,D.J 1 [[I 2],[I 5]]],[I 4,I (1+a),I 0,D.J 1 [[I 3]]],[I 2,I b,I 0,D.J 1 [[I 4]]],[I 7,I 0,I 0,D.J 1 [[I 1]]],[I 8,I 0,I 0,D.v (aO)]] 2 [d31,d32,d33,d34]])):
b3 118 [aM.cur [D.J 1 A,I f0,I i0] [D.J 1 A,I p,I a0]] (aT.vals [.agg (bq ([[I 1,I 0,I 0,D.J 1 [[I 1]]],[I 5,I 0,I 0,D.J 1 [[I 2],[I 5]]],[I 4,I (1+a),I 0,D.J 1 [[I 3]]],[I 2,I b,I 0,D.J 1 [[I 4]]],[I 7,I 0,I 0,D.J 1 [[I 1]]],[I 8,I 0,I 0,D.v (aO)]].set 2 [d31,d32,d33,D.J 1 [[I 3],[I 4]]]) (1+e) (1+d))]):=
h.b6
theorem amm{A:ae}{f0 i0 cg dx e d0 bE d f g:Int}{q:Bool}{i j a k l b m n o p a0 c:Int}{d31 d32 d33 d34:D}(h:ad (A1 A cg dx e d0 bE d f g q f0 i0 i j a k l b m n o p a0 c [.b (c==0) false,.b (c==1) false,.b (c==2) false,.b (c==3) true,.a .wr,.p (([[I 1,I 0,I 0,D.J 1 [[I 1]]],[I 5,I 0,I 0,D.J 1 [[I 2],[I 5]]],[I 4,I (1+a),I 0,D.J 1 [[I 3]]],[I 2,I b,I 0,D.J 1 [[I 4]]],[I 7,I 0,I 0,D.J 1 [[I 1]]],[I 8,I 0,I 0,D.v (aO)]].length+[[I 8,I 0,I 0,D.v (aO)]].length)*48<=140737488355328),.p ([[I 1,I 0,I 0,D.J 1 [[I 1]]],[I 5,I 0,I 0,D.J 1 [[I 2],[I 5]]],[I 4,I (1+a),I 0,D.J 1 [[I 3]]],[I 2,I b,I 0,D.J 1 [[I 4]]],[I 7,I 0,I 0,D.J 1 [[I 1]]],[I 8,I 0,I 0,D.v (aO)]].length+[[I 8,I 0,I 0,D.v (aO)]].length<=9223372036854775807),.p ((0:Int)<=0),.p (0<(↑([[I 1,I 0,I 0,D.J 1 [[I 1]]],[I 5,I 0,I 0,D.J 1 [[I 2],[I 5]]],[I 4,I (1+a),I 0,D.J 1 [[I 3]]],[I 2,I b,I 0,D.J 1 [[I 4]]],[I 7,I 0,I 0,D.J 1 [[I 1]]],[I 8,I 0,I 0,D.v (aO)]]++[[I 8,I 0,I 0,D.v (aO)]]).length:Int)),.e ([[I 1,I 0,I 0,D.J 1 [[I 1]]],[I 5,I 0,I 0,D.J 1 [[I 2],[I 5]]],[I 4,I (1+a),I 0,D.J 1 [[I 3]]],[I 2,I b,I 0,D.J 1 [[I 4]]],[I 7,I 0,I 0,D.J 1 [[I 1]]],[I 8,I 0,I 0,D.v (aO)]]++[[I 8,I 0,I 0,D.v (aO)]]) 0 [d31,d32,d33,d34]])):
b3 118 [aM.cur [D.J 1 A,I f0,I i0] [D.J 1 A,I p,I a0]] (aT.vals [.agg (bq (([[I 1,I 0,I 0,D.J 1 [[I 1]]],[I 5,I 0,I 0,D.J 1 [[I 2],[I 5]]],[I 4,I (1+a),I 0,D.J 1 [[I 3]]],[I 2,I b,I 0,D.J 1 [[I 4]]],[I 7,I 0,I 0,D.J 1 [[I 1]]],[I 8,I 0,I 0,D.v (aO)]]++[[I 8,I 0,I 0,D.v (aO)]]).set 0 [d31,d32,d33,D.J 1 [[I 1],[I 6]]]) (1+e) (1+d))]):=
h.b6
theorem amn(h:ad (A1 A cg dx d d0 bE b e f q f0 i0 g i c j k l m n o p a0 a [.b (a==0) false,.b (a==1) false,.b (a==2) false,.b (a==3) false])):
b3 118 [aM.cur [D.J 1 A,I f0,I i0] [D.J 1 A,I p,I a0]] (aT.vals [.agg [D.J 4 [[I 1,I 0,I 0,D.J 1 [[I 1]]],[I 5,I 0,I 0,D.J 1 [[I 2],[I 5]]],[I 4,I (1+c),I 0,D.J 1 [[I 3]]],[I 2,I l,I 0,D.J 1 [[I 4]]],[I 7,I 0,I 0,D.J 1 [[I 1]]],[I 8,I 0,I 0,D.v (aO)]],I (1+d),I (1+b)]]):=
h.b6
def Qd(C A:ae)(b c d e f a:Int):aI:=bg 75 [(0,aQ 1000000000),(2,aQ 2),(3,aQ 3),(4,aY d),(5,aQ 1000000000),(6,aJ.aK (bu.agg [aC 70000 4 A,ax b,ax c])),(7,aQ 1000000000),(8,aQ 3),(9,aJ.aK (bu.one (aC 70000 4 A))),(10,aY (A.length:Int)),(11,aY d),(12,aQ 1000000000),(13,aY a),(14,.aK (.one (.ba (a==0)))),(15,.aK (.one (.ba (a==0))))] [(3,[aC 70000 4 A,ax b,ax c]),(2,[.v (aO),ax 0,ax 0]),(1000000000,[.de 1000000100 1 C,ax e,ax f])]
def Jb(E A:ae)(f g a e i j c d b:Int)(C:ae):aI:=bg 75 [(0,aQ 1000000000),(2,aQ 2),(3,aQ 3),(4,aY a),(5,aQ 1000000000),(6,aJ.aK (bu.agg [aC 70000 4 (A.set a.toNat (bj c d b C)),ax f,ax g])),(7,aQ 1000000000),(8,aQ 3),(9,aJ.aK (bu.one (aC 70000 4 (A.set a.toNat (bj c d b C))))),(10,aY (A.length:Int)),(11,aY a),(12,aQ 1000000000),(13,aY e),(14,.aK (.one (.ba (e==0)))),(15,.aK (.one (.ba (e==0)))),(16,aQ 3),(17,aJ.aK (bu.one (aC 70000 4 (A.set a.toNat (bj c d b C))))),(18,aY a),(19,aQ 1000000000),(20,aJ.aK (bu.agg [ax c,ax d,ax b,.cq])),(21,.aK (.one (.cE (Tag.own 70000) 4 (A.set a.toNat (bj c d b C)) a.toNat 0)))] [(3,[aC 70000 4 (A.set a.toNat (bj c d b C)),ax f,ax g]),(2,[.v (aO),ax 0,ax 0]),(1000000000,[.de 1000000100 1 E,ax i,ax j])]
theorem amo{A C:ae}{n o a g i m b c d e f:Int}{E:ae}{j k l:Int}{F:ae}
  (h:cG [bY prog 252 [aM.cur [D.J 1 A,I g,I i] [D.J 1 A,I b,I c]] (aT.vals [.agg (bj d e f E)]),0<=a,a<(C.length:Int),C[a.toNat]?=some (bj j k l F)]):
  ei prog (cR f137 5) (Qd A C n o a g i m) (Jb A C n o a m b c d e f E):=
 .of [[],[],[],[],[.dr [some [D.J 1 A,I b,I c]] (aT.vals [.agg (bj d e f E)])],[],[.el (bj j k l F)]] [[],[],[],[],[bY prog 252 [aM.cur [D.J 1 A,I g,I i] [D.J 1 A,I b,I c]] (aT.vals [.agg (bj d e f E)])],[0<=a,a<(C.length:Int)],[C[a.toNat]?=some (bj j k l F)]] (by kernel_rfl) (by kernel_rfl) (by kernel_rfl) h
def LO(A:ae)(a b:Int)(C:ae)(c d e f g i j k m n:Int)(l:List O):List O:=.a (.dr [some [D.J 1 A,I a,I b]] (aT.vals [.agg (bq C c d)]))::.w A e f g::.w A i j k::.p (bY prog 118 [aM.cur [D.J 1 A,I m,I n] [D.J 1 A,I a,I b]] (aT.vals [.agg (bq C c d)]))::.k A 138 a b e f (C.length:Int) g::.k A 138 e f i j 12 k::l
theorem amp(h:ad (LO A o p C c d e f a g i b a0 cg [.b (b==0) true,.a (.ie (Jb A C c d a b j k l m n E)),.p (ei prog (cR f137 5) (Qd A C c d a g i b) (Jb A C c d a b j k l m n E))])):
b3 137 [aM.cur [D.J 1 A,I a0,I cg] [D.J 1 A,I j,I k]] (aT.vals [.agg (bq (C.set a.toNat (bj l m n E)) c d)]):=
h.b6
theorem amq(h:ad (LO A j k C p l b c n d e a m o [.b (a==0) false,.b (a==1) true,.w A f g i,.p (bY prog 140 [aM.cur [D.J 1 A,I d,I e] [D.J 1 A,I f,I g],aM.ro (.one (.J 1 [[I 0],[I 4],[I 5],[I (-1)]]))] (aT.vals [af i]))])):
b3 137 [aM.cur [D.J 1 A,I m,I o] [D.J 1 A,I f,I g]] (aT.vals [.agg (bq C i l)]):=
h.b6
def A3(A:ae)(a b:Int)(C:ae)(c d e f g i j k m n:Int)(l:List O):List O:=LO A a b C c d e f g i j k m n (.b (k==0) false::.b (k==1) false::l)
theorem amr(h:ad (A3 A j k C l p b c n d e a m o [.b (a==2) true,.w A f g i,.p (bY prog 140 [aM.cur [D.J 1 A,I d,I e] [D.J 1 A,I f,I g],aM.ro (.one (.J 1 [[I 0],[I 4],[I 5],[I (-1)]]))] (aT.vals [af i]))])):
b3 137 [aM.cur [D.J 1 A,I m,I o] [D.J 1 A,I f,I g]] (aT.vals [.agg (bq C l i)]):=
h.b6
def Qe(C A:ae)(b c d e f a:Int):aI:=bg 75 [(0,aQ 1000000000),(2,aQ 2),(3,aQ 3),(4,aY d),(5,aQ 1000000000),(6,aJ.aK (bu.agg [aC 70000 4 A,ax b,ax c])),(7,aQ 1000000000),(8,aQ 3),(9,aJ.aK (bu.one (aC 70000 4 A))),(10,aY (A.length:Int)),(11,aY d),(12,aQ 1000000000),(13,aY a),(14,.aK (.one (.ba (a==0)))),(15,.aK (.one (.ba (a==0)))),(22,.aK (.one (.ba (a==1)))),(23,.aK (.one (.ba (a==1)))),(28,.aK (.one (.ba (a==2)))),(29,.aK (.one (.ba (a==2)))),(34,.aK (.one (.ba (a==3)))),(35,.aK (.one (.ba (a==3))))] [(3,[aC 70000 4 A,ax b,ax c]),(2,[.v (aO),ax 0,ax 0]),(1000000000,[.de 1000000100 1 C,ax e,ax f])]
def IB(E A:ae)(g i a f:Int)(C:ae)(j k b c d e:Int):aI:=bg 75 [(0,aQ 1000000000),(2,aQ 2),(3,aQ 3),(4,aY a),(5,aQ 1000000000),(6,aJ.aK (bu.agg [.J (.own 70000) 4 (A.set a.toNat (bj c d e (C++[[I (b-1)]]))),ax g,ax i])),(7,aQ 1000000000),(8,aQ 3),(9,.aK (.one (.J (.own 70000) 4 (A.set a.toNat (bj c d e (C++[[I (b-1)]])))))),(10,aY (A.length:Int)),(11,aY a),(12,aQ 1000000000),(13,aY f),(14,.aK (.one (.ba (f==0)))),(15,.aK (.one (.ba (f==0)))),(22,.aK (.one (.ba (f==1)))),(23,.aK (.one (.ba (f==1)))),(28,.aK (.one (.ba (f==2)))),(29,.aK (.one (.ba (f==2)))),(34,.aK (.one (.ba (f==3)))),(35,.aK (.one (.ba (f==3)))),(36,aQ 3),(37,.aK (.one (.J (.own 70000) 4 (A.set a.toNat (bj c d e (C++[[I (b-1)]])))))),(38,aY a),(39,aQ 3),(40,.aK (.one (.J (.own 70000) 4 (A.set a.toNat (bj c d e (C++[[I (b-1)]])))))),(41,aY a),(42,.aK (.one (.cE (Tag.own 70000) 4 (A.set a.toNat (bj c d e (C++[[I (b-1)]]))) a.toNat 0))),(43,.aK (.one (.cE (Tag.own 70000) 4 (A.set a.toNat (bj c d e (C++[[I (b-1)]]))) a.toNat 3))),(45,aQ 1000000000),(46,aY b),(47,aY (b-1)),(48,.aK (.one (.J (.own 48) 1 [[I (b-1)]]))),(50,.aK (.one (.cE (Tag.own 70000) 4 (A.set a.toNat (bj c d e (C++[[I (b-1)]]))) a.toNat 0))),(51,.aK (.one (.cE (Tag.own 70000) 4 (A.set a.toNat (bj c d e (C++[[I (b-1)]]))) a.toNat 3)))] [(3,[.J (.own 70000) 4 (A.set a.toNat (bj c d e (C++[[I (b-1)]]))),ax g,ax i]),(2,[.v (aO),ax 0,ax 0]),(1000000000,[.de 1000000100 1 E,ax j,ax k])]
theorem ams{E C:ae}{o p a i j n k l m:Int}{A:ae}{c d b:Int}{d25 d26 d27:D}{e f g:Int}{F:ae}
  (h:cG [0<=a,a<(C.length:Int),C[a.toNat]?=some (bj k l m A),bY prog 138 [aM.cur [D.J 1 E,I i,I j] [D.J 1 E,I c,I d],aM.ro (af 9)] (aT.vals [af b]),ay .i64 (b-1),(A.length+[[I (b-1)]].length)*8<=140737488355328,A.length+[[I (b-1)]].length<=9223372036854775807,C[a.toNat]?=some [d25,d26,d27,D.J 1 A],[d25,d26,d27,D.J 1 A][3]?=some (D.J 1 A),a.toNat=a.toNat,Flat [[I (b-1)]],0<=a,a<(C.length:Int),C[a.toNat]?=some (bj e f g F),a.toNat=a.toNat]):
  ei prog (cR f137 11) (Qe E C o p a i j n) (IB E C o p a n A c d b e f g):=
 .of [[],[],[],[],[],[],[],[],[.sub,.el (bj k l m A)],[],[.dr [some [D.J 1 E,I c,I d],none] (aT.vals [af b])],[],[],[.el [d25,d26,d27,D.J 1 A]],[],[],[.el (bj e f g F)]] [[],[],[],[],[],[],[0<=a,a<(C.length:Int)],[],[C[a.toNat]?=some (bj k l m A)],[],[bY prog 138 [aM.cur [D.J 1 E,I i,I j] [D.J 1 E,I c,I d],aM.ro (af 9)] (aT.vals [af b])],[ay .i64 (b-1)],[],[(A.length+[[I (b-1)]].length)*8<=140737488355328,A.length+[[I (b-1)]].length<=9223372036854775807,C[a.toNat]?=some [d25,d26,d27,D.J 1 A],[d25,d26,d27,D.J 1 A][3]?=some (D.J 1 A),a.toNat=a.toNat,Flat [[I (b-1)]]],[0<=a,a<(C.length:Int)],[],[C[a.toNat]?=some (bj e f g F),a.toNat=a.toNat]] (by kernel_rfl) (by kernel_rfl) (by kernel_rfl) h
theorem amt(h:ad (A3 A p a0 C c d e f b g i a cg dx [.b (a==2) false,.b (a==3) true,.a (.ie (IB A C c d b a E j k l m n o)),.p (ei prog (cR f137 11) (Qe A C c d b g i a) (IB A C c d b a E j k l m n o))])):
b3 137 [aM.cur [D.J 1 A,I cg,I dx] [D.J 1 A,I j,I k]] (aT.vals [.agg [D.J 4 (C.set b.toNat (bj m n o (E++[[I (l-1)]]))),I c,I d]]):=
h.b6
def zq(A C:ae)(a b c d e f:Int):aI:=bg 75 [(0,aQ 1000000000),(2,aQ 2),(3,aQ 3)] [(3,[aC 70000 4 C,ax a,ax b]),(2,[.v (aO),ax c,ax d]),(1000000000,[.de 1000000100 1 A,ax e,ax f])]
def De(A C:ae)(a b c d e f:Int):aI:=bg 75 [(0,aQ 1000000000),(2,aQ 2),(3,aQ 3)] [(3,[aC 70000 4 C,ax a,ax b]),(2,[.v (aO),ax c,ax d]),(1000000000,[.de 1000000100 1 A,ax e,ax f])]
def zr(P:Program)(W:Array Oper)(A C:ae)(a b c d e f g i j:Int):aI:=
 mO P W [[],[],[],[],[.dr [some [D.J 1 A,I g,I i],none] (aT.vals [af j])],[],[]] (De A C a b c d e f)
theorem Qf{A C:ae}{d e f g a b i j c:Int}
  (h:cG [bY prog 138 [aM.cur [D.J 1 A,I a,I b] [D.J 1 A,I i,I j],aM.ro (af 2)] (aT.vals [af c]),ay .i64 (8+c)]):
  ei prog (cR f137 13) (De A C d e f g a b) (zr prog (cR f137 13) A C d e f g a b i j c):=
 .nH [0,0,0,0,1,1,0] h
theorem amu(h:ad [.a (.ie (zr prog (cR f137 13) C A a b c d e f g i j)),.p (ei prog (cR f137 13) (De C A a b c d e f) (zr prog (cR f137 13) C A a b c d e f g i j)),.b (decide ((A.length:Int)<8+j)) true,.a .wr,.g A [[I 8,I 0,I 0,D.v (aO)]] 48]):
a7 (aq f137 0) (zq C A a b c d e f) .normal (zq C (A++[[I 8,I 0,I 0,D.v (aO)]]) a b c d g i):=
h.aX [3,0,2] [3,2,1000000000]
def IC(A C:ae)(a b c d e f:Int):aI:=bg 75 [(0,aQ 1000000000),(2,aQ 2),(3,aQ 3)] [(3,[aC 70000 4 C,ax a,ax b]),(2,[.v (aO),ax c,ax d]),(1000000000,[.de 1000000100 1 A,ax e,ax f])]
theorem amv(h:ad [.a (.ie (zr prog (cR f137 13) C A a b c d e f g i j)),.p (ei prog (cR f137 13) (De C A a b c d e f) (zr prog (cR f137 13) C A a b c d e f g i j)),.b (decide ((A.length:Int)<8+j)) false]):
a7 (aq f137 0) (zq C A a b c d e f) (.exit 1) (IC C A a b c d g i):=
h.aX [3,2,0] [3,2,1000000000]
theorem amw(h:ad (A3 A f g C i j b c l d e a k o [.b (a==2) false,.b (a==3) false,.b (a==4) true,.l [] [3,0,2] [3,2,1000000000] (aq f137 0) (zq A C i j 0 0 d e) (.exit 1) (IC A E m n cg dx p a0)])):
b3 137 [aM.cur [D.J 1 A,I k,I o] [D.J 1 A,I p,I a0]] (aT.vals [.agg (bq E m n)]):=
h.b6
theorem amx(h:ad (A3 A g i C j k c d b e f a l m [.b (a==2) false,.b (a==3) false,.b (a==4) false,.b (a==5) true,.a .own,.p ((0:Int)<=none.getD 0),.p (none.getD 0<=(some b).getD (C.length:Int)),.p ((some b).getD (C.length:Int)<=(C.length:Int))])):
b3 137 [aM.cur [D.J 1 A,I l,I m] [D.J 1 A,I e,I f]] (aT.vals [.agg [D.J 4 (List.take (((some b).getD (C.length:Int)).toNat-0) (List.drop 0 C)),I j,I k]]):=
h.b6
theorem amy(h:ad (A3 A f g C i j b c l d e a k m [.b (a==2) false,.b (a==3) false,.b (a==4) false,.b (a==5) false])):
b3 137 [aM.cur [D.J 1 A,I k,I m] [D.J 1 A,I d,I e]] (aT.vals [.agg (bq C i j)]):=
h.b6
def zt(A:ae)(a b:Int)(C:ae)(c d:Int):aI:=bg 29 [(0,aQ 1000000000),(3,aJ.aK (bu.one (aC 6 5 C))),(4,aY b),(5,aY a)] [(1000000000,[.de 1000000100 1 A,ax c,ax d])]
theorem alJ(h:ad [.w A p f g,.k A 138 a0 cg p f 6 g,.b (decide (e<g)) true,.w A i j d,.k A 138 p f i j 2 d,.v (o+d),.r 130 [af (o+d),af 0,af 2] [af a],.w A k l b,.w A m n c,.k A 138 i j k l 12 b,.k A 138 k l m n 40 c,.g C [(bn 0 a 0 b c)] 40,.h [(bn 0 a 0 b c)],.u e]):
a7 (aq f119 0) (zt A e o C a0 cg) .normal (zt A (e+1) a (C++[(bn 0 a 0 b c)]) m n):=
h.aX [5,0,4,3] [1000000000]
def ID(A C:ae)(a b:Int):aI:=bg 29 [(0,aQ 1000000000),(3,aJ.aK (bu.one (aC 6 5 C)))] [(1000000000,[.de 1000000100 1 A,ax a,ax b])]
theorem alK(h:ad [.w A c a b,.k A 138 e f c a 6 b,.b (decide (d<b)) false]):
a7 (aq f119 0) (zt A d g C e f) (.exit 0) (ID A C c a):=
h.aX [3,0] [1000000000]
theorem alL(h:ad [.l [] [5,0,4,3] [1000000000] (aq f119 0) (zt A 0 0 [] a b) (.exit 0) (ID A C c d)]):
b3 119 [aM.cur [D.J 1 A,I a,I b] [D.J 1 A,I c,I d]] (aT.vals [aP 5 C]):=
h.b6
def IE(A:ae)(a c d b:Int):aI:=bg 27 [(0,aQ 1000000000),(2,aQ 2),(3,aQ 3),(4,aQ 1000000000),(5,.aK (.one (.J (.own 5) 1 [[I 1],[I 1],[I 1],[I 2],[I 3],[I 3],[I 3],[I 4],[I 4],[I 5],[I 6],[I 6],[I 7]]))),(6,aY a),(7,aQ 1000000000),(8,aY b),(9,aJ.aK (bu.agg [ax a,ax b,ax 0])),(10,aQ 3),(11,aY a),(12,.aK (.one (.ba (a==4)))),(13,.aK (.one (.v (Value.bool true)))),(14,.aK (.one (.v (Value.tuple #[])))),(15,.aK (.one (.v (Value.tuple #[])))),(16,.aK (.one (.v (Value.tuple #[])))),(17,.aK (.one (.v (Value.bool true))))] [(3,[ax a,ax b,ax 0]),(2,[ax 0,ax 0,ax 0]),(1000000000,[.de 1000000100 1 A,ax c,ax d])]
def IF(P:Program)(W:Array Oper)(A:ae)(e f g a b c d:Int):aI:=
 mO P W [[],[],[],[],[.dr [some [D.J 1 A,I b,I c],none] (aT.vals [af d])],[],[],[],[]] (IE A e f g a)
theorem alM{A:ae}{g c d a e f b:Int}
  (h:cG [ay .i64 (a+1),bY prog 138 [aM.cur [D.J 1 A,I c,I d] [D.J 1 A,I e,I f],aM.ro (af 2)] (aT.vals [af b]),ay .i64 (a+1+b),(3:Int)≠0]):
  ei prog (cR f242 3) (IE A g c d a) (IF prog (cR f242 3) A g c d a e f b):=
 .nH [0,0,1,0,1,1,1,0,0] h
def LM(A:ae)(a b c d e f g i:Int)(l:List O):List O:=.w A a b c::.w A d e f::.p (bY prog 140 [aM.cur [D.J 1 A,I g,I i] [D.J 1 A,I a,I b],aM.ro (.one (.J 1 [[I 1],[I 1],[I 1],[I 2],[I 3],[I 3],[I 3],[I 4],[I 4],[I 5],[I 6],[I 6],[I 7]]))] (aT.vals [af c]))::.k A 138 a b d e 3 f::l
theorem alN(h:ad (LM A i j b c d a k l [.b (b==4) true,.a (.ie (IF prog (cR f242 3) A b c d a e f g)),.p (ei prog (cR f242 3) (IE A b c d a) (IF prog (cR f242 3) A b c d a e f g))])):
b3 242 [aM.cur [D.J 1 A,I k,I l] [D.J 1 A,I e,I f]] (aT.vals [.agg [I b,I a,I ((a+1+g).tmod 3)]]):=
h.b6
def IG(A:ae)(a c d b:Int):aI:=bg 27 [(0,aQ 1000000000),(2,aQ 2),(3,aQ 3),(4,aQ 1000000000),(5,.aK (.one (.J (.own 5) 1 [[I 1],[I 1],[I 1],[I 2],[I 3],[I 3],[I 3],[I 4],[I 4],[I 5],[I 6],[I 6],[I 7]]))),(6,aY a),(7,aQ 1000000000),(8,aY b),(9,aJ.aK (bu.agg [ax a,ax b,ax 0])),(10,aQ 3),(11,aY a),(12,.aK (.one (.ba (a==4)))),(13,.aK (.one (.v (Value.bool false)))),(14,aQ 3),(15,aY a),(16,.aK (.one (.ba (a==5)))),(17,.aK (.one (.ba (a==5))))] [(3,[ax a,ax b,ax 0]),(2,[ax 0,ax 0,ax 0]),(1000000000,[.de 1000000100 1 A,ax c,ax d])]
def IH(P:Program)(W:Array Oper)(A:ae)(e f g a b c d:Int):aI:=
 mO P W [[],[],[],[],[.dr [some [D.J 1 A,I b,I c],none] (aT.vals [af d])],[],[],[],[]] (IG A e f g a)
theorem alO{A:ae}{g c d a e f b:Int}
  (h:cG [ay .i64 (a+1),bY prog 138 [aM.cur [D.J 1 A,I c,I d] [D.J 1 A,I e,I f],aM.ro (af 2)] (aT.vals [af b]),ay .i64 (a+1+b),(3:Int)≠0]):
  ei prog (cR f242 3) (IG A g c d a) (IH prog (cR f242 3) A g c d a e f b):=
 .nH [0,0,1,0,1,1,1,0,0] h
theorem alP(h:ad (LM A i j a c d b k l [.b (a==4) false,.b (a==5) true,.a (.ie (IH prog (cR f242 3) A a c d b e f g)),.p (ei prog (cR f242 3) (IG A a c d b) (IH prog (cR f242 3) A a c d b e f g))])):
b3 242 [aM.cur [D.J 1 A,I k,I l] [D.J 1 A,I e,I f]] (aT.vals [.agg [I a,I b,I ((b+1+g).tmod 3)]]):=
h.b6
theorem alQ(h:ad (LM A c d a e f b g i [.b (a==4) false,.b (a==5) false])):
b3 242 [aM.cur [D.J 1 A,I g,I i] [D.J 1 A,I e,I f]] (aT.vals [.agg [I a,I b,I 0]]):=
h.b6
def zu(A:ae)(a b:Int)(C:ae)(c d:Int):aI:=bg 22 [(0,aQ 1000000000),(1,aY a),(5,aJ.aK (bu.one (aC 7 3 C))),(6,aY b)] [(1000000000,[.de 1000000100 1 A,ax c,ax d])]
theorem alR(h:ad [.w A k f g,.u d,.k A 138 l m k f (d+1) g,.b (decide (e<g)) true,.a (.dr [some [D.J 1 A,I i,I j]] (aT.vals [.agg [I a,I b,I c]])),.p (bY prog 242 [aM.cur [D.J 1 A,I k,I f] [D.J 1 A,I i,I j]] (aT.vals [.agg [I a,I b,I c]])),.g C [[I a,I b,I c]] 24,.h [[I a,I b,I c]],.u e]):
a7 (aq f120 0) (zu A d e C l m) .normal (zu A d (e+1) (C++[[I a,I b,I c]]) i j):=
h.aX [6,0,1,5] [1000000000]
def II(A C:ae)(a b:Int):aI:=bg 22 [(0,aQ 1000000000),(5,aJ.aK (bu.one (aC 7 3 C)))] [(1000000000,[.de 1000000100 1 A,ax a,ax b])]
theorem alS(h:ad [.w A d a b,.u c,.k A 138 f g d a (c+1) b,.b (decide (e<b)) false]):
a7 (aq f120 0) (zu A c e C f g) (.exit 0) (II A C d a):=
h.aX [5,0] [1000000000]
theorem alT(h:ad [.l [] [6,0,1,5] [1000000000] (aq f120 0) (zu A c 0 [] a b) (.exit 0) (II A C d e)]):
b3 120 [aM.cur [D.J 1 A,I a,I b] [D.J 1 A,I d,I e],aM.ro (af c)] (aT.vals [aP 3 C]):=
h.b6
