import Derived.Test.YtdchjefneblpgaaGreatGE
set_option linter.unusedVariables false
set_option linter.unusedSimpArgs false
namespace Go.Proofs.YtdchjefneblpgaaGreat
open Go.Sx Go.RowKit Go.Proofs.Tryz
variable {a b c d e f g i j k l m n o p a0 cc dk d0 bB f0 i0 : Int} {A C E F : ae} {q : Bool}
def wY(A:ae)(a b:Int):aD:=bd 32 [(0,.aF (.one (.c' 1000000100 1 A))),(3,aW b),(4,aW a)] []
theorem akn(h:ad [.f A a true,.b (decide (a<4000)) true,.v (b*131),.x A a [D.v (Value.int IntKind.u8 c)],.a (.nc (aW d)),.v c,.v (b*131+c),.v (b*131+c+7),.p (k4 prog BinOp.and 3 (Operand.tmp 26) (Operand.const (Value.int IntKind.i64 1073741823)) (Value.int IntKind.i64 (b*131+c+7)) (Value.int IntKind.i64 1073741823) (Value.int IntKind.i64 d)),.u a]):
 aX (ao f117 0) (wY A a b) .normal (wY A (a+1) d):=
 h.aV [4,0,3] []
def CN(A:ae)(a:Int):aD:=bd 32 [(0,.aF (.one (.c' 1000000100 1 A))),(3,aW a)] []
theorem ako(h:ad [.f A a true,.b (decide (a<4000)) false]):
 aX (ao f117 0) (wY A a b) (.exit 0) (CN A b):=
 h.aV [0,3] []
theorem akp(h:ad [.f A a false]):
 aX (ao f117 0) (wY A a b) (.exit 0) (CN A b):=
 h.aV [0,3] []
theorem akq(h:ad [.v (94701+(A.length:Int)),.l [] [4,0,3] [] (ao f117 0) (wY A 0 (94701+(A.length:Int))) (.exit 0) (CN A a)]):
 bY 117 [aL.ro (aP 1 A)] (aT.im [some 0,none,none] [D.J 1 A,I 0,I a]):=
 h.b1
def T4(a b c d e:Int)(l:List O):List O:=.a .wr::.a .wr::.a (.nc (aW a))::.a (.nc (aW b))::.a (.nc (aW c))::.a (.nc (aW d))::.p (k4 prog BinOp.shr 3 (Operand.tmp 16) (Operand.const (Value.int IntKind.u64 33)) (Value.int IntKind.i64 (IntKind.i64.wrap (IntKind.i64.wrap (e*6364136223846793005)+1442695040888963407))) (Value.int IntKind.u64 33) (Value.int IntKind.i64 a))::.p (k4 prog BinOp.shr 3 (Operand.tmp 21) (Operand.const (Value.int IntKind.u64 45)) (Value.int IntKind.i64 (IntKind.i64.wrap (IntKind.i64.wrap (e*6364136223846793005)+1442695040888963407))) (Value.int IntKind.u64 45) (Value.int IntKind.i64 b))::.p (k4 prog BinOp.xor 3 (Operand.tmp 17) (Operand.tmp 22) (Value.int IntKind.i64 a) (Value.int IntKind.i64 b) (Value.int IntKind.i64 c))::.p (k4 prog BinOp.and 3 (Operand.tmp 23) (Operand.const (Value.int IntKind.i64 255)) (Value.int IntKind.i64 c) (Value.int IntKind.i64 255) (Value.int IntKind.i64 d))::l
theorem akr(h:ad (T4 c d e f b [.i A a [D.v (Value.int IntKind.u8 i)],.a .wr,.a .wr,.a (.nc (aW g)),.p (k4 prog BinOp.and 3 (Operand.tmp 47) (Operand.const (Value.int IntKind.i64 255)) (Value.int IntKind.i64 (IntKind.i64.wrap (f+IntKind.i64.wrap i))) (Value.int IntKind.i64 255) (Value.int IntKind.i64 g)),.u a])):
 bY 253 [aL.cur [D.J 1 A,I a,I b] [D.J 1 A,I (a+1),I (IntKind.i64.wrap (IntKind.i64.wrap (b*6364136223846793005)+1442695040888963407))]] (aT.vals [af g]):=
 h.b1
theorem aks(h:ad (T4 c d e f a [.f A b false])):
 bY 253 [aL.cur [D.J 1 A,I b,I a] [D.J 1 A,I b,I (IntKind.i64.wrap (IntKind.i64.wrap (a*6364136223846793005)+1442695040888963407))]] (aT.vals [af f]):=
 h.b1
theorem akt(h:ad [.b (decide (a<=0)) false,.b (decide (a<=256)) true,.a (.dg [some [D.J 1 A,I b,I c]] (aT.vals [af d])),.p (bT prog 253 [aL.cur [D.J 1 A,I e,I f] [D.J 1 A,I b,I c]] (aT.vals [af d])),.p (a≠0)]):
 bY 138 [aL.cur [D.J 1 A,I e,I f] [D.J 1 A,I b,I c],aL.ro (af a)] (aT.vals [af (d.tmod a)]):=
 h.b1
theorem aku(h:ad [.b (decide (d<=0)) false,.b (decide (d<=256)) false,.a (.dg [some [D.J 1 A,I l,I m]] (aT.vals [af b])),.a (.dg [some [D.J 1 A,I n,I f]] (aT.vals [af a])),.a (.dg [some [D.J 1 A,I g,I i]] (aT.vals [af c])),.a (.dg [some [D.J 1 A,I j,I k]] (aT.vals [af e])),.p (bT prog 253 [aL.cur [D.J 1 A,I o,I p] [D.J 1 A,I l,I m]] (aT.vals [af b])),.p (bT prog 253 [aL.cur [D.J 1 A,I l,I m] [D.J 1 A,I n,I f]] (aT.vals [af a])),.p (bT prog 253 [aL.cur [D.J 1 A,I n,I f] [D.J 1 A,I g,I i]] (aT.vals [af c])),.p (bT prog 253 [aL.cur [D.J 1 A,I g,I i] [D.J 1 A,I j,I k]] (aT.vals [af e])),.v (b*16777216),.v (a*65536),.v (b*16777216+a*65536),.v (c*256),.v (b*16777216+a*65536+c*256),.v (b*16777216+a*65536+c*256+e),.p (d≠0)]):
 bY 138 [aL.cur [D.J 1 A,I o,I p] [D.J 1 A,I j,I k],aL.ro (af d)] (aT.vals [af ((b*16777216+a*65536+c*256+e).tmod d)]):=
 h.b1
theorem akv(h:ad [.w A a b c,.k A 138 d e a b f c]):
 bY 136 [aL.cur [D.J 1 A,I d,I e] [D.J 1 A,I a,I b],aL.ro (af f)] (aT.vals [ag (c==0)]):=
 h.b1
theorem akw(h:ad [.w A a b c,.k A 138 d e a b (C.length:Int) c,.x C c [I f]]):
 bY 140 [aL.cur [D.J 1 A,I d,I e] [D.J 1 A,I a,I b],aL.ro (aP 1 C)] (aT.vals [af f]):=
 h.b1
theorem ajX(h:ad [.w A b c d,.w A e f a,.k A 138 g i b c 4 d,.k A 138 b c e f 5 a]):
 bY 325 [aL.cur [D.J 1 A,I g,I i] [D.J 1 A,I e,I f]] (aT.vals [.agg [I d,I a]]):=
 h.b1
def Li(A:ae)(a b c d e f g i j:Int)(l:List O):List O:=.a (.dg [some [D.J 1 A,I a,I b]] (aT.vals [.agg [I c,I d]]))::.w A e f g::.p (bT prog 325 [aL.cur [D.J 1 A,I i,I j] [D.J 1 A,I a,I b]] (aT.vals [.agg [I c,I d]]))::.k A 138 a b e f 10 g::l
theorem ajY(h:ad (Li A f g m i j a b k l [.b (b==0) true,.w A c d e,.p (bT prog 140 [aL.cur [D.J 1 A,I j,I a] [D.J 1 A,I c,I d],aL.ro (.one (.J 1 [[I (-1)],[I 3],[I 4],[I 9223372036854775807]]))] (aT.vals [af e]))])):
 bY 272 [aL.cur [D.J 1 A,I k,I l] [D.J 1 A,I c,I d]] (aT.vals [.agg [I e,I i]]):=
 h.b1
theorem ajZ(h:ad (Li A f g i m j b a k l [.b (a==0) false,.b (a==1) true,.w A c d e,.p (bT prog 140 [aL.cur [D.J 1 A,I j,I b] [D.J 1 A,I c,I d],aL.ro (.one (.J 1 [[I (-1)],[I 5],[I 6],[I 7],[I (-9223372036854775808)]]))] (aT.vals [af e]))])):
 bY 272 [aL.cur [D.J 1 A,I k,I l] [D.J 1 A,I c,I d]] (aT.vals [.agg [I i,I e]]):=
 h.b1
theorem aj0(h:ad (Li A c d e f g b a i j [.b (a==0) false,.b (a==1) false])):
 bY 272 [aL.cur [D.J 1 A,I i,I j] [D.J 1 A,I g,I b]] (aT.vals [.agg [I e,I f]]):=
 h.b1
theorem aj1(h:ad [.w A j k l,.a (.dg [some [D.J 1 A,I m,I n]] (aT.vals [.agg [I a,I b]])),.w A c d e,.w A f g i,.k A 138 o p j k 5 l,.p (bT prog 325 [aL.cur [D.J 1 A,I j,I k] [D.J 1 A,I m,I n]] (aT.vals [.agg [I a,I b]])),.k A 138 m n c d 12 e,.k A 138 c d f g 40 i]):
 bY 271 [aL.cur [D.J 1 A,I o,I p] [D.J 1 A,I f,I g]] (aT.vals [.agg (bj l a b e i)]):=
 h.b1
def Ax(A:ae)(a b c d e f g i j k m n:Int)(l:List O):List O:=.a (.dg [some [D.J 1 A,I a,I b]] (aT.vals [.agg (bj c d e f g)]))::.w A i j k::.p (bT prog 271 [aL.cur [D.J 1 A,I m,I n] [D.J 1 A,I a,I b]] (aT.vals [.agg (bj c d e f g)]))::.k A 138 a b i j 12 k::l
theorem aj2(h:ad (Ax A i j p k l m a b c d n o [.b (d==0) true,.w A e f g,.p (bT prog 140 [aL.cur [D.J 1 A,I b,I c] [D.J 1 A,I e,I f],aL.ro (.one (.J 1 [[I (-1)],[I 7],[I 8]]))] (aT.vals [af g]))])):
 bY 178 [aL.cur [D.J 1 A,I n,I o] [D.J 1 A,I e,I f]] (aT.vals [.agg (bj g k l m a)]):=
 h.b1
theorem aj3(h:ad (Ax A j k l p a0 m b c d a n o [.b (a==0) false,.b (a==1) true,.a (.dg [some [D.J 1 A,I e,I f]] (aT.vals [.agg [I g,I i]])),.p (bT prog 272 [aL.cur [D.J 1 A,I c,I d] [D.J 1 A,I e,I f]] (aT.vals [.agg [I g,I i]]))])):
 bY 178 [aL.cur [D.J 1 A,I n,I o] [D.J 1 A,I e,I f]] (aT.vals [.agg (bj l g i m b)]):=
 h.b1
theorem aj4(h:ad (Ax A i j k l m p b c d a n o [.b (a==0) false,.b (a==1) false,.b (a==2) true,.w A e f g,.p (bT prog 140 [aL.cur [D.J 1 A,I c,I d] [D.J 1 A,I e,I f],aL.ro (.one (.J 1 [[I (-1)],[I 99],[I 100],[I (-9223372036854775808)]]))] (aT.vals [af g]))])):
 bY 178 [aL.cur [D.J 1 A,I n,I o] [D.J 1 A,I e,I f]] (aT.vals [.agg (bj k l m g b)]):=
 h.b1
theorem aj5(h:ad (Ax A g i j k l m o b c a n p [.b (a==0) false,.b (a==1) false,.b (a==2) false,.b (a==3) true,.w A d e f,.p (bT prog 140 [aL.cur [D.J 1 A,I b,I c] [D.J 1 A,I d,I e],aL.ro (.one (.J 1 [[I (-1)],[I 999],[I 1000],[I 9223372036854775807]]))] (aT.vals [af f]))])):
 bY 178 [aL.cur [D.J 1 A,I n,I p] [D.J 1 A,I d,I e]] (aT.vals [.agg (bj j k l m f)]):=
 h.b1
theorem aj6(h:ad (Ax A e f g i j k b c d a l m [.b (a==0) false,.b (a==1) false,.b (a==2) false,.b (a==3) false])):
 bY 178 [aL.cur [D.J 1 A,I l,I m] [D.J 1 A,I c,I d]] (aT.vals [.agg (bj g i j k b)]):=
 h.b1
def T5(A:ae)(a b c d e f g i:Int)(q:Bool)(j k:Int)(l:List O):List O:=.w A a b c::.w A d e f::.y A g i q::.k A 138 j k a b 3 c::.v (1+c)::.k A 138 a b d e 3 f::.v (1+f)::.m A 136 d e g i 3 q::l
def Av(A:ae)(a b c d e f g i:Int)(q:Bool)(j k m n o p eE gC c1 d1 e1 f1 g1 i1:Int)(l:List O):List O:=T5 A a b c d e f g i q j k (.b q true::.w A m n o::.w A p eE gC::.w A c1 d1 e1::.w A f1 g1 i1::.k A 138 g i m n 3 o::.v (1+o)::.k A 138 m n p eE 4 gC::.k A 138 p eE c1 d1 3 e1::.v (1+e1)::.k A 138 c1 d1 f1 g1 6 i1::l)
theorem alz{A:ae}{f0 i0 cc dk e d0 bB c f g:Int}{q:Bool}{i j a k l b m n d o p a0:Int}{d31 d32 d33 d34:D}(h:ad (Av A cc dk e d0 bB c f g q f0 i0 i j a k l b m n d o p a0 [.b (a0==0) true,.p ((0:Int)<=3),.p (3<(↑[[I 1,I 0,I 0,D.J 1 [[I 1]]],[I 6,I 0,I 0,D.J 1 [[I 2],[I 5]]],[I 4,I (1+a),I 0,D.J 1 [[I 3]]],[I 2,I b,I 0,D.J 1 [[I 4]]],[I 7,I 0,I 0,D.J 1 [[I 1]]],[I 8,I 0,I 0,D.v (aO)]].length:Int)),.e [[I 1,I 0,I 0,D.J 1 [[I 1]]],[I 6,I 0,I 0,D.J 1 [[I 2],[I 5]]],[I 4,I (1+a),I 0,D.J 1 [[I 3]]],[I 2,I b,I 0,D.J 1 [[I 4]]],[I 7,I 0,I 0,D.J 1 [[I 1]]],[I 8,I 0,I 0,D.v (aO)]] 3 [d31,d32,d33,d34]])):
 bY 118 [aL.cur [D.J 1 A,I f0,I i0] [D.J 1 A,I o,I p]] (aT.vals [.agg (bk ([[I 1,I 0,I 0,D.J 1 [[I 1]]],[I 6,I 0,I 0,D.J 1 [[I 2],[I 5]]],[I 4,I (1+a),I 0,D.J 1 [[I 3]]],[I 2,I b,I 0,D.J 1 [[I 4]]],[I 7,I 0,I 0,D.J 1 [[I 1]]],[I 8,I 0,I 0,D.v (aO)]].set 3 [I 3,I (1+d),I 0,D.J 1 [[I 4]]]) (1+e) (1+c))]):=
 h.b1
theorem alA{A:ae}{f0 i0 cc dk e d0 bB c f g:Int}{q:Bool}{i j a k l b m n o p a0 d:Int}{d31 d32 d33 d34:D}(h:ad (Av A cc dk e d0 bB c f g q f0 i0 i j a k l b m n o p a0 d [.b (d==0) false,.b (d==1) true,.p ((0:Int)<=4),.p (4<(↑[[I 1,I 0,I 0,D.J 1 [[I 1]]],[I 6,I 0,I 0,D.J 1 [[I 2],[I 5]]],[I 4,I (1+a),I 0,D.J 1 [[I 3]]],[I 2,I b,I 0,D.J 1 [[I 4]]],[I 7,I 0,I 0,D.J 1 [[I 1]]],[I 8,I 0,I 0,D.v (aO)]].length:Int)),.e [[I 1,I 0,I 0,D.J 1 [[I 1]]],[I 6,I 0,I 0,D.J 1 [[I 2],[I 5]]],[I 4,I (1+a),I 0,D.J 1 [[I 3]]],[I 2,I b,I 0,D.J 1 [[I 4]]],[I 7,I 0,I 0,D.J 1 [[I 1]]],[I 8,I 0,I 0,D.v (aO)]] 4 [d31,d32,d33,d34]])):
 bY 118 [aL.cur [D.J 1 A,I f0,I i0] [D.J 1 A,I p,I a0]] (aT.vals [.agg (bk ([[I 1,I 0,I 0,D.J 1 [[I 1]]],[I 6,I 0,I 0,D.J 1 [[I 2],[I 5]]],[I 4,I (1+a),I 0,D.J 1 [[I 3]]],[I 2,I b,I 0,D.J 1 [[I 4]]],[I 7,I 0,I 0,D.J 1 [[I 1]]],[I 8,I 0,I 0,D.v (aO)]].set 4 [I 8,I 0,I 0,D.v (aO)]) (1+e) (1+c))]):=
 h.b1
theorem alB{A:ae}{f0 i0 cc dk e d0 bB d f g:Int}{q:Bool}{i j a k l b m n o p a0 c:Int}{d31 d32 d33 d34:D}(h:ad (Av A cc dk e d0 bB d f g q f0 i0 i j a k l b m n o p a0 c [.b (c==0) false,.b (c==1) false,.b (c==2) true,.p ((0:Int)<=2),.p (2<(↑[[I 1,I 0,I 0,D.J 1 [[I 1]]],[I 6,I 0,I 0,D.J 1 [[I 2],[I 5]]],[I 4,I (1+a),I 0,D.J 1 [[I 3]]],[I 2,I b,I 0,D.J 1 [[I 4]]],[I 7,I 0,I 0,D.J 1 [[I 1]]],[I 8,I 0,I 0,D.v (aO)]].length:Int)),.e [[I 1,I 0,I 0,D.J 1 [[I 1]]],[I 6,I 0,I 0,D.J 1 [[I 2],[I 5]]],[I 4,I (1+a),I 0,D.J 1 [[I 3]]],[I 2,I b,I 0,D.J 1 [[I 4]]],[I 7,I 0,I 0,D.J 1 [[I 1]]],[I 8,I 0,I 0,D.v (aO)]] 2 [d31,d32,d33,d34]])):
 bY 118 [aL.cur [D.J 1 A,I f0,I i0] [D.J 1 A,I p,I a0]] (aT.vals [.agg (bk ([[I 1,I 0,I 0,D.J 1 [[I 1]]],[I 6,I 0,I 0,D.J 1 [[I 2],[I 5]]],[I 4,I (1+a),I 0,D.J 1 [[I 3]]],[I 2,I b,I 0,D.J 1 [[I 4]]],[I 7,I 0,I 0,D.J 1 [[I 1]]],[I 8,I 0,I 0,D.v (aO)]].set 2 [d31,d32,d33,D.J 1 [[I 3],[I 4]]]) (1+e) (1+d))]):=
 h.b1
theorem alC{A:ae}{f0 i0 cc dk e d0 bB d f g:Int}{q:Bool}{i j a k l b m n o p a0 c:Int}{d31 d32 d33 d34:D}(h:ad (Av A cc dk e d0 bB d f g q f0 i0 i j a k l b m n o p a0 c [.b (c==0) false,.b (c==1) false,.b (c==2) false,.b (c==3) true,.a .wr,.p (([[I 1,I 0,I 0,D.J 1 [[I 1]]],[I 6,I 0,I 0,D.J 1 [[I 2],[I 5]]],[I 4,I (1+a),I 0,D.J 1 [[I 3]]],[I 2,I b,I 0,D.J 1 [[I 4]]],[I 7,I 0,I 0,D.J 1 [[I 1]]],[I 8,I 0,I 0,D.v (aO)]].length+[[I 8,I 0,I 0,D.v (aO)]].length)*48<=140737488355328),.p ([[I 1,I 0,I 0,D.J 1 [[I 1]]],[I 6,I 0,I 0,D.J 1 [[I 2],[I 5]]],[I 4,I (1+a),I 0,D.J 1 [[I 3]]],[I 2,I b,I 0,D.J 1 [[I 4]]],[I 7,I 0,I 0,D.J 1 [[I 1]]],[I 8,I 0,I 0,D.v (aO)]].length+[[I 8,I 0,I 0,D.v (aO)]].length<=9223372036854775807),.p ((0:Int)<=0),.p (0<(↑([[I 1,I 0,I 0,D.J 1 [[I 1]]],[I 6,I 0,I 0,D.J 1 [[I 2],[I 5]]],[I 4,I (1+a),I 0,D.J 1 [[I 3]]],[I 2,I b,I 0,D.J 1 [[I 4]]],[I 7,I 0,I 0,D.J 1 [[I 1]]],[I 8,I 0,I 0,D.v (aO)]]++[[I 8,I 0,I 0,D.v (aO)]]).length:Int)),.e ([[I 1,I 0,I 0,D.J 1 [[I 1]]],[I 6,I 0,I 0,D.J 1 [[I 2],[I 5]]],[I 4,I (1+a),I 0,D.J 1 [[I 3]]],[I 2,I b,I 0,D.J 1 [[I 4]]],[I 7,I 0,I 0,D.J 1 [[I 1]]],[I 8,I 0,I 0,D.v (aO)]]++[[I 8,I 0,I 0,D.v (aO)]]) 0 [d31,d32,d33,d34]])):
 bY 118 [aL.cur [D.J 1 A,I f0,I i0] [D.J 1 A,I p,I a0]] (aT.vals [.agg (bk (([[I 1,I 0,I 0,D.J 1 [[I 1]]],[I 6,I 0,I 0,D.J 1 [[I 2],[I 5]]],[I 4,I (1+a),I 0,D.J 1 [[I 3]]],[I 2,I b,I 0,D.J 1 [[I 4]]],[I 7,I 0,I 0,D.J 1 [[I 1]]],[I 8,I 0,I 0,D.v (aO)]]++[[I 8,I 0,I 0,D.v (aO)]]).set 0 [d31,d32,d33,D.J 1 [[I 1],[I 6]]]) (1+e) (1+d))]):=
 h.b1
theorem alD(h:ad (Av A cc dk d d0 bB b e f q f0 i0 g i c j k l m n o p a0 a [.b (a==0) false,.b (a==1) false,.b (a==2) false,.b (a==3) false])):
 bY 118 [aL.cur [D.J 1 A,I f0,I i0] [D.J 1 A,I p,I a0]] (aT.vals [.agg [D.J 4 [[I 1,I 0,I 0,D.J 1 [[I 1]]],[I 6,I 0,I 0,D.J 1 [[I 2],[I 5]]],[I 4,I (1+c),I 0,D.J 1 [[I 3]]],[I 2,I l,I 0,D.J 1 [[I 4]]],[I 7,I 0,I 0,D.J 1 [[I 1]]],[I 8,I 0,I 0,D.v (aO)]],I (1+d),I (1+b)]]):=
 h.b1
def Aw(A:ae)(a b c d e f g i:Int)(q:Bool)(j k m n o p eE gC c1 d1 e1 f1 g1 i1:Int)(l:List O):List O:=T5 A a b c d e f g i q j k (.b q false::.w A m n o::.w A p eE gC::.w A c1 d1 e1::.w A f1 g1 i1::.k A 138 g i m n 3 o::.v (1+o)::.k A 138 m n p eE 4 gC::.k A 138 p eE c1 d1 3 e1::.v (1+e1)::.k A 138 c1 d1 f1 g1 6 i1::l)
theorem alE{A:ae}{f0 i0 cc dk e d0 bB c f g:Int}{q:Bool}{i j a k l b m n d o p a0:Int}{d31 d32 d33 d34:D}(h:ad (Aw A cc dk e d0 bB c f g q f0 i0 i j a k l b m n d o p a0 [.b (a0==0) true,.p ((0:Int)<=3),.p (3<(↑[[I 1,I 0,I 0,D.J 1 [[I 1]]],[I 5,I 0,I 0,D.J 1 [[I 2],[I 5]]],[I 4,I (1+a),I 0,D.J 1 [[I 3]]],[I 2,I b,I 0,D.J 1 [[I 4]]],[I 7,I 0,I 0,D.J 1 [[I 1]]],[I 8,I 0,I 0,D.v (aO)]].length:Int)),.e [[I 1,I 0,I 0,D.J 1 [[I 1]]],[I 5,I 0,I 0,D.J 1 [[I 2],[I 5]]],[I 4,I (1+a),I 0,D.J 1 [[I 3]]],[I 2,I b,I 0,D.J 1 [[I 4]]],[I 7,I 0,I 0,D.J 1 [[I 1]]],[I 8,I 0,I 0,D.v (aO)]] 3 [d31,d32,d33,d34]])):
 bY 118 [aL.cur [D.J 1 A,I f0,I i0] [D.J 1 A,I o,I p]] (aT.vals [.agg (bk ([[I 1,I 0,I 0,D.J 1 [[I 1]]],[I 5,I 0,I 0,D.J 1 [[I 2],[I 5]]],[I 4,I (1+a),I 0,D.J 1 [[I 3]]],[I 2,I b,I 0,D.J 1 [[I 4]]],[I 7,I 0,I 0,D.J 1 [[I 1]]],[I 8,I 0,I 0,D.v (aO)]].set 3 [I 3,I (1+d),I 0,D.J 1 [[I 4]]]) (1+e) (1+c))]):=
 h.b1
theorem alF{A:ae}{f0 i0 cc dk e d0 bB c f g:Int}{q:Bool}{i j a k l b m n o p a0 d:Int}{d31 d32 d33 d34:D}(h:ad (Aw A cc dk e d0 bB c f g q f0 i0 i j a k l b m n o p a0 d [.b (d==0) false,.b (d==1) true,.p ((0:Int)<=4),.p (4<(↑[[I 1,I 0,I 0,D.J 1 [[I 1]]],[I 5,I 0,I 0,D.J 1 [[I 2],[I 5]]],[I 4,I (1+a),I 0,D.J 1 [[I 3]]],[I 2,I b,I 0,D.J 1 [[I 4]]],[I 7,I 0,I 0,D.J 1 [[I 1]]],[I 8,I 0,I 0,D.v (aO)]].length:Int)),.e [[I 1,I 0,I 0,D.J 1 [[I 1]]],[I 5,I 0,I 0,D.J 1 [[I 2],[I 5]]],[I 4,I (1+a),I 0,D.J 1 [[I 3]]],[I 2,I b,I 0,D.J 1 [[I 4]]],[I 7,I 0,I 0,D.J 1 [[I 1]]],[I 8,I 0,I 0,D.v (aO)]] 4 [d31,d32,d33,d34]])):
 bY 118 [aL.cur [D.J 1 A,I f0,I i0] [D.J 1 A,I p,I a0]] (aT.vals [.agg (bk ([[I 1,I 0,I 0,D.J 1 [[I 1]]],[I 5,I 0,I 0,D.J 1 [[I 2],[I 5]]],[I 4,I (1+a),I 0,D.J 1 [[I 3]]],[I 2,I b,I 0,D.J 1 [[I 4]]],[I 7,I 0,I 0,D.J 1 [[I 1]]],[I 8,I 0,I 0,D.v (aO)]].set 4 [I 8,I 0,I 0,D.v (aO)]) (1+e) (1+c))]):=
 h.b1
theorem alG{A:ae}{f0 i0 cc dk e d0 bB d f g:Int}{q:Bool}{i j a k l b m n o p a0 c:Int}{d31 d32 d33 d34:D}(h:ad (Aw A cc dk e d0 bB d f g q f0 i0 i j a k l b m n o p a0 c [.b (c==0) false,.b (c==1) false,.b (c==2) true,.p ((0:Int)<=2),.p (2<(↑[[I 1,I 0,I 0,D.J 1 [[I 1]]],[I 5,I 0,I 0,D.J 1 [[I 2],[I 5]]],[I 4,I (1+a),I 0,D.J 1 [[I 3]]],[I 2,I b,I 0,D.J 1 [[I 4]]],[I 7,I 0,I 0,D.J 1 [[I 1]]],[I 8,I 0,I 0,D.v (aO)]].length:Int)),.e [[I 1,I 0,I 0,D.J 1 [[I 1]]],[I 5,I 0,I 0,D.J 1 [[I 2],[I 5]]],[I 4,I (1+a),I 0,D.J 1 [[I 3]]],[I 2,I b,I 0,D.J 1 [[I 4]]],[I 7,I 0,I 0,D.J 1 [[I 1]]],[I 8,I 0,I 0,D.v (aO)]] 2 [d31,d32,d33,d34]])):
 bY 118 [aL.cur [D.J 1 A,I f0,I i0] [D.J 1 A,I p,I a0]] (aT.vals [.agg (bk ([[I 1,I 0,I 0,D.J 1 [[I 1]]],[I 5,I 0,I 0,D.J 1 [[I 2],[I 5]]],[I 4,I (1+a),I 0,D.J 1 [[I 3]]],[I 2,I b,I 0,D.J 1 [[I 4]]],[I 7,I 0,I 0,D.J 1 [[I 1]]],[I 8,I 0,I 0,D.v (aO)]].set 2 [d31,d32,d33,D.J 1 [[I 3],[I 4]]]) (1+e) (1+d))]):=
 h.b1
theorem alH{A:ae}{f0 i0 cc dk e d0 bB d f g:Int}{q:Bool}{i j a k l b m n o p a0 c:Int}{d31 d32 d33 d34:D}(h:ad (Aw A cc dk e d0 bB d f g q f0 i0 i j a k l b m n o p a0 c [.b (c==0) false,.b (c==1) false,.b (c==2) false,.b (c==3) true,.a .wr,.p (([[I 1,I 0,I 0,D.J 1 [[I 1]]],[I 5,I 0,I 0,D.J 1 [[I 2],[I 5]]],[I 4,I (1+a),I 0,D.J 1 [[I 3]]],[I 2,I b,I 0,D.J 1 [[I 4]]],[I 7,I 0,I 0,D.J 1 [[I 1]]],[I 8,I 0,I 0,D.v (aO)]].length+[[I 8,I 0,I 0,D.v (aO)]].length)*48<=140737488355328),.p ([[I 1,I 0,I 0,D.J 1 [[I 1]]],[I 5,I 0,I 0,D.J 1 [[I 2],[I 5]]],[I 4,I (1+a),I 0,D.J 1 [[I 3]]],[I 2,I b,I 0,D.J 1 [[I 4]]],[I 7,I 0,I 0,D.J 1 [[I 1]]],[I 8,I 0,I 0,D.v (aO)]].length+[[I 8,I 0,I 0,D.v (aO)]].length<=9223372036854775807),.p ((0:Int)<=0),.p (0<(↑([[I 1,I 0,I 0,D.J 1 [[I 1]]],[I 5,I 0,I 0,D.J 1 [[I 2],[I 5]]],[I 4,I (1+a),I 0,D.J 1 [[I 3]]],[I 2,I b,I 0,D.J 1 [[I 4]]],[I 7,I 0,I 0,D.J 1 [[I 1]]],[I 8,I 0,I 0,D.v (aO)]]++[[I 8,I 0,I 0,D.v (aO)]]).length:Int)),.e ([[I 1,I 0,I 0,D.J 1 [[I 1]]],[I 5,I 0,I 0,D.J 1 [[I 2],[I 5]]],[I 4,I (1+a),I 0,D.J 1 [[I 3]]],[I 2,I b,I 0,D.J 1 [[I 4]]],[I 7,I 0,I 0,D.J 1 [[I 1]]],[I 8,I 0,I 0,D.v (aO)]]++[[I 8,I 0,I 0,D.v (aO)]]) 0 [d31,d32,d33,d34]])):
 bY 118 [aL.cur [D.J 1 A,I f0,I i0] [D.J 1 A,I p,I a0]] (aT.vals [.agg (bk (([[I 1,I 0,I 0,D.J 1 [[I 1]]],[I 5,I 0,I 0,D.J 1 [[I 2],[I 5]]],[I 4,I (1+a),I 0,D.J 1 [[I 3]]],[I 2,I b,I 0,D.J 1 [[I 4]]],[I 7,I 0,I 0,D.J 1 [[I 1]]],[I 8,I 0,I 0,D.v (aO)]]++[[I 8,I 0,I 0,D.v (aO)]]).set 0 [d31,d32,d33,D.J 1 [[I 1],[I 6]]]) (1+e) (1+d))]):=
 h.b1
theorem alI(h:ad (Aw A cc dk d d0 bB b e f q f0 i0 g i c j k l m n o p a0 a [.b (a==0) false,.b (a==1) false,.b (a==2) false,.b (a==3) false])):
 bY 118 [aL.cur [D.J 1 A,I f0,I i0] [D.J 1 A,I p,I a0]] (aT.vals [.agg [D.J 4 [[I 1,I 0,I 0,D.J 1 [[I 1]]],[I 5,I 0,I 0,D.J 1 [[I 2],[I 5]]],[I 4,I (1+c),I 0,D.J 1 [[I 3]]],[I 2,I l,I 0,D.J 1 [[I 4]]],[I 7,I 0,I 0,D.J 1 [[I 1]]],[I 8,I 0,I 0,D.v (aO)]],I (1+d),I (1+b)]]):=
 h.b1
def PH(C A:ae)(b c d e f a:Int):aD:=bd 75 [(0,aQ 1000000000),(2,aQ 2),(3,aQ 3),(4,aW d),(5,aQ 1000000000),(6,aE.aF (bm.agg [aA 70000 4 A,au b,au c])),(7,aQ 1000000000),(8,aQ 3),(9,aE.aF (bm.one (aA 70000 4 A))),(10,aW (A.length:Int)),(11,aW d),(12,aQ 1000000000),(13,aW a),(14,.aF (.one (.a' (a==0)))),(15,.aF (.one (.a' (a==0))))] [(3,[aA 70000 4 A,au b,au c]),(2,[.v (aO),au 0,au 0]),(1000000000,[.c' 1000000100 1 C,au e,au f])]
def IK(E A:ae)(f g a e i j c d b:Int)(C:ae):aD:=bd 75 [(0,aQ 1000000000),(2,aQ 2),(3,aQ 3),(4,aW a),(5,aQ 1000000000),(6,aE.aF (bm.agg [aA 70000 4 (A.set a.toNat (bf c d b C)),au f,au g])),(7,aQ 1000000000),(8,aQ 3),(9,aE.aF (bm.one (aA 70000 4 (A.set a.toNat (bf c d b C))))),(10,aW (A.length:Int)),(11,aW a),(12,aQ 1000000000),(13,aW e),(14,.aF (.one (.a' (e==0)))),(15,.aF (.one (.a' (e==0)))),(16,aQ 3),(17,aE.aF (bm.one (aA 70000 4 (A.set a.toNat (bf c d b C))))),(18,aW a),(19,aQ 1000000000),(20,aE.aF (bm.agg [au c,au d,au b,.cj])),(21,.aF (.one (.cB (Tag.own 70000) 4 (A.set a.toNat (bf c d b C)) a.toNat 0)))] [(3,[aA 70000 4 (A.set a.toNat (bf c d b C)),au f,au g]),(2,[.v (aO),au 0,au 0]),(1000000000,[.c' 1000000100 1 E,au i,au j])]
theorem alJ{A C:ae}{n o a g i m b c d e f:Int}{E:ae}{j k l:Int}{F:ae}
  (h:cA [bT prog 252 [aL.cur [D.J 1 A,I g,I i] [D.J 1 A,I b,I c]] (aT.vals [.agg (bf d e f E)]),0<=a,a<(C.length:Int),C[a.toNat]?=some (bf j k l F)]):
  dZ prog (cN f137 5) (PH A C n o a g i m) (IK A C n o a m b c d e f E):=
 .of [[],[],[],[],[.dg [some [D.J 1 A,I b,I c]] (aT.vals [.agg (bf d e f E)])],[],[.el (bf j k l F)]] [[],[],[],[],[bT prog 252 [aL.cur [D.J 1 A,I g,I i] [D.J 1 A,I b,I c]] (aT.vals [.agg (bf d e f E)])],[0<=a,a<(C.length:Int)],[C[a.toNat]?=some (bf j k l F)]] (by kernel_rfl) (by kernel_rfl) (by kernel_rfl) h
def Lj(A:ae)(a b:Int)(C:ae)(c d e f g i j k m n:Int)(l:List O):List O:=.a (.dg [some [D.J 1 A,I a,I b]] (aT.vals [.agg (bk C c d)]))::.w A e f g::.w A i j k::.p (bT prog 118 [aL.cur [D.J 1 A,I m,I n] [D.J 1 A,I a,I b]] (aT.vals [.agg (bk C c d)]))::.k A 138 a b e f (C.length:Int) g::.k A 138 e f i j 12 k::l
theorem alK(h:ad (Lj A o p C c d e f a g i b a0 cc [.b (b==0) true,.a (.hK (IK A C c d a b j k l m n E)),.p (dZ prog (cN f137 5) (PH A C c d a g i b) (IK A C c d a b j k l m n E))])):
 bY 137 [aL.cur [D.J 1 A,I a0,I cc] [D.J 1 A,I j,I k]] (aT.vals [.agg (bk (C.set a.toNat (bf l m n E)) c d)]):=
 h.b1
theorem alL(h:ad (Lj A j k C p l b c n d e a m o [.b (a==0) false,.b (a==1) true,.w A f g i,.p (bT prog 140 [aL.cur [D.J 1 A,I d,I e] [D.J 1 A,I f,I g],aL.ro (.one (.J 1 [[I 0],[I 4],[I 5],[I (-1)]]))] (aT.vals [af i]))])):
 bY 137 [aL.cur [D.J 1 A,I m,I o] [D.J 1 A,I f,I g]] (aT.vals [.agg (bk C i l)]):=
 h.b1
def Ay(A:ae)(a b:Int)(C:ae)(c d e f g i j k m n:Int)(l:List O):List O:=Lj A a b C c d e f g i j k m n (.b (k==0) false::.b (k==1) false::l)
theorem alM(h:ad (Ay A j k C l p b c n d e a m o [.b (a==2) true,.w A f g i,.p (bT prog 140 [aL.cur [D.J 1 A,I d,I e] [D.J 1 A,I f,I g],aL.ro (.one (.J 1 [[I 0],[I 4],[I 5],[I (-1)]]))] (aT.vals [af i]))])):
 bY 137 [aL.cur [D.J 1 A,I m,I o] [D.J 1 A,I f,I g]] (aT.vals [.agg (bk C l i)]):=
 h.b1
def PI(C A:ae)(b c d e f a:Int):aD:=bd 75 [(0,aQ 1000000000),(2,aQ 2),(3,aQ 3),(4,aW d),(5,aQ 1000000000),(6,aE.aF (bm.agg [aA 70000 4 A,au b,au c])),(7,aQ 1000000000),(8,aQ 3),(9,aE.aF (bm.one (aA 70000 4 A))),(10,aW (A.length:Int)),(11,aW d),(12,aQ 1000000000),(13,aW a),(14,.aF (.one (.a' (a==0)))),(15,.aF (.one (.a' (a==0)))),(22,.aF (.one (.a' (a==1)))),(23,.aF (.one (.a' (a==1)))),(28,.aF (.one (.a' (a==2)))),(29,.aF (.one (.a' (a==2)))),(34,.aF (.one (.a' (a==3)))),(35,.aF (.one (.a' (a==3))))] [(3,[aA 70000 4 A,au b,au c]),(2,[.v (aO),au 0,au 0]),(1000000000,[.c' 1000000100 1 C,au e,au f])]
def IL(E A:ae)(g i a f:Int)(C:ae)(j k b c d e:Int):aD:=bd 75 [(0,aQ 1000000000),(2,aQ 2),(3,aQ 3),(4,aW a),(5,aQ 1000000000),(6,aE.aF (bm.agg [.J (.own 70000) 4 (A.set a.toNat (bf c d e (C++[[I (b-1)]]))),au g,au i])),(7,aQ 1000000000),(8,aQ 3),(9,.aF (.one (.J (.own 70000) 4 (A.set a.toNat (bf c d e (C++[[I (b-1)]])))))),(10,aW (A.length:Int)),(11,aW a),(12,aQ 1000000000),(13,aW f),(14,.aF (.one (.a' (f==0)))),(15,.aF (.one (.a' (f==0)))),(22,.aF (.one (.a' (f==1)))),(23,.aF (.one (.a' (f==1)))),(28,.aF (.one (.a' (f==2)))),(29,.aF (.one (.a' (f==2)))),(34,.aF (.one (.a' (f==3)))),(35,.aF (.one (.a' (f==3)))),(36,aQ 3),(37,.aF (.one (.J (.own 70000) 4 (A.set a.toNat (bf c d e (C++[[I (b-1)]])))))),(38,aW a),(39,aQ 3),(40,.aF (.one (.J (.own 70000) 4 (A.set a.toNat (bf c d e (C++[[I (b-1)]])))))),(41,aW a),(42,.aF (.one (.cB (Tag.own 70000) 4 (A.set a.toNat (bf c d e (C++[[I (b-1)]]))) a.toNat 0))),(43,.aF (.one (.cB (Tag.own 70000) 4 (A.set a.toNat (bf c d e (C++[[I (b-1)]]))) a.toNat 3))),(45,aQ 1000000000),(46,aW b),(47,aW (b-1)),(48,.aF (.one (.J (.own 48) 1 [[I (b-1)]]))),(50,.aF (.one (.cB (Tag.own 70000) 4 (A.set a.toNat (bf c d e (C++[[I (b-1)]]))) a.toNat 0))),(51,.aF (.one (.cB (Tag.own 70000) 4 (A.set a.toNat (bf c d e (C++[[I (b-1)]]))) a.toNat 3)))] [(3,[.J (.own 70000) 4 (A.set a.toNat (bf c d e (C++[[I (b-1)]]))),au g,au i]),(2,[.v (aO),au 0,au 0]),(1000000000,[.c' 1000000100 1 E,au j,au k])]
theorem alN{E C:ae}{o p a i j n k l m:Int}{A:ae}{c d b:Int}{d25 d26 d27:D}{e f g:Int}{F:ae}
  (h:cA [0<=a,a<(C.length:Int),C[a.toNat]?=some (bf k l m A),bT prog 138 [aL.cur [D.J 1 E,I i,I j] [D.J 1 E,I c,I d],aL.ro (af 9)] (aT.vals [af b]),aI .i64 (b-1),(A.length+[[I (b-1)]].length)*8<=140737488355328,A.length+[[I (b-1)]].length<=9223372036854775807,C[a.toNat]?=some [d25,d26,d27,D.J 1 A],[d25,d26,d27,D.J 1 A][3]?=some (D.J 1 A),a.toNat=a.toNat,Flat [[I (b-1)]],0<=a,a<(C.length:Int),C[a.toNat]?=some (bf e f g F),a.toNat=a.toNat]):
  dZ prog (cN f137 11) (PI E C o p a i j n) (IL E C o p a n A c d b e f g):=
 .of [[],[],[],[],[],[],[],[],[.sub,.el (bf k l m A)],[],[.dg [some [D.J 1 E,I c,I d],none] (aT.vals [af b])],[],[],[.el [d25,d26,d27,D.J 1 A]],[],[],[.el (bf e f g F)]] [[],[],[],[],[],[],[0<=a,a<(C.length:Int)],[],[C[a.toNat]?=some (bf k l m A)],[],[bT prog 138 [aL.cur [D.J 1 E,I i,I j] [D.J 1 E,I c,I d],aL.ro (af 9)] (aT.vals [af b])],[aI .i64 (b-1)],[],[(A.length+[[I (b-1)]].length)*8<=140737488355328,A.length+[[I (b-1)]].length<=9223372036854775807,C[a.toNat]?=some [d25,d26,d27,D.J 1 A],[d25,d26,d27,D.J 1 A][3]?=some (D.J 1 A),a.toNat=a.toNat,Flat [[I (b-1)]]],[0<=a,a<(C.length:Int)],[],[C[a.toNat]?=some (bf e f g F),a.toNat=a.toNat]] (by kernel_rfl) (by kernel_rfl) (by kernel_rfl) h
theorem alO(h:ad (Ay A p a0 C c d e f b g i a cc dk [.b (a==2) false,.b (a==3) true,.a (.hK (IL A C c d b a E j k l m n o)),.p (dZ prog (cN f137 11) (PI A C c d b g i a) (IL A C c d b a E j k l m n o))])):
 bY 137 [aL.cur [D.J 1 A,I cc,I dk] [D.J 1 A,I j,I k]] (aT.vals [.agg [D.J 4 (C.set b.toNat (bf m n o (E++[[I (l-1)]]))),I c,I d]]):=
 h.b1
def yY(A C:ae)(a b c d e f:Int):aD:=bd 75 [(0,aQ 1000000000),(2,aQ 2),(3,aQ 3)] [(3,[aA 70000 4 C,au a,au b]),(2,[.v (aO),au c,au d]),(1000000000,[.c' 1000000100 1 A,au e,au f])]
def CO(A C:ae)(a b c d e f:Int):aD:=bd 75 [(0,aQ 1000000000),(2,aQ 2),(3,aQ 3)] [(3,[aA 70000 4 C,au a,au b]),(2,[.v (aO),au c,au d]),(1000000000,[.c' 1000000100 1 A,au e,au f])]
def yZ(P:Program)(W:Array Oper)(A C:ae)(a b c d e f g i j:Int):aD:=
 ml P W [[],[],[],[],[.dg [some [D.J 1 A,I g,I i],none] (aT.vals [af j])],[],[]] (CO A C a b c d e f)
theorem PJ{A C:ae}{d e f g a b i j c:Int}
  (h:cA [bT prog 138 [aL.cur [D.J 1 A,I a,I b] [D.J 1 A,I i,I j],aL.ro (af 2)] (aT.vals [af c]),aI .i64 (8+c)]):
  dZ prog (cN f137 13) (CO A C d e f g a b) (yZ prog (cN f137 13) A C d e f g a b i j c):=
 .m' [0,0,0,0,1,1,0] h
theorem alP(h:ad [.a (.hK (yZ prog (cN f137 13) C A a b c d e f g i j)),.p (dZ prog (cN f137 13) (CO C A a b c d e f) (yZ prog (cN f137 13) C A a b c d e f g i j)),.b (decide ((A.length:Int)<8+j)) true,.a .wr,.g A [[I 8,I 0,I 0,D.v (aO)]] 48]):
 aX (ao f137 0) (yY C A a b c d e f) .normal (yY C (A++[[I 8,I 0,I 0,D.v (aO)]]) a b c d g i):=
 h.aV [3,0,2] [3,2,1000000000]
def IM(A C:ae)(a b c d e f:Int):aD:=bd 75 [(0,aQ 1000000000),(2,aQ 2),(3,aQ 3)] [(3,[aA 70000 4 C,au a,au b]),(2,[.v (aO),au c,au d]),(1000000000,[.c' 1000000100 1 A,au e,au f])]
theorem alQ(h:ad [.a (.hK (yZ prog (cN f137 13) C A a b c d e f g i j)),.p (dZ prog (cN f137 13) (CO C A a b c d e f) (yZ prog (cN f137 13) C A a b c d e f g i j)),.b (decide ((A.length:Int)<8+j)) false]):
 aX (ao f137 0) (yY C A a b c d e f) (.exit 1) (IM C A a b c d g i):=
 h.aV [3,2,0] [3,2,1000000000]
theorem alR(h:ad (Ay A f g C i j b c l d e a k o [.b (a==2) false,.b (a==3) false,.b (a==4) true,.l [] [3,0,2] [3,2,1000000000] (ao f137 0) (yY A C i j 0 0 d e) (.exit 1) (IM A E m n cc dk p a0)])):
 bY 137 [aL.cur [D.J 1 A,I k,I o] [D.J 1 A,I p,I a0]] (aT.vals [.agg (bk E m n)]):=
 h.b1
theorem alS(h:ad (Ay A g i C j k c d b e f a l m [.b (a==2) false,.b (a==3) false,.b (a==4) false,.b (a==5) true,.a .own,.p ((0:Int)<=none.getD 0),.p (none.getD 0<=(some b).getD (C.length:Int)),.p ((some b).getD (C.length:Int)<=(C.length:Int))])):
 bY 137 [aL.cur [D.J 1 A,I l,I m] [D.J 1 A,I e,I f]] (aT.vals [.agg [D.J 4 (List.take (((some b).getD (C.length:Int)).toNat-0) (List.drop 0 C)),I j,I k]]):=
 h.b1
theorem alT(h:ad (Ay A f g C i j b c l d e a k m [.b (a==2) false,.b (a==3) false,.b (a==4) false,.b (a==5) false])):
 bY 137 [aL.cur [D.J 1 A,I k,I m] [D.J 1 A,I d,I e]] (aT.vals [.agg (bk C i j)]):=
 h.b1
def y0(A:ae)(a b:Int)(C:ae)(c d:Int):aD:=bd 29 [(0,aQ 1000000000),(3,aE.aF (bm.one (aA 6 5 C))),(4,aW b),(5,aW a)] [(1000000000,[.c' 1000000100 1 A,au c,au d])]
theorem alU(h:ad [.w A p f g,.k A 138 a0 cc p f 6 g,.b (decide (e<g)) true,.w A i j d,.k A 138 p f i j 2 d,.v (o+d),.r 130 [af (o+d),af 0,af 2] [af a],.w A k l b,.w A m n c,.k A 138 i j k l 12 b,.k A 138 k l m n 40 c,.g C [(bj 0 a 0 b c)] 40,.h [(bj 0 a 0 b c)],.u e]):
 aX (ao f119 0) (y0 A e o C a0 cc) .normal (y0 A (e+1) a (C++[(bj 0 a 0 b c)]) m n):=
 h.aV [5,0,4,3] [1000000000]
def Ia(A C:ae)(a b:Int):aD:=bd 29 [(0,aQ 1000000000),(3,aE.aF (bm.one (aA 6 5 C)))] [(1000000000,[.c' 1000000100 1 A,au a,au b])]
theorem alV(h:ad [.w A c a b,.k A 138 e f c a 6 b,.b (decide (d<b)) false]):
 aX (ao f119 0) (y0 A d g C e f) (.exit 0) (Ia A C c a):=
 h.aV [3,0] [1000000000]
theorem alW(h:ad [.l [] [5,0,4,3] [1000000000] (ao f119 0) (y0 A 0 0 [] a b) (.exit 0) (Ia A C c d)]):
 bY 119 [aL.cur [D.J 1 A,I a,I b] [D.J 1 A,I c,I d]] (aT.vals [aP 5 C]):=
 h.b1
def Ib(A:ae)(a c d b:Int):aD:=bd 27 [(0,aQ 1000000000),(2,aQ 2),(3,aQ 3),(4,aQ 1000000000),(5,.aF (.one (.J (.own 5) 1 [[I 1],[I 1],[I 1],[I 2],[I 3],[I 3],[I 3],[I 4],[I 4],[I 5],[I 6],[I 6],[I 7]]))),(6,aW a),(7,aQ 1000000000),(8,aW b),(9,aE.aF (bm.agg [au a,au b,au 0])),(10,aQ 3),(11,aW a),(12,.aF (.one (.a' (a==4)))),(13,.aF (.one (.v (Value.bool true)))),(14,.aF (.one (.v (Value.tuple #[])))),(15,.aF (.one (.v (Value.tuple #[])))),(16,.aF (.one (.v (Value.tuple #[])))),(17,.aF (.one (.v (Value.bool true))))] [(3,[au a,au b,au 0]),(2,[au 0,au 0,au 0]),(1000000000,[.c' 1000000100 1 A,au c,au d])]
def Ic(P:Program)(W:Array Oper)(A:ae)(e f g a b c d:Int):aD:=
 ml P W [[],[],[],[],[.dg [some [D.J 1 A,I b,I c],none] (aT.vals [af d])],[],[],[],[]] (Ib A e f g a)
theorem alX{A:ae}{g c d a e f b:Int}
  (h:cA [aI .i64 (a+1),bT prog 138 [aL.cur [D.J 1 A,I c,I d] [D.J 1 A,I e,I f],aL.ro (af 2)] (aT.vals [af b]),aI .i64 (a+1+b),(3:Int)≠0]):
  dZ prog (cN f242 3) (Ib A g c d a) (Ic prog (cN f242 3) A g c d a e f b):=
 .m' [0,0,1,0,1,1,1,0,0] h
def Lh(A:ae)(a b c d e f g i:Int)(l:List O):List O:=.w A a b c::.w A d e f::.p (bT prog 140 [aL.cur [D.J 1 A,I g,I i] [D.J 1 A,I a,I b],aL.ro (.one (.J 1 [[I 1],[I 1],[I 1],[I 2],[I 3],[I 3],[I 3],[I 4],[I 4],[I 5],[I 6],[I 6],[I 7]]))] (aT.vals [af c]))::.k A 138 a b d e 3 f::l
theorem alY(h:ad (Lh A i j b c d a k l [.b (b==4) true,.a (.hK (Ic prog (cN f242 3) A b c d a e f g)),.p (dZ prog (cN f242 3) (Ib A b c d a) (Ic prog (cN f242 3) A b c d a e f g))])):
 bY 242 [aL.cur [D.J 1 A,I k,I l] [D.J 1 A,I e,I f]] (aT.vals [.agg [I b,I a,I ((a+1+g).tmod 3)]]):=
 h.b1
def Ie(A:ae)(a c d b:Int):aD:=bd 27 [(0,aQ 1000000000),(2,aQ 2),(3,aQ 3),(4,aQ 1000000000),(5,.aF (.one (.J (.own 5) 1 [[I 1],[I 1],[I 1],[I 2],[I 3],[I 3],[I 3],[I 4],[I 4],[I 5],[I 6],[I 6],[I 7]]))),(6,aW a),(7,aQ 1000000000),(8,aW b),(9,aE.aF (bm.agg [au a,au b,au 0])),(10,aQ 3),(11,aW a),(12,.aF (.one (.a' (a==4)))),(13,.aF (.one (.v (Value.bool false)))),(14,aQ 3),(15,aW a),(16,.aF (.one (.a' (a==5)))),(17,.aF (.one (.a' (a==5))))] [(3,[au a,au b,au 0]),(2,[au 0,au 0,au 0]),(1000000000,[.c' 1000000100 1 A,au c,au d])]
def Ig(P:Program)(W:Array Oper)(A:ae)(e f g a b c d:Int):aD:=
 ml P W [[],[],[],[],[.dg [some [D.J 1 A,I b,I c],none] (aT.vals [af d])],[],[],[],[]] (Ie A e f g a)
theorem ak7{A:ae}{g c d a e f b:Int}
  (h:cA [aI .i64 (a+1),bT prog 138 [aL.cur [D.J 1 A,I c,I d] [D.J 1 A,I e,I f],aL.ro (af 2)] (aT.vals [af b]),aI .i64 (a+1+b),(3:Int)≠0]):
  dZ prog (cN f242 3) (Ie A g c d a) (Ig prog (cN f242 3) A g c d a e f b):=
 .m' [0,0,1,0,1,1,1,0,0] h
theorem ak8(h:ad (Lh A i j a c d b k l [.b (a==4) false,.b (a==5) true,.a (.hK (Ig prog (cN f242 3) A a c d b e f g)),.p (dZ prog (cN f242 3) (Ie A a c d b) (Ig prog (cN f242 3) A a c d b e f g))])):
 bY 242 [aL.cur [D.J 1 A,I k,I l] [D.J 1 A,I e,I f]] (aT.vals [.agg [I a,I b,I ((b+1+g).tmod 3)]]):=
 h.b1
theorem ak9(h:ad (Lh A c d a e f b g i [.b (a==4) false,.b (a==5) false])):
 bY 242 [aL.cur [D.J 1 A,I g,I i] [D.J 1 A,I e,I f]] (aT.vals [.agg [I a,I b,I 0]]):=
 h.b1
def y1(A:ae)(a b:Int)(C:ae)(c d:Int):aD:=bd 22 [(0,aQ 1000000000),(1,aW a),(5,aE.aF (bm.one (aA 7 3 C))),(6,aW b)] [(1000000000,[.c' 1000000100 1 A,au c,au d])]
theorem ala(h:ad [.w A k f g,.u d,.k A 138 l m k f (d+1) g,.b (decide (e<g)) true,.a (.dg [some [D.J 1 A,I i,I j]] (aT.vals [.agg [I a,I b,I c]])),.p (bT prog 242 [aL.cur [D.J 1 A,I k,I f] [D.J 1 A,I i,I j]] (aT.vals [.agg [I a,I b,I c]])),.g C [[I a,I b,I c]] 24,.h [[I a,I b,I c]],.u e]):
 aX (ao f120 0) (y1 A d e C l m) .normal (y1 A d (e+1) (C++[[I a,I b,I c]]) i j):=
 h.aV [6,0,1,5] [1000000000]
def Ih(A C:ae)(a b:Int):aD:=bd 22 [(0,aQ 1000000000),(5,aE.aF (bm.one (aA 7 3 C)))] [(1000000000,[.c' 1000000100 1 A,au a,au b])]
theorem alb(h:ad [.w A d a b,.u c,.k A 138 f g d a (c+1) b,.b (decide (e<b)) false]):
 aX (ao f120 0) (y1 A c e C f g) (.exit 0) (Ih A C d a):=
 h.aV [5,0] [1000000000]
theorem alc(h:ad [.l [] [6,0,1,5] [1000000000] (ao f120 0) (y1 A c 0 [] a b) (.exit 0) (Ih A C d e)]):
 bY 120 [aL.cur [D.J 1 A,I a,I b] [D.J 1 A,I d,I e],aL.ro (af c)] (aT.vals [aP 3 C]):=
 h.b1
