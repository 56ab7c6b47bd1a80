import Derived.Test.YtdchjefneblpgaaGreatGE
set_option linter.unusedVariables false
set_option linter.unusedSimpArgs false
namespace Go.Proofs.YtdchjefneblpgaaGreat
open Go.Sx Go.RowKit Go.Proofs.Tryz
variable {a b c d e f g i j k l m n o p a0 cf dg d0 bE f0 g0 : Int} {A C E F : ai} {q : Bool}
def x'(A:ai)(a b:Int):aE:=bi 32 [(0,.aD (.one (.db 1000000100 1 A))),(3,aZ b),(4,aZ a)] []
theorem aqc(h:ak [.f A a true,.b (decide (a<4000)) true,.v (b*131),.x A a [D.v (Value.int IntKind.u8 c)],.a (.oE (aZ d)),.v c,.v (b*131+c),.v (b*131+c+7),.p (me prog BinOp.and 3 (Operand.tmp 26) (Operand.const (Value.int IntKind.i64 1073741823)) (Value.int IntKind.i64 (b*131+c+7)) (Value.int IntKind.i64 1073741823) (Value.int IntKind.i64 d)),.u a]):
 bb (az f117 0) (x' A a b) .normal (x' A (a+1) d):=
 h.a' [4,0,3] []
def Ej(A:ai)(a:Int):aE:=bi 32 [(0,.aD (.one (.db 1000000100 1 A))),(3,aZ a)] []
theorem aqd(h:ak [.f A a true,.b (decide (a<4000)) false]):
 bb (az f117 0) (x' A a b) (.exit 0) (Ej A b):=
 h.a' [0,3] []
theorem aqe(h:ak [.f A a false]):
 bb (az f117 0) (x' A a b) (.exit 0) (Ej A b):=
 h.a' [0,3] []
theorem aqf(h:ak [.v (94701+(A.length:Int)),.l [] [4,0,3] [] (az f117 0) (x' A 0 (94701+(A.length:Int))) (.exit 0) (Ej A a)]):
 bZ 117 [aJ.ro (a7 1 A)] (aT.iH [some 0,none,none] [D.J 1 A,I 0,I a]):=
 h.b0
def Vt(a b c d e:Int)(l:List O):List O:=.a .wr::.a .wr::.a (.oE (aZ a))::.a (.oE (aZ b))::.a (.oE (aZ c))::.a (.oE (aZ d))::.p (me prog BinOp.shr 3 (Operand.tmp 16) (Operand.const (Value.int IntKind.u64 33)) (Value.int IntKind.i64 (IntKind.i64.wrap (IntKind.i64.wrap (e*6364136223846793005)+1442695040888963407))) (Value.int IntKind.u64 33) (Value.int IntKind.i64 a))::.p (me prog BinOp.shr 3 (Operand.tmp 21) (Operand.const (Value.int IntKind.u64 45)) (Value.int IntKind.i64 (IntKind.i64.wrap (IntKind.i64.wrap (e*6364136223846793005)+1442695040888963407))) (Value.int IntKind.u64 45) (Value.int IntKind.i64 b))::.p (me prog BinOp.xor 3 (Operand.tmp 17) (Operand.tmp 22) (Value.int IntKind.i64 a) (Value.int IntKind.i64 b) (Value.int IntKind.i64 c))::.p (me prog BinOp.and 3 (Operand.tmp 23) (Operand.const (Value.int IntKind.i64 255)) (Value.int IntKind.i64 c) (Value.int IntKind.i64 255) (Value.int IntKind.i64 d))::l
theorem aqg(h:ak (Vt c d e f b [.i A a [D.v (Value.int IntKind.u8 i)],.a .wr,.a .wr,.a (.oE (aZ g)),.p (me prog BinOp.and 3 (Operand.tmp 47) (Operand.const (Value.int IntKind.i64 255)) (Value.int IntKind.i64 (IntKind.i64.wrap (f+IntKind.i64.wrap i))) (Value.int IntKind.i64 255) (Value.int IntKind.i64 g)),.u a])):
 bZ 253 [aJ.cur [D.J 1 A,I a,I b] [D.J 1 A,I (a+1),I (IntKind.i64.wrap (IntKind.i64.wrap (b*6364136223846793005)+1442695040888963407))]] (aT.vals [al g]):=
 h.b0
theorem aqh(h:ak (Vt c d e f a [.f A b false])):
 bZ 253 [aJ.cur [D.J 1 A,I b,I a] [D.J 1 A,I b,I (IntKind.i64.wrap (IntKind.i64.wrap (a*6364136223846793005)+1442695040888963407))]] (aT.vals [al f]):=
 h.b0
theorem aqi(h:ak [.b (decide (a<=0)) false,.b (decide (a<=256)) true,.a (.dq [some [D.J 1 A,I b,I c]] (aT.vals [al d])),.p (bU prog 253 [aJ.cur [D.J 1 A,I e,I f] [D.J 1 A,I b,I c]] (aT.vals [al d])),.p (a≠0)]):
 bZ 138 [aJ.cur [D.J 1 A,I e,I f] [D.J 1 A,I b,I c],aJ.ro (al a)] (aT.vals [al (d.tmod a)]):=
 h.b0
theorem apt(h:ak [.b (decide (d<=0)) false,.b (decide (d<=256)) false,.a (.dq [some [D.J 1 A,I l,I m]] (aT.vals [al b])),.a (.dq [some [D.J 1 A,I n,I f]] (aT.vals [al a])),.a (.dq [some [D.J 1 A,I g,I i]] (aT.vals [al c])),.a (.dq [some [D.J 1 A,I j,I k]] (aT.vals [al e])),.p (bU prog 253 [aJ.cur [D.J 1 A,I o,I p] [D.J 1 A,I l,I m]] (aT.vals [al b])),.p (bU prog 253 [aJ.cur [D.J 1 A,I l,I m] [D.J 1 A,I n,I f]] (aT.vals [al a])),.p (bU prog 253 [aJ.cur [D.J 1 A,I n,I f] [D.J 1 A,I g,I i]] (aT.vals [al c])),.p (bU prog 253 [aJ.cur [D.J 1 A,I g,I i] [D.J 1 A,I j,I k]] (aT.vals [al e])),.v (b*16777216),.v (a*65536),.v (b*16777216+a*65536),.v (c*256),.v (b*16777216+a*65536+c*256),.v (b*16777216+a*65536+c*256+e),.p (d≠0)]):
 bZ 138 [aJ.cur [D.J 1 A,I o,I p] [D.J 1 A,I j,I k],aJ.ro (al d)] (aT.vals [al ((b*16777216+a*65536+c*256+e).tmod d)]):=
 h.b0
theorem apu(h:ak [.w A a b c,.k A 138 d e a b f c]):
 bZ 136 [aJ.cur [D.J 1 A,I d,I e] [D.J 1 A,I a,I b],aJ.ro (al f)] (aT.vals [aI (c==0)]):=
 h.b0
theorem apv(h:ak [.w A a b c,.k A 138 d e a b (C.length:Int) c,.x C c [I f]]):
 bZ 140 [aJ.cur [D.J 1 A,I d,I e] [D.J 1 A,I a,I b],aJ.ro (a7 1 C)] (aT.vals [al f]):=
 h.b0
theorem apw(h:ak [.w A b c d,.w A e f a,.k A 138 g i b c 4 d,.k A 138 b c e f 5 a]):
 bZ 325 [aJ.cur [D.J 1 A,I g,I i] [D.J 1 A,I e,I f]] (aT.vals [.agg [I d,I a]]):=
 h.b0
def Mk(A:ai)(a b c d e f g i j:Int)(l:List O):List O:=.a (.dq [some [D.J 1 A,I a,I b]] (aT.vals [.agg [I c,I d]]))::.w A e f g::.p (bU prog 325 [aJ.cur [D.J 1 A,I i,I j] [D.J 1 A,I a,I b]] (aT.vals [.agg [I c,I d]]))::.k A 138 a b e f 10 g::l
theorem apx(h:ak (Mk A f g m i j a b k l [.b (b==0) true,.w A c d e,.p (bU prog 140 [aJ.cur [D.J 1 A,I j,I a] [D.J 1 A,I c,I d],aJ.ro (.one (.J 1 [[I (-1)],[I 3],[I 4],[I 9223372036854775807]]))] (aT.vals [al e]))])):
 bZ 272 [aJ.cur [D.J 1 A,I k,I l] [D.J 1 A,I c,I d]] (aT.vals [.agg [I e,I i]]):=
 h.b0
theorem apy(h:ak (Mk A f g i m j b a k l [.b (a==0) false,.b (a==1) true,.w A c d e,.p (bU prog 140 [aJ.cur [D.J 1 A,I j,I b] [D.J 1 A,I c,I d],aJ.ro (.one (.J 1 [[I (-1)],[I 5],[I 6],[I 7],[I (-9223372036854775808)]]))] (aT.vals [al e]))])):
 bZ 272 [aJ.cur [D.J 1 A,I k,I l] [D.J 1 A,I c,I d]] (aT.vals [.agg [I i,I e]]):=
 h.b0
theorem apz(h:ak (Mk A c d e f g b a i j [.b (a==0) false,.b (a==1) false])):
 bZ 272 [aJ.cur [D.J 1 A,I i,I j] [D.J 1 A,I g,I b]] (aT.vals [.agg [I e,I f]]):=
 h.b0
theorem apA(h:ak [.w A j k l,.a (.dq [some [D.J 1 A,I m,I n]] (aT.vals [.agg [I a,I b]])),.w A c d e,.w A f g i,.k A 138 o p j k 5 l,.p (bU prog 325 [aJ.cur [D.J 1 A,I j,I k] [D.J 1 A,I m,I n]] (aT.vals [.agg [I a,I b]])),.k A 138 m n c d 12 e,.k A 138 c d f g 40 i]):
 bZ 271 [aJ.cur [D.J 1 A,I o,I p] [D.J 1 A,I f,I g]] (aT.vals [.agg (bu l a b e i)]):=
 h.b0
def B6(A:ai)(a b c d e f g i j k m n:Int)(l:List O):List O:=.a (.dq [some [D.J 1 A,I a,I b]] (aT.vals [.agg (bu c d e f g)]))::.w A i j k::.p (bU prog 271 [aJ.cur [D.J 1 A,I m,I n] [D.J 1 A,I a,I b]] (aT.vals [.agg (bu c d e f g)]))::.k A 138 a b i j 12 k::l
theorem apB(h:ak (B6 A i j p k l m a b c d n o [.b (d==0) true,.w A e f g,.p (bU prog 140 [aJ.cur [D.J 1 A,I b,I c] [D.J 1 A,I e,I f],aJ.ro (.one (.J 1 [[I (-1)],[I 7],[I 8]]))] (aT.vals [al g]))])):
 bZ 178 [aJ.cur [D.J 1 A,I n,I o] [D.J 1 A,I e,I f]] (aT.vals [.agg (bu g k l m a)]):=
 h.b0
theorem apC(h:ak (B6 A j k l p a0 m b c d a n o [.b (a==0) false,.b (a==1) true,.a (.dq [some [D.J 1 A,I e,I f]] (aT.vals [.agg [I g,I i]])),.p (bU prog 272 [aJ.cur [D.J 1 A,I c,I d] [D.J 1 A,I e,I f]] (aT.vals [.agg [I g,I i]]))])):
 bZ 178 [aJ.cur [D.J 1 A,I n,I o] [D.J 1 A,I e,I f]] (aT.vals [.agg (bu l g i m b)]):=
 h.b0
theorem apD(h:ak (B6 A i j k l m p b c d a n o [.b (a==0) false,.b (a==1) false,.b (a==2) true,.w A e f g,.p (bU prog 140 [aJ.cur [D.J 1 A,I c,I d] [D.J 1 A,I e,I f],aJ.ro (.one (.J 1 [[I (-1)],[I 99],[I 100],[I (-9223372036854775808)]]))] (aT.vals [al g]))])):
 bZ 178 [aJ.cur [D.J 1 A,I n,I o] [D.J 1 A,I e,I f]] (aT.vals [.agg (bu k l m g b)]):=
 h.b0
theorem apE(h:ak (B6 A g i j k l m o b c a n p [.b (a==0) false,.b (a==1) false,.b (a==2) false,.b (a==3) true,.w A d e f,.p (bU prog 140 [aJ.cur [D.J 1 A,I b,I c] [D.J 1 A,I d,I e],aJ.ro (.one (.J 1 [[I (-1)],[I 999],[I 1000],[I 9223372036854775807]]))] (aT.vals [al f]))])):
 bZ 178 [aJ.cur [D.J 1 A,I n,I p] [D.J 1 A,I d,I e]] (aT.vals [.agg (bu j k l m f)]):=
 h.b0
theorem apF(h:ak (B6 A e f g i j k b c d a l m [.b (a==0) false,.b (a==1) false,.b (a==2) false,.b (a==3) false])):
 bZ 178 [aJ.cur [D.J 1 A,I l,I m] [D.J 1 A,I c,I d]] (aT.vals [.agg (bu g i j k b)]):=
 h.b0
def Vu(A:ai)(a b c d e f g i:Int)(q:Bool)(j k:Int)(l:List O):List O:=.w A a b c::.w A d e f::.y A g i q::.k A 138 j k a b 3 c::.v (1+c)::.k A 138 a b d e 3 f::.v (1+f)::.m A 136 d e g i 3 q::l
def B4(A:ai)(a b c d e f g i:Int)(q:Bool)(j k m n o p ff fQ c1 d1 e1 f1 g1 i1:Int)(l:List O):List O:=Vu A a b c d e f g i q j k (.b q true::.w A m n o::.w A p ff fQ::.w A c1 d1 e1::.w A f1 g1 i1::.k A 138 g i m n 3 o::.v (1+o)::.k A 138 m n p ff 4 fQ::.k A 138 p ff c1 d1 3 e1::.v (1+e1)::.k A 138 c1 d1 f1 g1 6 i1::l)
theorem apG{A:ai}{f0 g0 cf dg e d0 bE c f g:Int}{q:Bool}{i j a k l b m n d o p a0:Int}{d31 d32 d33 d34:D}(h:ak (B4 A cf dg e d0 bE c f g q f0 g0 i j a k l b m n d o p a0 [.b (a0==0) true,.p ((0:Int)<=3),.p (3<(↑[[I 1,I 0,I 0,D.J 1 [[I 1]]],[I 6,I 0,I 0,D.J 1 [[I 2],[I 5]]],[I 4,I (1+a),I 0,D.J 1 [[I 3]]],[I 2,I b,I 0,D.J 1 [[I 4]]],[I 7,I 0,I 0,D.J 1 [[I 1]]],[I 8,I 0,I 0,D.v (aO)]].length:Int)),.e [[I 1,I 0,I 0,D.J 1 [[I 1]]],[I 6,I 0,I 0,D.J 1 [[I 2],[I 5]]],[I 4,I (1+a),I 0,D.J 1 [[I 3]]],[I 2,I b,I 0,D.J 1 [[I 4]]],[I 7,I 0,I 0,D.J 1 [[I 1]]],[I 8,I 0,I 0,D.v (aO)]] 3 [d31,d32,d33,d34]])):
 bZ 118 [aJ.cur [D.J 1 A,I f0,I g0] [D.J 1 A,I o,I p]] (aT.vals [.agg (bS ([[I 1,I 0,I 0,D.J 1 [[I 1]]],[I 6,I 0,I 0,D.J 1 [[I 2],[I 5]]],[I 4,I (1+a),I 0,D.J 1 [[I 3]]],[I 2,I b,I 0,D.J 1 [[I 4]]],[I 7,I 0,I 0,D.J 1 [[I 1]]],[I 8,I 0,I 0,D.v (aO)]].set 3 [I 3,I (1+d),I 0,D.J 1 [[I 4]]]) (1+e) (1+c))]):=
 h.b0
theorem apH{A:ai}{f0 g0 cf dg e d0 bE c f g:Int}{q:Bool}{i j a k l b m n o p a0 d:Int}{d31 d32 d33 d34:D}(h:ak (B4 A cf dg e d0 bE c f g q f0 g0 i j a k l b m n o p a0 d [.b (d==0) false,.b (d==1) true,.p ((0:Int)<=4),.p (4<(↑[[I 1,I 0,I 0,D.J 1 [[I 1]]],[I 6,I 0,I 0,D.J 1 [[I 2],[I 5]]],[I 4,I (1+a),I 0,D.J 1 [[I 3]]],[I 2,I b,I 0,D.J 1 [[I 4]]],[I 7,I 0,I 0,D.J 1 [[I 1]]],[I 8,I 0,I 0,D.v (aO)]].length:Int)),.e [[I 1,I 0,I 0,D.J 1 [[I 1]]],[I 6,I 0,I 0,D.J 1 [[I 2],[I 5]]],[I 4,I (1+a),I 0,D.J 1 [[I 3]]],[I 2,I b,I 0,D.J 1 [[I 4]]],[I 7,I 0,I 0,D.J 1 [[I 1]]],[I 8,I 0,I 0,D.v (aO)]] 4 [d31,d32,d33,d34]])):
 bZ 118 [aJ.cur [D.J 1 A,I f0,I g0] [D.J 1 A,I p,I a0]] (aT.vals [.agg (bS ([[I 1,I 0,I 0,D.J 1 [[I 1]]],[I 6,I 0,I 0,D.J 1 [[I 2],[I 5]]],[I 4,I (1+a),I 0,D.J 1 [[I 3]]],[I 2,I b,I 0,D.J 1 [[I 4]]],[I 7,I 0,I 0,D.J 1 [[I 1]]],[I 8,I 0,I 0,D.v (aO)]].set 4 [I 8,I 0,I 0,D.v (aO)]) (1+e) (1+c))]):=
 h.b0
theorem apI{A:ai}{f0 g0 cf dg e d0 bE d f g:Int}{q:Bool}{i j a k l b m n o p a0 c:Int}{d31 d32 d33 d34:D}(h:ak (B4 A cf dg e d0 bE d f g q f0 g0 i j a k l b m n o p a0 c [.b (c==0) false,.b (c==1) false,.b (c==2) true,.p ((0:Int)<=2),.p (2<(↑[[I 1,I 0,I 0,D.J 1 [[I 1]]],[I 6,I 0,I 0,D.J 1 [[I 2],[I 5]]],[I 4,I (1+a),I 0,D.J 1 [[I 3]]],[I 2,I b,I 0,D.J 1 [[I 4]]],[I 7,I 0,I 0,D.J 1 [[I 1]]],[I 8,I 0,I 0,D.v (aO)]].length:Int)),.e [[I 1,I 0,I 0,D.J 1 [[I 1]]],[I 6,I 0,I 0,D.J 1 [[I 2],[I 5]]],[I 4,I (1+a),I 0,D.J 1 [[I 3]]],[I 2,I b,I 0,D.J 1 [[I 4]]],[I 7,I 0,I 0,D.J 1 [[I 1]]],[I 8,I 0,I 0,D.v (aO)]] 2 [d31,d32,d33,d34]])):
 bZ 118 [aJ.cur [D.J 1 A,I f0,I g0] [D.J 1 A,I p,I a0]] (aT.vals [.agg (bS ([[I 1,I 0,I 0,D.J 1 [[I 1]]],[I 6,I 0,I 0,D.J 1 [[I 2],[I 5]]],[I 4,I (1+a),I 0,D.J 1 [[I 3]]],[I 2,I b,I 0,D.J 1 [[I 4]]],[I 7,I 0,I 0,D.J 1 [[I 1]]],[I 8,I 0,I 0,D.v (aO)]].set 2 [d31,d32,d33,D.J 1 [[I 3],[I 4]]]) (1+e) (1+d))]):=
 h.b0
theorem apJ{A:ai}{f0 g0 cf dg e d0 bE d f g:Int}{q:Bool}{i j a k l b m n o p a0 c:Int}{d31 d32 d33 d34:D}(h:ak (B4 A cf dg e d0 bE d f g q f0 g0 i j a k l b m n o p a0 c [.b (c==0) false,.b (c==1) false,.b (c==2) false,.b (c==3) true,.a .wr,.p (([[I 1,I 0,I 0,D.J 1 [[I 1]]],[I 6,I 0,I 0,D.J 1 [[I 2],[I 5]]],[I 4,I (1+a),I 0,D.J 1 [[I 3]]],[I 2,I b,I 0,D.J 1 [[I 4]]],[I 7,I 0,I 0,D.J 1 [[I 1]]],[I 8,I 0,I 0,D.v (aO)]].length+[[I 8,I 0,I 0,D.v (aO)]].length)*48<=140737488355328),.p ([[I 1,I 0,I 0,D.J 1 [[I 1]]],[I 6,I 0,I 0,D.J 1 [[I 2],[I 5]]],[I 4,I (1+a),I 0,D.J 1 [[I 3]]],[I 2,I b,I 0,D.J 1 [[I 4]]],[I 7,I 0,I 0,D.J 1 [[I 1]]],[I 8,I 0,I 0,D.v (aO)]].length+[[I 8,I 0,I 0,D.v (aO)]].length<=9223372036854775807),.p ((0:Int)<=0),.p (0<(↑([[I 1,I 0,I 0,D.J 1 [[I 1]]],[I 6,I 0,I 0,D.J 1 [[I 2],[I 5]]],[I 4,I (1+a),I 0,D.J 1 [[I 3]]],[I 2,I b,I 0,D.J 1 [[I 4]]],[I 7,I 0,I 0,D.J 1 [[I 1]]],[I 8,I 0,I 0,D.v (aO)]]++[[I 8,I 0,I 0,D.v (aO)]]).length:Int)),.e ([[I 1,I 0,I 0,D.J 1 [[I 1]]],[I 6,I 0,I 0,D.J 1 [[I 2],[I 5]]],[I 4,I (1+a),I 0,D.J 1 [[I 3]]],[I 2,I b,I 0,D.J 1 [[I 4]]],[I 7,I 0,I 0,D.J 1 [[I 1]]],[I 8,I 0,I 0,D.v (aO)]]++[[I 8,I 0,I 0,D.v (aO)]]) 0 [d31,d32,d33,d34]])):
 bZ 118 [aJ.cur [D.J 1 A,I f0,I g0] [D.J 1 A,I p,I a0]] (aT.vals [.agg (bS (([[I 1,I 0,I 0,D.J 1 [[I 1]]],[I 6,I 0,I 0,D.J 1 [[I 2],[I 5]]],[I 4,I (1+a),I 0,D.J 1 [[I 3]]],[I 2,I b,I 0,D.J 1 [[I 4]]],[I 7,I 0,I 0,D.J 1 [[I 1]]],[I 8,I 0,I 0,D.v (aO)]]++[[I 8,I 0,I 0,D.v (aO)]]).set 0 [d31,d32,d33,D.J 1 [[I 1],[I 6]]]) (1+e) (1+d))]):=
 h.b0
theorem apK(h:ak (B4 A cf dg d d0 bE b e f q f0 g0 g i c j k l m n o p a0 a [.b (a==0) false,.b (a==1) false,.b (a==2) false,.b (a==3) false])):
 bZ 118 [aJ.cur [D.J 1 A,I f0,I g0] [D.J 1 A,I p,I a0]] (aT.vals [.agg [D.J 4 [[I 1,I 0,I 0,D.J 1 [[I 1]]],[I 6,I 0,I 0,D.J 1 [[I 2],[I 5]]],[I 4,I (1+c),I 0,D.J 1 [[I 3]]],[I 2,I l,I 0,D.J 1 [[I 4]]],[I 7,I 0,I 0,D.J 1 [[I 1]]],[I 8,I 0,I 0,D.v (aO)]],I (1+d),I (1+b)]]):=
 h.b0
def B5(A:ai)(a b c d e f g i:Int)(q:Bool)(j k m n o p ff fQ c1 d1 e1 f1 g1 i1:Int)(l:List O):List O:=Vu A a b c d e f g i q j k (.b q false::.w A m n o::.w A p ff fQ::.w A c1 d1 e1::.w A f1 g1 i1::.k A 138 g i m n 3 o::.v (1+o)::.k A 138 m n p ff 4 fQ::.k A 138 p ff c1 d1 3 e1::.v (1+e1)::.k A 138 c1 d1 f1 g1 6 i1::l)
theorem apL{A:ai}{f0 g0 cf dg e d0 bE c f g:Int}{q:Bool}{i j a k l b m n d o p a0:Int}{d31 d32 d33 d34:D}(h:ak (B5 A cf dg e d0 bE c f g q f0 g0 i j a k l b m n d o p a0 [.b (a0==0) true,.p ((0:Int)<=3),.p (3<(↑[[I 1,I 0,I 0,D.J 1 [[I 1]]],[I 5,I 0,I 0,D.J 1 [[I 2],[I 5]]],[I 4,I (1+a),I 0,D.J 1 [[I 3]]],[I 2,I b,I 0,D.J 1 [[I 4]]],[I 7,I 0,I 0,D.J 1 [[I 1]]],[I 8,I 0,I 0,D.v (aO)]].length:Int)),.e [[I 1,I 0,I 0,D.J 1 [[I 1]]],[I 5,I 0,I 0,D.J 1 [[I 2],[I 5]]],[I 4,I (1+a),I 0,D.J 1 [[I 3]]],[I 2,I b,I 0,D.J 1 [[I 4]]],[I 7,I 0,I 0,D.J 1 [[I 1]]],[I 8,I 0,I 0,D.v (aO)]] 3 [d31,d32,d33,d34]])):
 bZ 118 [aJ.cur [D.J 1 A,I f0,I g0] [D.J 1 A,I o,I p]] (aT.vals [.agg (bS ([[I 1,I 0,I 0,D.J 1 [[I 1]]],[I 5,I 0,I 0,D.J 1 [[I 2],[I 5]]],[I 4,I (1+a),I 0,D.J 1 [[I 3]]],[I 2,I b,I 0,D.J 1 [[I 4]]],[I 7,I 0,I 0,D.J 1 [[I 1]]],[I 8,I 0,I 0,D.v (aO)]].set 3 [I 3,I (1+d),I 0,D.J 1 [[I 4]]]) (1+e) (1+c))]):=
 h.b0
theorem apM{A:ai}{f0 g0 cf dg e d0 bE c f g:Int}{q:Bool}{i j a k l b m n o p a0 d:Int}{d31 d32 d33 d34:D}(h:ak (B5 A cf dg e d0 bE c f g q f0 g0 i j a k l b m n o p a0 d [.b (d==0) false,.b (d==1) true,.p ((0:Int)<=4),.p (4<(↑[[I 1,I 0,I 0,D.J 1 [[I 1]]],[I 5,I 0,I 0,D.J 1 [[I 2],[I 5]]],[I 4,I (1+a),I 0,D.J 1 [[I 3]]],[I 2,I b,I 0,D.J 1 [[I 4]]],[I 7,I 0,I 0,D.J 1 [[I 1]]],[I 8,I 0,I 0,D.v (aO)]].length:Int)),.e [[I 1,I 0,I 0,D.J 1 [[I 1]]],[I 5,I 0,I 0,D.J 1 [[I 2],[I 5]]],[I 4,I (1+a),I 0,D.J 1 [[I 3]]],[I 2,I b,I 0,D.J 1 [[I 4]]],[I 7,I 0,I 0,D.J 1 [[I 1]]],[I 8,I 0,I 0,D.v (aO)]] 4 [d31,d32,d33,d34]])):
 bZ 118 [aJ.cur [D.J 1 A,I f0,I g0] [D.J 1 A,I p,I a0]] (aT.vals [.agg (bS ([[I 1,I 0,I 0,D.J 1 [[I 1]]],[I 5,I 0,I 0,D.J 1 [[I 2],[I 5]]],[I 4,I (1+a),I 0,D.J 1 [[I 3]]],[I 2,I b,I 0,D.J 1 [[I 4]]],[I 7,I 0,I 0,D.J 1 [[I 1]]],[I 8,I 0,I 0,D.v (aO)]].set 4 [I 8,I 0,I 0,D.v (aO)]) (1+e) (1+c))]):=
 h.b0
theorem apN{A:ai}{f0 g0 cf dg e d0 bE d f g:Int}{q:Bool}{i j a k l b m n o p a0 c:Int}{d31 d32 d33 d34:D}(h:ak (B5 A cf dg e d0 bE d f g q f0 g0 i j a k l b m n o p a0 c [.b (c==0) false,.b (c==1) false,.b (c==2) true,.p ((0:Int)<=2),.p (2<(↑[[I 1,I 0,I 0,D.J 1 [[I 1]]],[I 5,I 0,I 0,D.J 1 [[I 2],[I 5]]],[I 4,I (1+a),I 0,D.J 1 [[I 3]]],[I 2,I b,I 0,D.J 1 [[I 4]]],[I 7,I 0,I 0,D.J 1 [[I 1]]],[I 8,I 0,I 0,D.v (aO)]].length:Int)),.e [[I 1,I 0,I 0,D.J 1 [[I 1]]],[I 5,I 0,I 0,D.J 1 [[I 2],[I 5]]],[I 4,I (1+a),I 0,D.J 1 [[I 3]]],[I 2,I b,I 0,D.J 1 [[I 4]]],[I 7,I 0,I 0,D.J 1 [[I 1]]],[I 8,I 0,I 0,D.v (aO)]] 2 [d31,d32,d33,d34]])):
 bZ 118 [aJ.cur [D.J 1 A,I f0,I g0] [D.J 1 A,I p,I a0]] (aT.vals [.agg (bS ([[I 1,I 0,I 0,D.J 1 [[I 1]]],[I 5,I 0,I 0,D.J 1 [[I 2],[I 5]]],[I 4,I (1+a),I 0,D.J 1 [[I 3]]],[I 2,I b,I 0,D.J 1 [[I 4]]],[I 7,I 0,I 0,D.J 1 [[I 1]]],[I 8,I 0,I 0,D.v (aO)]].set 2 [d31,d32,d33,D.J 1 [[I 3],[I 4]]]) (1+e) (1+d))]):=
 h.b0
theorem apO{A:ai}{f0 g0 cf dg e d0 bE d f g:Int}{q:Bool}{i j a k l b m n o p a0 c:Int}{d31 d32 d33 d34:D}(h:ak (B5 A cf dg e d0 bE d f g q f0 g0 i j a k l b m n o p a0 c [.b (c==0) false,.b (c==1) false,.b (c==2) false,.b (c==3) true,.a .wr,.p (([[I 1,I 0,I 0,D.J 1 [[I 1]]],[I 5,I 0,I 0,D.J 1 [[I 2],[I 5]]],[I 4,I (1+a),I 0,D.J 1 [[I 3]]],[I 2,I b,I 0,D.J 1 [[I 4]]],[I 7,I 0,I 0,D.J 1 [[I 1]]],[I 8,I 0,I 0,D.v (aO)]].length+[[I 8,I 0,I 0,D.v (aO)]].length)*48<=140737488355328),.p ([[I 1,I 0,I 0,D.J 1 [[I 1]]],[I 5,I 0,I 0,D.J 1 [[I 2],[I 5]]],[I 4,I (1+a),I 0,D.J 1 [[I 3]]],[I 2,I b,I 0,D.J 1 [[I 4]]],[I 7,I 0,I 0,D.J 1 [[I 1]]],[I 8,I 0,I 0,D.v (aO)]].length+[[I 8,I 0,I 0,D.v (aO)]].length<=9223372036854775807),.p ((0:Int)<=0),.p (0<(↑([[I 1,I 0,I 0,D.J 1 [[I 1]]],[I 5,I 0,I 0,D.J 1 [[I 2],[I 5]]],[I 4,I (1+a),I 0,D.J 1 [[I 3]]],[I 2,I b,I 0,D.J 1 [[I 4]]],[I 7,I 0,I 0,D.J 1 [[I 1]]],[I 8,I 0,I 0,D.v (aO)]]++[[I 8,I 0,I 0,D.v (aO)]]).length:Int)),.e ([[I 1,I 0,I 0,D.J 1 [[I 1]]],[I 5,I 0,I 0,D.J 1 [[I 2],[I 5]]],[I 4,I (1+a),I 0,D.J 1 [[I 3]]],[I 2,I b,I 0,D.J 1 [[I 4]]],[I 7,I 0,I 0,D.J 1 [[I 1]]],[I 8,I 0,I 0,D.v (aO)]]++[[I 8,I 0,I 0,D.v (aO)]]) 0 [d31,d32,d33,d34]])):
 bZ 118 [aJ.cur [D.J 1 A,I f0,I g0] [D.J 1 A,I p,I a0]] (aT.vals [.agg (bS (([[I 1,I 0,I 0,D.J 1 [[I 1]]],[I 5,I 0,I 0,D.J 1 [[I 2],[I 5]]],[I 4,I (1+a),I 0,D.J 1 [[I 3]]],[I 2,I b,I 0,D.J 1 [[I 4]]],[I 7,I 0,I 0,D.J 1 [[I 1]]],[I 8,I 0,I 0,D.v (aO)]]++[[I 8,I 0,I 0,D.v (aO)]]).set 0 [d31,d32,d33,D.J 1 [[I 1],[I 6]]]) (1+e) (1+d))]):=
 h.b0
theorem apP(h:ak (B5 A cf dg d d0 bE b e f q f0 g0 g i c j k l m n o p a0 a [.b (a==0) false,.b (a==1) false,.b (a==2) false,.b (a==3) false])):
 bZ 118 [aJ.cur [D.J 1 A,I f0,I g0] [D.J 1 A,I p,I a0]] (aT.vals [.agg [D.J 4 [[I 1,I 0,I 0,D.J 1 [[I 1]]],[I 5,I 0,I 0,D.J 1 [[I 2],[I 5]]],[I 4,I (1+c),I 0,D.J 1 [[I 3]]],[I 2,I l,I 0,D.J 1 [[I 4]]],[I 7,I 0,I 0,D.J 1 [[I 1]]],[I 8,I 0,I 0,D.v (aO)]],I (1+d),I (1+b)]]):=
 h.b0
def St(C A:ai)(b c d e f a:Int):aE:=bi 75 [(0,aS 1000000000),(2,aS 2),(3,aS 3),(4,aZ d),(5,aS 1000000000),(6,aB.aD (bd.agg [ay 70000 4 A,aq b,aq c])),(7,aS 1000000000),(8,aS 3),(9,aB.aD (bd.one (ay 70000 4 A))),(10,aZ (A.length:Int)),(11,aZ d),(12,aS 1000000000),(13,aZ a),(14,.aD (.one (.bg (a==0)))),(15,.aD (.one (.bg (a==0))))] [(3,[ay 70000 4 A,aq b,aq c]),(2,[.v (aO),aq 0,aq 0]),(1000000000,[.db 1000000100 1 C,aq e,aq f])]
def KM(E A:ai)(f g a e i j c d b:Int)(C:ai):aE:=bi 75 [(0,aS 1000000000),(2,aS 2),(3,aS 3),(4,aZ a),(5,aS 1000000000),(6,aB.aD (bd.agg [ay 70000 4 (A.set a.toNat (cz c d b C)),aq f,aq g])),(7,aS 1000000000),(8,aS 3),(9,aB.aD (bd.one (ay 70000 4 (A.set a.toNat (cz c d b C))))),(10,aZ (A.length:Int)),(11,aZ a),(12,aS 1000000000),(13,aZ e),(14,.aD (.one (.bg (e==0)))),(15,.aD (.one (.bg (e==0)))),(16,aS 3),(17,aB.aD (bd.one (ay 70000 4 (A.set a.toNat (cz c d b C))))),(18,aZ a),(19,aS 1000000000),(20,aB.aD (bd.agg [aq c,aq d,aq b,.cc])),(21,.aD (.one (.ep (Tag.own 70000) 4 (A.set a.toNat (cz c d b C)) a.toNat 0)))] [(3,[ay 70000 4 (A.set a.toNat (cz c d b C)),aq f,aq g]),(2,[.v (aO),aq 0,aq 0]),(1000000000,[.db 1000000100 1 E,aq i,aq j])]
theorem apQ{A C:ai}{n o a g i m b c d e f:Int}{E:ai}{j k l:Int}{F:ai}
  (h:cB [bU prog 252 [aJ.cur [D.J 1 A,I g,I i] [D.J 1 A,I b,I c]] (aT.vals [.agg (cz d e f E)]),0<=a,a<(C.length:Int),C[a.toNat]?=some (cz j k l F)]):
  dY prog (cG f137 5) (St A C n o a g i m) (KM A C n o a m b c d e f E):=
 .of [[],[],[],[],[.dq [some [D.J 1 A,I b,I c]] (aT.vals [.agg (cz d e f E)])],[],[.el (cz j k l F)]] [[],[],[],[],[bU prog 252 [aJ.cur [D.J 1 A,I g,I i] [D.J 1 A,I b,I c]] (aT.vals [.agg (cz d e f E)])],[0<=a,a<(C.length:Int)],[C[a.toNat]?=some (cz j k l F)]] (by kernel_rfl) (by kernel_rfl) (by kernel_rfl) h
def Ml(A:ai)(a b:Int)(C:ai)(c d e f g i j k m n:Int)(l:List O):List O:=.a (.dq [some [D.J 1 A,I a,I b]] (aT.vals [.agg (bS C c d)]))::.w A e f g::.w A i j k::.p (bU prog 118 [aJ.cur [D.J 1 A,I m,I n] [D.J 1 A,I a,I b]] (aT.vals [.agg (bS C c d)]))::.k A 138 a b e f (C.length:Int) g::.k A 138 e f i j 12 k::l
theorem apR(h:ak (Ml A o p C c d e f a g i b a0 cf [.b (b==0) true,.a (.h7 (KM A C c d a b j k l m n E)),.p (dY prog (cG f137 5) (St A C c d a g i b) (KM A C c d a b j k l m n E))])):
 bZ 137 [aJ.cur [D.J 1 A,I a0,I cf] [D.J 1 A,I j,I k]] (aT.vals [.agg (bS (C.set a.toNat (cz l m n E)) c d)]):=
 h.b0
theorem apS(h:ak (Ml A j k C p l b c n d e a m o [.b (a==0) false,.b (a==1) true,.w A f g i,.p (bU prog 140 [aJ.cur [D.J 1 A,I d,I e] [D.J 1 A,I f,I g],aJ.ro (.one (.J 1 [[I 0],[I 4],[I 5],[I (-1)]]))] (aT.vals [al i]))])):
 bZ 137 [aJ.cur [D.J 1 A,I m,I o] [D.J 1 A,I f,I g]] (aT.vals [.agg (bS C i l)]):=
 h.b0
def B7(A:ai)(a b:Int)(C:ai)(c d e f g i j k m n:Int)(l:List O):List O:=Ml A a b C c d e f g i j k m n (.b (k==0) false::.b (k==1) false::l)
theorem api(h:ak (B7 A j k C l p b c n d e a m o [.b (a==2) true,.w A f g i,.p (bU prog 140 [aJ.cur [D.J 1 A,I d,I e] [D.J 1 A,I f,I g],aJ.ro (.one (.J 1 [[I 0],[I 4],[I 5],[I (-1)]]))] (aT.vals [al i]))])):
 bZ 137 [aJ.cur [D.J 1 A,I m,I o] [D.J 1 A,I f,I g]] (aT.vals [.agg (bS C l i)]):=
 h.b0
def Su(C A:ai)(b c d e f a:Int):aE:=bi 75 [(0,aS 1000000000),(2,aS 2),(3,aS 3),(4,aZ d),(5,aS 1000000000),(6,aB.aD (bd.agg [ay 70000 4 A,aq b,aq c])),(7,aS 1000000000),(8,aS 3),(9,aB.aD (bd.one (ay 70000 4 A))),(10,aZ (A.length:Int)),(11,aZ d),(12,aS 1000000000),(13,aZ a),(14,.aD (.one (.bg (a==0)))),(15,.aD (.one (.bg (a==0)))),(22,.aD (.one (.bg (a==1)))),(23,.aD (.one (.bg (a==1)))),(28,.aD (.one (.bg (a==2)))),(29,.aD (.one (.bg (a==2)))),(34,.aD (.one (.bg (a==3)))),(35,.aD (.one (.bg (a==3))))] [(3,[ay 70000 4 A,aq b,aq c]),(2,[.v (aO),aq 0,aq 0]),(1000000000,[.db 1000000100 1 C,aq e,aq f])]
def KN(E A:ai)(g i a f:Int)(C:ai)(j k b c d e:Int):aE:=bi 75 [(0,aS 1000000000),(2,aS 2),(3,aS 3),(4,aZ a),(5,aS 1000000000),(6,aB.aD (bd.agg [.J (.own 70000) 4 (A.set a.toNat (cz c d e (C++[[I (b-1)]]))),aq g,aq i])),(7,aS 1000000000),(8,aS 3),(9,.aD (.one (.J (.own 70000) 4 (A.set a.toNat (cz c d e (C++[[I (b-1)]])))))),(10,aZ (A.length:Int)),(11,aZ a),(12,aS 1000000000),(13,aZ f),(14,.aD (.one (.bg (f==0)))),(15,.aD (.one (.bg (f==0)))),(22,.aD (.one (.bg (f==1)))),(23,.aD (.one (.bg (f==1)))),(28,.aD (.one (.bg (f==2)))),(29,.aD (.one (.bg (f==2)))),(34,.aD (.one (.bg (f==3)))),(35,.aD (.one (.bg (f==3)))),(36,aS 3),(37,.aD (.one (.J (.own 70000) 4 (A.set a.toNat (cz c d e (C++[[I (b-1)]])))))),(38,aZ a),(39,aS 3),(40,.aD (.one (.J (.own 70000) 4 (A.set a.toNat (cz c d e (C++[[I (b-1)]])))))),(41,aZ a),(42,.aD (.one (.ep (Tag.own 70000) 4 (A.set a.toNat (cz c d e (C++[[I (b-1)]]))) a.toNat 0))),(43,.aD (.one (.ep (Tag.own 70000) 4 (A.set a.toNat (cz c d e (C++[[I (b-1)]]))) a.toNat 3))),(45,aS 1000000000),(46,aZ b),(47,aZ (b-1)),(48,.aD (.one (.J (.own 48) 1 [[I (b-1)]]))),(50,.aD (.one (.ep (Tag.own 70000) 4 (A.set a.toNat (cz c d e (C++[[I (b-1)]]))) a.toNat 0))),(51,.aD (.one (.ep (Tag.own 70000) 4 (A.set a.toNat (cz c d e (C++[[I (b-1)]]))) a.toNat 3)))] [(3,[.J (.own 70000) 4 (A.set a.toNat (cz c d e (C++[[I (b-1)]]))),aq g,aq i]),(2,[.v (aO),aq 0,aq 0]),(1000000000,[.db 1000000100 1 E,aq j,aq k])]
theorem apj{E C:ai}{o p a i j n k l m:Int}{A:ai}{c d b:Int}{d25 d26 d27:D}{e f g:Int}{F:ai}
  (h:cB [0<=a,a<(C.length:Int),C[a.toNat]?=some (cz k l m A),bU prog 138 [aJ.cur [D.J 1 E,I i,I j] [D.J 1 E,I c,I d],aJ.ro (al 9)] (aT.vals [al b]),bf .i64 (b-1),(A.length+[[I (b-1)]].length)*8<=140737488355328,A.length+[[I (b-1)]].length<=9223372036854775807,C[a.toNat]?=some [d25,d26,d27,D.J 1 A],[d25,d26,d27,D.J 1 A][3]?=some (D.J 1 A),a.toNat=a.toNat,Flat [[I (b-1)]],0<=a,a<(C.length:Int),C[a.toNat]?=some (cz e f g F),a.toNat=a.toNat]):
  dY prog (cG f137 11) (Su E C o p a i j n) (KN E C o p a n A c d b e f g):=
 .of [[],[],[],[],[],[],[],[],[.sub,.el (cz k l m A)],[],[.dq [some [D.J 1 E,I c,I d],none] (aT.vals [al b])],[],[],[.el [d25,d26,d27,D.J 1 A]],[],[],[.el (cz e f g F)]] [[],[],[],[],[],[],[0<=a,a<(C.length:Int)],[],[C[a.toNat]?=some (cz k l m A)],[],[bU prog 138 [aJ.cur [D.J 1 E,I i,I j] [D.J 1 E,I c,I d],aJ.ro (al 9)] (aT.vals [al b])],[bf .i64 (b-1)],[],[(A.length+[[I (b-1)]].length)*8<=140737488355328,A.length+[[I (b-1)]].length<=9223372036854775807,C[a.toNat]?=some [d25,d26,d27,D.J 1 A],[d25,d26,d27,D.J 1 A][3]?=some (D.J 1 A),a.toNat=a.toNat,Flat [[I (b-1)]]],[0<=a,a<(C.length:Int)],[],[C[a.toNat]?=some (cz e f g F),a.toNat=a.toNat]] (by kernel_rfl) (by kernel_rfl) (by kernel_rfl) h
theorem apk(h:ak (B7 A p a0 C c d e f b g i a cf dg [.b (a==2) false,.b (a==3) true,.a (.h7 (KN A C c d b a E j k l m n o)),.p (dY prog (cG f137 11) (Su A C c d b g i a) (KN A C c d b a E j k l m n o))])):
 bZ 137 [aJ.cur [D.J 1 A,I cf,I dg] [D.J 1 A,I j,I k]] (aT.vals [.agg [D.J 4 (C.set b.toNat (cz m n o (E++[[I (l-1)]]))),I c,I d]]):=
 h.b0
def Az(A C:ai)(a b c d e f:Int):aE:=bi 75 [(0,aS 1000000000),(2,aS 2),(3,aS 3)] [(3,[ay 70000 4 C,aq a,aq b]),(2,[.v (aO),aq c,aq d]),(1000000000,[.db 1000000100 1 A,aq e,aq f])]
def Ek(A C:ai)(a b c d e f:Int):aE:=bi 75 [(0,aS 1000000000),(2,aS 2),(3,aS 3)] [(3,[ay 70000 4 C,aq a,aq b]),(2,[.v (aO),aq c,aq d]),(1000000000,[.db 1000000100 1 A,aq e,aq f])]
def AA(P:Program)(W:Array Oper)(A C:ai)(a b c d e f g i j:Int):aE:=
 mf P W [[],[],[],[],[.dq [some [D.J 1 A,I g,I i],none] (aT.vals [al j])],[],[]] (Ek A C a b c d e f)
theorem Sv{A C:ai}{d e f g a b i j c:Int}
  (h:cB [bU prog 138 [aJ.cur [D.J 1 A,I a,I b] [D.J 1 A,I i,I j],aJ.ro (al 2)] (aT.vals [al c]),bf .i64 (8+c)]):
  dY prog (cG f137 13) (Ek A C d e f g a b) (AA prog (cG f137 13) A C d e f g a b i j c):=
 .mS [0,0,0,0,1,1,0] h
theorem apl(h:ak [.a (.h7 (AA prog (cG f137 13) C A a b c d e f g i j)),.p (dY prog (cG f137 13) (Ek C A a b c d e f) (AA prog (cG f137 13) C A a b c d e f g i j)),.b (decide ((A.length:Int)<8+j)) true,.a .wr,.g A [[I 8,I 0,I 0,D.v (aO)]] 48]):
 bb (az f137 0) (Az C A a b c d e f) .normal (Az C (A++[[I 8,I 0,I 0,D.v (aO)]]) a b c d g i):=
 h.a' [3,0,2] [3,2,1000000000]
def KO(A C:ai)(a b c d e f:Int):aE:=bi 75 [(0,aS 1000000000),(2,aS 2),(3,aS 3)] [(3,[ay 70000 4 C,aq a,aq b]),(2,[.v (aO),aq c,aq d]),(1000000000,[.db 1000000100 1 A,aq e,aq f])]
theorem apm(h:ak [.a (.h7 (AA prog (cG f137 13) C A a b c d e f g i j)),.p (dY prog (cG f137 13) (Ek C A a b c d e f) (AA prog (cG f137 13) C A a b c d e f g i j)),.b (decide ((A.length:Int)<8+j)) false]):
 bb (az f137 0) (Az C A a b c d e f) (.exit 1) (KO C A a b c d g i):=
 h.a' [3,2,0] [3,2,1000000000]
theorem apn(h:ak (B7 A f g C i j b c l d e a k o [.b (a==2) false,.b (a==3) false,.b (a==4) true,.l [] [3,0,2] [3,2,1000000000] (az f137 0) (Az A C i j 0 0 d e) (.exit 1) (KO A E m n cf dg p a0)])):
 bZ 137 [aJ.cur [D.J 1 A,I k,I o] [D.J 1 A,I p,I a0]] (aT.vals [.agg (bS E m n)]):=
 h.b0
theorem apo(h:ak (B7 A g i C j k c d b e f a l m [.b (a==2) false,.b (a==3) false,.b (a==4) false,.b (a==5) true,.a .own,.p ((0:Int)<=none.getD 0),.p (none.getD 0<=(some b).getD (C.length:Int)),.p ((some b).getD (C.length:Int)<=(C.length:Int))])):
 bZ 137 [aJ.cur [D.J 1 A,I l,I m] [D.J 1 A,I e,I f]] (aT.vals [.agg [D.J 4 (List.take (((some b).getD (C.length:Int)).toNat-0) (List.drop 0 C)),I j,I k]]):=
 h.b0
theorem apq(h:ak (B7 A f g C i j b c l d e a k m [.b (a==2) false,.b (a==3) false,.b (a==4) false,.b (a==5) false])):
 bZ 137 [aJ.cur [D.J 1 A,I k,I m] [D.J 1 A,I d,I e]] (aT.vals [.agg (bS C i j)]):=
 h.b0
def AB(A:ai)(a b:Int)(C:ai)(c d:Int):aE:=bi 29 [(0,aS 1000000000),(3,aB.aD (bd.one (ay 6 5 C))),(4,aZ b),(5,aZ a)] [(1000000000,[.db 1000000100 1 A,aq c,aq d])]
theorem apr(h:ak [.w A p f g,.k A 138 a0 cf p f 6 g,.b (decide (e<g)) true,.w A i j d,.k A 138 p f i j 2 d,.v (o+d),.r 130 [al (o+d),al 0,al 2] [al a],.w A k l b,.w A m n c,.k A 138 i j k l 12 b,.k A 138 k l m n 40 c,.g C [(bu 0 a 0 b c)] 40,.h [(bu 0 a 0 b c)],.u e]):
 bb (az f119 0) (AB A e o C a0 cf) .normal (AB A (e+1) a (C++[(bu 0 a 0 b c)]) m n):=
 h.a' [5,0,4,3] [1000000000]
def KP(A C:ai)(a b:Int):aE:=bi 29 [(0,aS 1000000000),(3,aB.aD (bd.one (ay 6 5 C)))] [(1000000000,[.db 1000000100 1 A,aq a,aq b])]
theorem aps(h:ak [.w A c a b,.k A 138 e f c a 6 b,.b (decide (d<b)) false]):
 bb (az f119 0) (AB A d g C e f) (.exit 0) (KP A C c a):=
 h.a' [3,0] [1000000000]
theorem Z5(h:ak [.l [] [5,0,4,3] [1000000000] (az f119 0) (AB A 0 0 [] a b) (.exit 0) (KP A C c d)]):
 bZ 119 [aJ.cur [D.J 1 A,I a,I b] [D.J 1 A,I c,I d]] (aT.vals [a7 5 C]):=
 h.b0
def KQ(A:ai)(a c d b:Int):aE:=bi 27 [(0,aS 1000000000),(2,aS 2),(3,aS 3),(4,aS 1000000000),(5,.aD (.one (.J (.own 5) 1 [[I 1],[I 1],[I 1],[I 2],[I 3],[I 3],[I 3],[I 4],[I 4],[I 5],[I 6],[I 6],[I 7]]))),(6,aZ a),(7,aS 1000000000),(8,aZ b),(9,aB.aD (bd.agg [aq a,aq b,aq 0])),(10,aS 3),(11,aZ a),(12,.aD (.one (.bg (a==4)))),(13,.aD (.one (.v (Value.bool true)))),(14,.aD (.one (.v (Value.tuple #[])))),(15,.aD (.one (.v (Value.tuple #[])))),(16,.aD (.one (.v (Value.tuple #[])))),(17,.aD (.one (.v (Value.bool true))))] [(3,[aq a,aq b,aq 0]),(2,[aq 0,aq 0,aq 0]),(1000000000,[.db 1000000100 1 A,aq c,aq d])]
def KR(P:Program)(W:Array Oper)(A:ai)(e f g a b c d:Int):aE:=
 mf P W [[],[],[],[],[.dq [some [D.J 1 A,I b,I c],none] (aT.vals [al d])],[],[],[],[]] (KQ A e f g a)
theorem Z6{A:ai}{g c d a e f b:Int}
  (h:cB [bf .i64 (a+1),bU prog 138 [aJ.cur [D.J 1 A,I c,I d] [D.J 1 A,I e,I f],aJ.ro (al 2)] (aT.vals [al b]),bf .i64 (a+1+b),(3:Int)≠0]):
  dY prog (cG f242 3) (KQ A g c d a) (KR prog (cG f242 3) A g c d a e f b):=
 .mS [0,0,1,0,1,1,1,0,0] h
def Mj(A:ai)(a b c d e f g i:Int)(l:List O):List O:=.w A a b c::.w A d e f::.p (bU prog 140 [aJ.cur [D.J 1 A,I g,I i] [D.J 1 A,I a,I b],aJ.ro (.one (.J 1 [[I 1],[I 1],[I 1],[I 2],[I 3],[I 3],[I 3],[I 4],[I 4],[I 5],[I 6],[I 6],[I 7]]))] (aT.vals [al c]))::.k A 138 a b d e 3 f::l
theorem Z7(h:ak (Mj A i j b c d a k l [.b (b==4) true,.a (.h7 (KR prog (cG f242 3) A b c d a e f g)),.p (dY prog (cG f242 3) (KQ A b c d a) (KR prog (cG f242 3) A b c d a e f g))])):
 bZ 242 [aJ.cur [D.J 1 A,I k,I l] [D.J 1 A,I e,I f]] (aT.vals [.agg [I b,I a,I ((a+1+g).tmod 3)]]):=
 h.b0
def KS(A:ai)(a c d b:Int):aE:=bi 27 [(0,aS 1000000000),(2,aS 2),(3,aS 3),(4,aS 1000000000),(5,.aD (.one (.J (.own 5) 1 [[I 1],[I 1],[I 1],[I 2],[I 3],[I 3],[I 3],[I 4],[I 4],[I 5],[I 6],[I 6],[I 7]]))),(6,aZ a),(7,aS 1000000000),(8,aZ b),(9,aB.aD (bd.agg [aq a,aq b,aq 0])),(10,aS 3),(11,aZ a),(12,.aD (.one (.bg (a==4)))),(13,.aD (.one (.v (Value.bool false)))),(14,aS 3),(15,aZ a),(16,.aD (.one (.bg (a==5)))),(17,.aD (.one (.bg (a==5))))] [(3,[aq a,aq b,aq 0]),(2,[aq 0,aq 0,aq 0]),(1000000000,[.db 1000000100 1 A,aq c,aq d])]
def KT(P:Program)(W:Array Oper)(A:ai)(e f g a b c d:Int):aE:=
 mf P W [[],[],[],[],[.dq [some [D.J 1 A,I b,I c],none] (aT.vals [al d])],[],[],[],[]] (KS A e f g a)
theorem Z8{A:ai}{g c d a e f b:Int}
  (h:cB [bf .i64 (a+1),bU prog 138 [aJ.cur [D.J 1 A,I c,I d] [D.J 1 A,I e,I f],aJ.ro (al 2)] (aT.vals [al b]),bf .i64 (a+1+b),(3:Int)≠0]):
  dY prog (cG f242 3) (KS A g c d a) (KT prog (cG f242 3) A g c d a e f b):=
 .mS [0,0,1,0,1,1,1,0,0] h
theorem Z9(h:ak (Mj A i j a c d b k l [.b (a==4) false,.b (a==5) true,.a (.h7 (KT prog (cG f242 3) A a c d b e f g)),.p (dY prog (cG f242 3) (KS A a c d b) (KT prog (cG f242 3) A a c d b e f g))])):
 bZ 242 [aJ.cur [D.J 1 A,I k,I l] [D.J 1 A,I e,I f]] (aT.vals [.agg [I a,I b,I ((b+1+g).tmod 3)]]):=
 h.b0
theorem Z'(h:ak (Mj A c d a e f b g i [.b (a==4) false,.b (a==5) false])):
 bZ 242 [aJ.cur [D.J 1 A,I g,I i] [D.J 1 A,I e,I f]] (aT.vals [.agg [I a,I b,I 0]]):=
 h.b0
def AD(A:ai)(a b:Int)(C:ai)(c d:Int):aE:=bi 22 [(0,aS 1000000000),(1,aZ a),(5,aB.aD (bd.one (ay 7 3 C))),(6,aZ b)] [(1000000000,[.db 1000000100 1 A,aq c,aq d])]
theorem aab(h:ak [.w A k f g,.u d,.k A 138 l m k f (d+1) g,.b (decide (e<g)) true,.a (.dq [some [D.J 1 A,I i,I j]] (aT.vals [.agg [I a,I b,I c]])),.p (bU prog 242 [aJ.cur [D.J 1 A,I k,I f] [D.J 1 A,I i,I j]] (aT.vals [.agg [I a,I b,I c]])),.g C [[I a,I b,I c]] 24,.h [[I a,I b,I c]],.u e]):
 bb (az f120 0) (AD A d e C l m) .normal (AD A d (e+1) (C++[[I a,I b,I c]]) i j):=
 h.a' [6,0,1,5] [1000000000]
def J5(A C:ai)(a b:Int):aE:=bi 22 [(0,aS 1000000000),(5,aB.aD (bd.one (ay 7 3 C)))] [(1000000000,[.db 1000000100 1 A,aq a,aq b])]
theorem aac(h:ak [.w A d a b,.u c,.k A 138 f g d a (c+1) b,.b (decide (e<b)) false]):
 bb (az f120 0) (AD A c e C f g) (.exit 0) (J5 A C d a):=
 h.a' [5,0] [1000000000]
theorem aad(h:ak [.l [] [6,0,1,5] [1000000000] (az f120 0) (AD A c 0 [] a b) (.exit 0) (J5 A C d e)]):
 bZ 120 [aJ.cur [D.J 1 A,I a,I b] [D.J 1 A,I d,I e],aJ.ro (al c)] (aT.vals [a7 3 C]):=
 h.b0
