import Derived.Test.YtdchjefneblpgaaGreatGE
set_option linter.unusedVariables false
set_option linter.unusedSimpArgs false
namespace Go.Proofs.YtdchjefneblpgaaGreat
open Go.Sx Go.RowKit Go.Proofs.Tryz
variable {a b c d e f g i j k l m n o p a0 b9 de d0 bM f0 g0 : Int} {A C E F : ah} {q : Bool}
def zr(A:ah)(a b:Int):aF:=bf 32 [(0,.aI (.one (.dx 1000000100 1 A))),(3,a1 b),(4,a1 a)] []
theorem aml(h:af [.f A a true,.b (decide (a<4000)) true,.v (b*131),.x A a [D.v (Value.int IntKind.u8 c)],.a (.oF (a1 d)),.v c,.v (b*131+c),.v (b*131+c+7),.p (mg prog BinOp.and 3 (Operand.tmp 26) (Operand.const (Value.int IntKind.i64 1073741823)) (Value.int IntKind.i64 (b*131+c+7)) (Value.int IntKind.i64 1073741823) (Value.int IntKind.i64 d)),.u a]):
 aY (aq f117 0) (zr A a b) .normal (zr A (a+1) d):=
 h.aW [4,0,3] []
def F5(A:ah)(a:Int):aF:=bf 32 [(0,.aI (.one (.dx 1000000100 1 A))),(3,a1 a)] []
theorem amm(h:af [.f A a true,.b (decide (a<4000)) false]):
 aY (aq f117 0) (zr A a b) (.exit 0) (F5 A b):=
 h.aW [0,3] []
theorem amn(h:af [.f A a false]):
 aY (aq f117 0) (zr A a b) (.exit 0) (F5 A b):=
 h.aW [0,3] []
theorem amo(h:af [.v (94701+(A.length:Int)),.l [] [4,0,3] [] (aq f117 0) (zr A 0 (94701+(A.length:Int))) (.exit 0) (F5 A a)]):
 cc 117 [aN.ro (aM 1 A)] (aV.hX [some 0,none,none] [D.J 1 A,I 0,I a]):=
 h.cd
def X5(a b c d e:Int)(l:List O):List O:=.a .wr::.a .wr::.a (.oF (a1 a))::.a (.oF (a1 b))::.a (.oF (a1 c))::.a (.oF (a1 d))::.p (mg prog BinOp.shr 3 (Operand.tmp 16) (Operand.const (Value.int IntKind.u64 33)) (Value.int IntKind.i64 (IntKind.i64.wrap (IntKind.i64.wrap (e*6364136223846793005)+1442695040888963407))) (Value.int IntKind.u64 33) (Value.int IntKind.i64 a))::.p (mg prog BinOp.shr 3 (Operand.tmp 21) (Operand.const (Value.int IntKind.u64 45)) (Value.int IntKind.i64 (IntKind.i64.wrap (IntKind.i64.wrap (e*6364136223846793005)+1442695040888963407))) (Value.int IntKind.u64 45) (Value.int IntKind.i64 b))::.p (mg prog BinOp.xor 3 (Operand.tmp 17) (Operand.tmp 22) (Value.int IntKind.i64 a) (Value.int IntKind.i64 b) (Value.int IntKind.i64 c))::.p (mg prog BinOp.and 3 (Operand.tmp 23) (Operand.const (Value.int IntKind.i64 255)) (Value.int IntKind.i64 c) (Value.int IntKind.i64 255) (Value.int IntKind.i64 d))::l
theorem amp(h:af (X5 c d e f b [.i A a [D.v (Value.int IntKind.u8 i)],.a .wr,.a .wr,.a (.oF (a1 g)),.p (mg prog BinOp.and 3 (Operand.tmp 47) (Operand.const (Value.int IntKind.i64 255)) (Value.int IntKind.i64 (IntKind.i64.wrap (f+IntKind.i64.wrap i))) (Value.int IntKind.i64 255) (Value.int IntKind.i64 g)),.u a])):
 cc 253 [aN.cur [D.J 1 A,I a,I b] [D.J 1 A,I (a+1),I (IntKind.i64.wrap (IntKind.i64.wrap (b*6364136223846793005)+1442695040888963407))]] (aV.vals [ao g]):=
 h.cd
theorem amq(h:af (X5 c d e f a [.f A b false])):
 cc 253 [aN.cur [D.J 1 A,I b,I a] [D.J 1 A,I b,I (IntKind.i64.wrap (IntKind.i64.wrap (a*6364136223846793005)+1442695040888963407))]] (aV.vals [ao f]):=
 h.cd
theorem amr(h:af [.b (decide (a<=0)) false,.b (decide (a<=256)) true,.a (.dm [some [D.J 1 A,I b,I c]] (aV.vals [ao d])),.p (bZ prog 253 [aN.cur [D.J 1 A,I e,I f] [D.J 1 A,I b,I c]] (aV.vals [ao d])),.p (a≠0)]):
 cc 138 [aN.cur [D.J 1 A,I e,I f] [D.J 1 A,I b,I c],aN.ro (ao a)] (aV.vals [ao (d.tmod a)]):=
 h.cd
theorem ams(h:af [.b (decide (d<=0)) false,.b (decide (d<=256)) false,.a (.dm [some [D.J 1 A,I l,I m]] (aV.vals [ao b])),.a (.dm [some [D.J 1 A,I n,I f]] (aV.vals [ao a])),.a (.dm [some [D.J 1 A,I g,I i]] (aV.vals [ao c])),.a (.dm [some [D.J 1 A,I j,I k]] (aV.vals [ao e])),.p (bZ prog 253 [aN.cur [D.J 1 A,I o,I p] [D.J 1 A,I l,I m]] (aV.vals [ao b])),.p (bZ prog 253 [aN.cur [D.J 1 A,I l,I m] [D.J 1 A,I n,I f]] (aV.vals [ao a])),.p (bZ prog 253 [aN.cur [D.J 1 A,I n,I f] [D.J 1 A,I g,I i]] (aV.vals [ao c])),.p (bZ prog 253 [aN.cur [D.J 1 A,I g,I i] [D.J 1 A,I j,I k]] (aV.vals [ao e])),.v (b*16777216),.v (a*65536),.v (b*16777216+a*65536),.v (c*256),.v (b*16777216+a*65536+c*256),.v (b*16777216+a*65536+c*256+e),.p (d≠0)]):
 cc 138 [aN.cur [D.J 1 A,I o,I p] [D.J 1 A,I j,I k],aN.ro (ao d)] (aV.vals [ao ((b*16777216+a*65536+c*256+e).tmod d)]):=
 h.cd
theorem amt(h:af [.w A a b c,.k A 138 d e a b f c]):
 cc 136 [aN.cur [D.J 1 A,I d,I e] [D.J 1 A,I a,I b],aN.ro (ao f)] (aV.vals [al (c==0)]):=
 h.cd
theorem alU(h:af [.w A a b c,.k A 138 d e a b (C.length:Int) c,.x C c [I f]]):
 cc 140 [aN.cur [D.J 1 A,I d,I e] [D.J 1 A,I a,I b],aN.ro (aM 1 C)] (aV.vals [ao f]):=
 h.cd
theorem alV(h:af [.w A b c d,.w A e f a,.k A 138 g i b c 4 d,.k A 138 b c e f 5 a]):
 cc 325 [aN.cur [D.J 1 A,I g,I i] [D.J 1 A,I e,I f]] (aV.vals [.agg [I d,I a]]):=
 h.cd
def NW(A:ah)(a b c d e f g i j:Int)(l:List O):List O:=.a (.dm [some [D.J 1 A,I a,I b]] (aV.vals [.agg [I c,I d]]))::.w A e f g::.p (bZ prog 325 [aN.cur [D.J 1 A,I i,I j] [D.J 1 A,I a,I b]] (aV.vals [.agg [I c,I d]]))::.k A 138 a b e f 10 g::l
theorem alW(h:af (NW A f g m i j a b k l [.b (b==0) true,.w A c d e,.p (bZ prog 140 [aN.cur [D.J 1 A,I j,I a] [D.J 1 A,I c,I d],aN.ro (.one (.J 1 [[I (-1)],[I 3],[I 4],[I 9223372036854775807]]))] (aV.vals [ao e]))])):
 cc 272 [aN.cur [D.J 1 A,I k,I l] [D.J 1 A,I c,I d]] (aV.vals [.agg [I e,I i]]):=
 h.cd
theorem alX(h:af (NW A f g i m j b a k l [.b (a==0) false,.b (a==1) true,.w A c d e,.p (bZ prog 140 [aN.cur [D.J 1 A,I j,I b] [D.J 1 A,I c,I d],aN.ro (.one (.J 1 [[I (-1)],[I 5],[I 6],[I 7],[I (-9223372036854775808)]]))] (aV.vals [ao e]))])):
 cc 272 [aN.cur [D.J 1 A,I k,I l] [D.J 1 A,I c,I d]] (aV.vals [.agg [I i,I e]]):=
 h.cd
theorem alY(h:af (NW A c d e f g b a i j [.b (a==0) false,.b (a==1) false])):
 cc 272 [aN.cur [D.J 1 A,I i,I j] [D.J 1 A,I g,I b]] (aV.vals [.agg [I e,I f]]):=
 h.cd
theorem alZ(h:af [.w A j k l,.a (.dm [some [D.J 1 A,I m,I n]] (aV.vals [.agg [I a,I b]])),.w A c d e,.w A f g i,.k A 138 o p j k 5 l,.p (bZ prog 325 [aN.cur [D.J 1 A,I j,I k] [D.J 1 A,I m,I n]] (aV.vals [.agg [I a,I b]])),.k A 138 m n c d 12 e,.k A 138 c d f g 40 i]):
 cc 271 [aN.cur [D.J 1 A,I o,I p] [D.J 1 A,I f,I g]] (aV.vals [.agg (bx l a b e i)]):=
 h.cd
def CC(A:ah)(a b c d e f g i j k m n:Int)(l:List O):List O:=.a (.dm [some [D.J 1 A,I a,I b]] (aV.vals [.agg (bx c d e f g)]))::.w A i j k::.p (bZ prog 271 [aN.cur [D.J 1 A,I m,I n] [D.J 1 A,I a,I b]] (aV.vals [.agg (bx c d e f g)]))::.k A 138 a b i j 12 k::l
theorem al0(h:af (CC A i j p k l m a b c d n o [.b (d==0) true,.w A e f g,.p (bZ prog 140 [aN.cur [D.J 1 A,I b,I c] [D.J 1 A,I e,I f],aN.ro (.one (.J 1 [[I (-1)],[I 7],[I 8]]))] (aV.vals [ao g]))])):
 cc 178 [aN.cur [D.J 1 A,I n,I o] [D.J 1 A,I e,I f]] (aV.vals [.agg (bx g k l m a)]):=
 h.cd
theorem al1(h:af (CC A j k l p a0 m b c d a n o [.b (a==0) false,.b (a==1) true,.a (.dm [some [D.J 1 A,I e,I f]] (aV.vals [.agg [I g,I i]])),.p (bZ prog 272 [aN.cur [D.J 1 A,I c,I d] [D.J 1 A,I e,I f]] (aV.vals [.agg [I g,I i]]))])):
 cc 178 [aN.cur [D.J 1 A,I n,I o] [D.J 1 A,I e,I f]] (aV.vals [.agg (bx l g i m b)]):=
 h.cd
theorem al2(h:af (CC A i j k l m p b c d a n o [.b (a==0) false,.b (a==1) false,.b (a==2) true,.w A e f g,.p (bZ prog 140 [aN.cur [D.J 1 A,I c,I d] [D.J 1 A,I e,I f],aN.ro (.one (.J 1 [[I (-1)],[I 99],[I 100],[I (-9223372036854775808)]]))] (aV.vals [ao g]))])):
 cc 178 [aN.cur [D.J 1 A,I n,I o] [D.J 1 A,I e,I f]] (aV.vals [.agg (bx k l m g b)]):=
 h.cd
theorem al3(h:af (CC A g i j k l m o b c a n p [.b (a==0) false,.b (a==1) false,.b (a==2) false,.b (a==3) true,.w A d e f,.p (bZ prog 140 [aN.cur [D.J 1 A,I b,I c] [D.J 1 A,I d,I e],aN.ro (.one (.J 1 [[I (-1)],[I 999],[I 1000],[I 9223372036854775807]]))] (aV.vals [ao f]))])):
 cc 178 [aN.cur [D.J 1 A,I n,I p] [D.J 1 A,I d,I e]] (aV.vals [.agg (bx j k l m f)]):=
 h.cd
theorem anw(h:af (CC A e f g i j k b c d a l m [.b (a==0) false,.b (a==1) false,.b (a==2) false,.b (a==3) false])):
 cc 178 [aN.cur [D.J 1 A,I l,I m] [D.J 1 A,I c,I d]] (aV.vals [.agg (bx g i j k b)]):=
 h.cd
def X6(A:ah)(a b c d e f g i:Int)(q:Bool)(j k:Int)(l:List O):List O:=.w A a b c::.w A d e f::.y A g i q::.k A 138 j k a b 3 c::.v (1+c)::.k A 138 a b d e 3 f::.v (1+f)::.m A 136 d e g i 3 q::l
def CA(A:ah)(a b c d e f g i:Int)(q:Bool)(j k m n o p ej eP c1 d1 e1 f1 g1 i1:Int)(l:List O):List O:=X6 A a b c d e f g i q j k (.b q true::.w A m n o::.w A p ej eP::.w A c1 d1 e1::.w A f1 g1 i1::.k A 138 g i m n 3 o::.v (1+o)::.k A 138 m n p ej 4 eP::.k A 138 p ej c1 d1 3 e1::.v (1+e1)::.k A 138 c1 d1 f1 g1 6 i1::l)
theorem anx{A:ah}{f0 g0 b9 de e d0 bM c f g:Int}{q:Bool}{i j a k l b m n d o p a0:Int}{d31 d32 d33 d34:D}(h:af (CA A b9 de e d0 bM c f g q f0 g0 i j a k l b m n d o p a0 [.b (a0==0) true,.p ((0:Int)<=3),.p (3<(↑[[I 1,I 0,I 0,D.J 1 [[I 1]]],[I 6,I 0,I 0,D.J 1 [[I 2],[I 5]]],[I 4,I (1+a),I 0,D.J 1 [[I 3]]],[I 2,I b,I 0,D.J 1 [[I 4]]],[I 7,I 0,I 0,D.J 1 [[I 1]]],[I 8,I 0,I 0,D.v (aO)]].length:Int)),.e [[I 1,I 0,I 0,D.J 1 [[I 1]]],[I 6,I 0,I 0,D.J 1 [[I 2],[I 5]]],[I 4,I (1+a),I 0,D.J 1 [[I 3]]],[I 2,I b,I 0,D.J 1 [[I 4]]],[I 7,I 0,I 0,D.J 1 [[I 1]]],[I 8,I 0,I 0,D.v (aO)]] 3 [d31,d32,d33,d34]])):
 cc 118 [aN.cur [D.J 1 A,I f0,I g0] [D.J 1 A,I o,I p]] (aV.vals [.agg (bt ([[I 1,I 0,I 0,D.J 1 [[I 1]]],[I 6,I 0,I 0,D.J 1 [[I 2],[I 5]]],[I 4,I (1+a),I 0,D.J 1 [[I 3]]],[I 2,I b,I 0,D.J 1 [[I 4]]],[I 7,I 0,I 0,D.J 1 [[I 1]]],[I 8,I 0,I 0,D.v (aO)]].set 3 [I 3,I (1+d),I 0,D.J 1 [[I 4]]]) (1+e) (1+c))]):=
 h.cd
theorem anz{A:ah}{f0 g0 b9 de e d0 bM c f g:Int}{q:Bool}{i j a k l b m n o p a0 d:Int}{d31 d32 d33 d34:D}(h:af (CA A b9 de e d0 bM c f g q f0 g0 i j a k l b m n o p a0 d [.b (d==0) false,.b (d==1) true,.p ((0:Int)<=4),.p (4<(↑[[I 1,I 0,I 0,D.J 1 [[I 1]]],[I 6,I 0,I 0,D.J 1 [[I 2],[I 5]]],[I 4,I (1+a),I 0,D.J 1 [[I 3]]],[I 2,I b,I 0,D.J 1 [[I 4]]],[I 7,I 0,I 0,D.J 1 [[I 1]]],[I 8,I 0,I 0,D.v (aO)]].length:Int)),.e [[I 1,I 0,I 0,D.J 1 [[I 1]]],[I 6,I 0,I 0,D.J 1 [[I 2],[I 5]]],[I 4,I (1+a),I 0,D.J 1 [[I 3]]],[I 2,I b,I 0,D.J 1 [[I 4]]],[I 7,I 0,I 0,D.J 1 [[I 1]]],[I 8,I 0,I 0,D.v (aO)]] 4 [d31,d32,d33,d34]])):
 cc 118 [aN.cur [D.J 1 A,I f0,I g0] [D.J 1 A,I p,I a0]] (aV.vals [.agg (bt ([[I 1,I 0,I 0,D.J 1 [[I 1]]],[I 6,I 0,I 0,D.J 1 [[I 2],[I 5]]],[I 4,I (1+a),I 0,D.J 1 [[I 3]]],[I 2,I b,I 0,D.J 1 [[I 4]]],[I 7,I 0,I 0,D.J 1 [[I 1]]],[I 8,I 0,I 0,D.v (aO)]].set 4 [I 8,I 0,I 0,D.v (aO)]) (1+e) (1+c))]):=
 h.cd
theorem anA{A:ah}{f0 g0 b9 de e d0 bM d f g:Int}{q:Bool}{i j a k l b m n o p a0 c:Int}{d31 d32 d33 d34:D}(h:af (CA A b9 de e d0 bM d f g q f0 g0 i j a k l b m n o p a0 c [.b (c==0) false,.b (c==1) false,.b (c==2) true,.p ((0:Int)<=2),.p (2<(↑[[I 1,I 0,I 0,D.J 1 [[I 1]]],[I 6,I 0,I 0,D.J 1 [[I 2],[I 5]]],[I 4,I (1+a),I 0,D.J 1 [[I 3]]],[I 2,I b,I 0,D.J 1 [[I 4]]],[I 7,I 0,I 0,D.J 1 [[I 1]]],[I 8,I 0,I 0,D.v (aO)]].length:Int)),.e [[I 1,I 0,I 0,D.J 1 [[I 1]]],[I 6,I 0,I 0,D.J 1 [[I 2],[I 5]]],[I 4,I (1+a),I 0,D.J 1 [[I 3]]],[I 2,I b,I 0,D.J 1 [[I 4]]],[I 7,I 0,I 0,D.J 1 [[I 1]]],[I 8,I 0,I 0,D.v (aO)]] 2 [d31,d32,d33,d34]])):
 cc 118 [aN.cur [D.J 1 A,I f0,I g0] [D.J 1 A,I p,I a0]] (aV.vals [.agg (bt ([[I 1,I 0,I 0,D.J 1 [[I 1]]],[I 6,I 0,I 0,D.J 1 [[I 2],[I 5]]],[I 4,I (1+a),I 0,D.J 1 [[I 3]]],[I 2,I b,I 0,D.J 1 [[I 4]]],[I 7,I 0,I 0,D.J 1 [[I 1]]],[I 8,I 0,I 0,D.v (aO)]].set 2 [d31,d32,d33,D.J 1 [[I 3],[I 4]]]) (1+e) (1+d))]):=
 h.cd
theorem anB{A:ah}{f0 g0 b9 de e d0 bM d f g:Int}{q:Bool}{i j a k l b m n o p a0 c:Int}{d31 d32 d33 d34:D}(h:af (CA A b9 de e d0 bM d f g q f0 g0 i j a k l b m n o p a0 c [.b (c==0) false,.b (c==1) false,.b (c==2) false,.b (c==3) true,.a .wr,.p (([[I 1,I 0,I 0,D.J 1 [[I 1]]],[I 6,I 0,I 0,D.J 1 [[I 2],[I 5]]],[I 4,I (1+a),I 0,D.J 1 [[I 3]]],[I 2,I b,I 0,D.J 1 [[I 4]]],[I 7,I 0,I 0,D.J 1 [[I 1]]],[I 8,I 0,I 0,D.v (aO)]].length+[[I 8,I 0,I 0,D.v (aO)]].length)*48<=140737488355328),.p ([[I 1,I 0,I 0,D.J 1 [[I 1]]],[I 6,I 0,I 0,D.J 1 [[I 2],[I 5]]],[I 4,I (1+a),I 0,D.J 1 [[I 3]]],[I 2,I b,I 0,D.J 1 [[I 4]]],[I 7,I 0,I 0,D.J 1 [[I 1]]],[I 8,I 0,I 0,D.v (aO)]].length+[[I 8,I 0,I 0,D.v (aO)]].length<=9223372036854775807),.p ((0:Int)<=0),.p (0<(↑([[I 1,I 0,I 0,D.J 1 [[I 1]]],[I 6,I 0,I 0,D.J 1 [[I 2],[I 5]]],[I 4,I (1+a),I 0,D.J 1 [[I 3]]],[I 2,I b,I 0,D.J 1 [[I 4]]],[I 7,I 0,I 0,D.J 1 [[I 1]]],[I 8,I 0,I 0,D.v (aO)]]++[[I 8,I 0,I 0,D.v (aO)]]).length:Int)),.e ([[I 1,I 0,I 0,D.J 1 [[I 1]]],[I 6,I 0,I 0,D.J 1 [[I 2],[I 5]]],[I 4,I (1+a),I 0,D.J 1 [[I 3]]],[I 2,I b,I 0,D.J 1 [[I 4]]],[I 7,I 0,I 0,D.J 1 [[I 1]]],[I 8,I 0,I 0,D.v (aO)]]++[[I 8,I 0,I 0,D.v (aO)]]) 0 [d31,d32,d33,d34]])):
 cc 118 [aN.cur [D.J 1 A,I f0,I g0] [D.J 1 A,I p,I a0]] (aV.vals [.agg (bt (([[I 1,I 0,I 0,D.J 1 [[I 1]]],[I 6,I 0,I 0,D.J 1 [[I 2],[I 5]]],[I 4,I (1+a),I 0,D.J 1 [[I 3]]],[I 2,I b,I 0,D.J 1 [[I 4]]],[I 7,I 0,I 0,D.J 1 [[I 1]]],[I 8,I 0,I 0,D.v (aO)]]++[[I 8,I 0,I 0,D.v (aO)]]).set 0 [d31,d32,d33,D.J 1 [[I 1],[I 6]]]) (1+e) (1+d))]):=
 h.cd
theorem anC(h:af (CA A b9 de d d0 bM b e f q f0 g0 g i c j k l m n o p a0 a [.b (a==0) false,.b (a==1) false,.b (a==2) false,.b (a==3) false])):
 cc 118 [aN.cur [D.J 1 A,I f0,I g0] [D.J 1 A,I p,I a0]] (aV.vals [.agg [D.J 4 [[I 1,I 0,I 0,D.J 1 [[I 1]]],[I 6,I 0,I 0,D.J 1 [[I 2],[I 5]]],[I 4,I (1+c),I 0,D.J 1 [[I 3]]],[I 2,I l,I 0,D.J 1 [[I 4]]],[I 7,I 0,I 0,D.J 1 [[I 1]]],[I 8,I 0,I 0,D.v (aO)]],I (1+d),I (1+b)]]):=
 h.cd
def CB(A:ah)(a b c d e f g i:Int)(q:Bool)(j k m n o p ej eP c1 d1 e1 f1 g1 i1:Int)(l:List O):List O:=X6 A a b c d e f g i q j k (.b q false::.w A m n o::.w A p ej eP::.w A c1 d1 e1::.w A f1 g1 i1::.k A 138 g i m n 3 o::.v (1+o)::.k A 138 m n p ej 4 eP::.k A 138 p ej c1 d1 3 e1::.v (1+e1)::.k A 138 c1 d1 f1 g1 6 i1::l)
theorem anD{A:ah}{f0 g0 b9 de e d0 bM c f g:Int}{q:Bool}{i j a k l b m n d o p a0:Int}{d31 d32 d33 d34:D}(h:af (CB A b9 de e d0 bM c f g q f0 g0 i j a k l b m n d o p a0 [.b (a0==0) true,.p ((0:Int)<=3),.p (3<(↑[[I 1,I 0,I 0,D.J 1 [[I 1]]],[I 5,I 0,I 0,D.J 1 [[I 2],[I 5]]],[I 4,I (1+a),I 0,D.J 1 [[I 3]]],[I 2,I b,I 0,D.J 1 [[I 4]]],[I 7,I 0,I 0,D.J 1 [[I 1]]],[I 8,I 0,I 0,D.v (aO)]].length:Int)),.e [[I 1,I 0,I 0,D.J 1 [[I 1]]],[I 5,I 0,I 0,D.J 1 [[I 2],[I 5]]],[I 4,I (1+a),I 0,D.J 1 [[I 3]]],[I 2,I b,I 0,D.J 1 [[I 4]]],[I 7,I 0,I 0,D.J 1 [[I 1]]],[I 8,I 0,I 0,D.v (aO)]] 3 [d31,d32,d33,d34]])):
 cc 118 [aN.cur [D.J 1 A,I f0,I g0] [D.J 1 A,I o,I p]] (aV.vals [.agg (bt ([[I 1,I 0,I 0,D.J 1 [[I 1]]],[I 5,I 0,I 0,D.J 1 [[I 2],[I 5]]],[I 4,I (1+a),I 0,D.J 1 [[I 3]]],[I 2,I b,I 0,D.J 1 [[I 4]]],[I 7,I 0,I 0,D.J 1 [[I 1]]],[I 8,I 0,I 0,D.v (aO)]].set 3 [I 3,I (1+d),I 0,D.J 1 [[I 4]]]) (1+e) (1+c))]):=
 h.cd
theorem anE{A:ah}{f0 g0 b9 de e d0 bM c f g:Int}{q:Bool}{i j a k l b m n o p a0 d:Int}{d31 d32 d33 d34:D}(h:af (CB A b9 de e d0 bM c f g q f0 g0 i j a k l b m n o p a0 d [.b (d==0) false,.b (d==1) true,.p ((0:Int)<=4),.p (4<(↑[[I 1,I 0,I 0,D.J 1 [[I 1]]],[I 5,I 0,I 0,D.J 1 [[I 2],[I 5]]],[I 4,I (1+a),I 0,D.J 1 [[I 3]]],[I 2,I b,I 0,D.J 1 [[I 4]]],[I 7,I 0,I 0,D.J 1 [[I 1]]],[I 8,I 0,I 0,D.v (aO)]].length:Int)),.e [[I 1,I 0,I 0,D.J 1 [[I 1]]],[I 5,I 0,I 0,D.J 1 [[I 2],[I 5]]],[I 4,I (1+a),I 0,D.J 1 [[I 3]]],[I 2,I b,I 0,D.J 1 [[I 4]]],[I 7,I 0,I 0,D.J 1 [[I 1]]],[I 8,I 0,I 0,D.v (aO)]] 4 [d31,d32,d33,d34]])):
 cc 118 [aN.cur [D.J 1 A,I f0,I g0] [D.J 1 A,I p,I a0]] (aV.vals [.agg (bt ([[I 1,I 0,I 0,D.J 1 [[I 1]]],[I 5,I 0,I 0,D.J 1 [[I 2],[I 5]]],[I 4,I (1+a),I 0,D.J 1 [[I 3]]],[I 2,I b,I 0,D.J 1 [[I 4]]],[I 7,I 0,I 0,D.J 1 [[I 1]]],[I 8,I 0,I 0,D.v (aO)]].set 4 [I 8,I 0,I 0,D.v (aO)]) (1+e) (1+c))]):=
 h.cd
theorem anF{A:ah}{f0 g0 b9 de e d0 bM d f g:Int}{q:Bool}{i j a k l b m n o p a0 c:Int}{d31 d32 d33 d34:D}(h:af (CB A b9 de e d0 bM d f g q f0 g0 i j a k l b m n o p a0 c [.b (c==0) false,.b (c==1) false,.b (c==2) true,.p ((0:Int)<=2),.p (2<(↑[[I 1,I 0,I 0,D.J 1 [[I 1]]],[I 5,I 0,I 0,D.J 1 [[I 2],[I 5]]],[I 4,I (1+a),I 0,D.J 1 [[I 3]]],[I 2,I b,I 0,D.J 1 [[I 4]]],[I 7,I 0,I 0,D.J 1 [[I 1]]],[I 8,I 0,I 0,D.v (aO)]].length:Int)),.e [[I 1,I 0,I 0,D.J 1 [[I 1]]],[I 5,I 0,I 0,D.J 1 [[I 2],[I 5]]],[I 4,I (1+a),I 0,D.J 1 [[I 3]]],[I 2,I b,I 0,D.J 1 [[I 4]]],[I 7,I 0,I 0,D.J 1 [[I 1]]],[I 8,I 0,I 0,D.v (aO)]] 2 [d31,d32,d33,d34]])):
 cc 118 [aN.cur [D.J 1 A,I f0,I g0] [D.J 1 A,I p,I a0]] (aV.vals [.agg (bt ([[I 1,I 0,I 0,D.J 1 [[I 1]]],[I 5,I 0,I 0,D.J 1 [[I 2],[I 5]]],[I 4,I (1+a),I 0,D.J 1 [[I 3]]],[I 2,I b,I 0,D.J 1 [[I 4]]],[I 7,I 0,I 0,D.J 1 [[I 1]]],[I 8,I 0,I 0,D.v (aO)]].set 2 [d31,d32,d33,D.J 1 [[I 3],[I 4]]]) (1+e) (1+d))]):=
 h.cd
theorem anG{A:ah}{f0 g0 b9 de e d0 bM d f g:Int}{q:Bool}{i j a k l b m n o p a0 c:Int}{d31 d32 d33 d34:D}(h:af (CB A b9 de e d0 bM d f g q f0 g0 i j a k l b m n o p a0 c [.b (c==0) false,.b (c==1) false,.b (c==2) false,.b (c==3) true,.a .wr,.p (([[I 1,I 0,I 0,D.J 1 [[I 1]]],[I 5,I 0,I 0,D.J 1 [[I 2],[I 5]]],[I 4,I (1+a),I 0,D.J 1 [[I 3]]],[I 2,I b,I 0,D.J 1 [[I 4]]],[I 7,I 0,I 0,D.J 1 [[I 1]]],[I 8,I 0,I 0,D.v (aO)]].length+[[I 8,I 0,I 0,D.v (aO)]].length)*48<=140737488355328),.p ([[I 1,I 0,I 0,D.J 1 [[I 1]]],[I 5,I 0,I 0,D.J 1 [[I 2],[I 5]]],[I 4,I (1+a),I 0,D.J 1 [[I 3]]],[I 2,I b,I 0,D.J 1 [[I 4]]],[I 7,I 0,I 0,D.J 1 [[I 1]]],[I 8,I 0,I 0,D.v (aO)]].length+[[I 8,I 0,I 0,D.v (aO)]].length<=9223372036854775807),.p ((0:Int)<=0),.p (0<(↑([[I 1,I 0,I 0,D.J 1 [[I 1]]],[I 5,I 0,I 0,D.J 1 [[I 2],[I 5]]],[I 4,I (1+a),I 0,D.J 1 [[I 3]]],[I 2,I b,I 0,D.J 1 [[I 4]]],[I 7,I 0,I 0,D.J 1 [[I 1]]],[I 8,I 0,I 0,D.v (aO)]]++[[I 8,I 0,I 0,D.v (aO)]]).length:Int)),.e ([[I 1,I 0,I 0,D.J 1 [[I 1]]],[I 5,I 0,I 0,D.J 1 [[I 2],[I 5]]],[I 4,I (1+a),I 0,D.J 1 [[I 3]]],[I 2,I b,I 0,D.J 1 [[I 4]]],[I 7,I 0,I 0,D.J 1 [[I 1]]],[I 8,I 0,I 0,D.v (aO)]]++[[I 8,I 0,I 0,D.v (aO)]]) 0 [d31,d32,d33,d34]])):
 cc 118 [aN.cur [D.J 1 A,I f0,I g0] [D.J 1 A,I p,I a0]] (aV.vals [.agg (bt (([[I 1,I 0,I 0,D.J 1 [[I 1]]],[I 5,I 0,I 0,D.J 1 [[I 2],[I 5]]],[I 4,I (1+a),I 0,D.J 1 [[I 3]]],[I 2,I b,I 0,D.J 1 [[I 4]]],[I 7,I 0,I 0,D.J 1 [[I 1]]],[I 8,I 0,I 0,D.v (aO)]]++[[I 8,I 0,I 0,D.v (aO)]]).set 0 [d31,d32,d33,D.J 1 [[I 1],[I 6]]]) (1+e) (1+d))]):=
 h.cd
theorem anH(h:af (CB A b9 de d d0 bM b e f q f0 g0 g i c j k l m n o p a0 a [.b (a==0) false,.b (a==1) false,.b (a==2) false,.b (a==3) false])):
 cc 118 [aN.cur [D.J 1 A,I f0,I g0] [D.J 1 A,I p,I a0]] (aV.vals [.agg [D.J 4 [[I 1,I 0,I 0,D.J 1 [[I 1]]],[I 5,I 0,I 0,D.J 1 [[I 2],[I 5]]],[I 4,I (1+c),I 0,D.J 1 [[I 3]]],[I 2,I l,I 0,D.J 1 [[I 4]]],[I 7,I 0,I 0,D.J 1 [[I 1]]],[I 8,I 0,I 0,D.v (aO)]],I (1+d),I (1+b)]]):=
 h.cd
def Vr(C A:ah)(b c d e f a:Int):aF:=bf 75 [(0,aT 1000000000),(2,aT 2),(3,aT 3),(4,a1 d),(5,aT 1000000000),(6,aJ.aI (bC.agg [aD 70000 4 A,ay b,ay c])),(7,aT 1000000000),(8,aT 3),(9,aJ.aI (bC.one (aD 70000 4 A))),(10,a1 (A.length:Int)),(11,a1 d),(12,aT 1000000000),(13,a1 a),(14,.aI (.one (.bc (a==0)))),(15,.aI (.one (.bc (a==0))))] [(3,[aD 70000 4 A,ay b,ay c]),(2,[.v (aO),ay 0,ay 0]),(1000000000,[.dx 1000000100 1 C,ay e,ay f])]
def Ml(E A:ah)(f g a e i j c d b:Int)(C:ah):aF:=bf 75 [(0,aT 1000000000),(2,aT 2),(3,aT 3),(4,a1 a),(5,aT 1000000000),(6,aJ.aI (bC.agg [aD 70000 4 (A.set a.toNat (bn c d b C)),ay f,ay g])),(7,aT 1000000000),(8,aT 3),(9,aJ.aI (bC.one (aD 70000 4 (A.set a.toNat (bn c d b C))))),(10,a1 (A.length:Int)),(11,a1 a),(12,aT 1000000000),(13,a1 e),(14,.aI (.one (.bc (e==0)))),(15,.aI (.one (.bc (e==0)))),(16,aT 3),(17,aJ.aI (bC.one (aD 70000 4 (A.set a.toNat (bn c d b C))))),(18,a1 a),(19,aT 1000000000),(20,aJ.aI (bC.agg [ay c,ay d,ay b,.cq])),(21,.aI (.one (.ep (Tag.own 70000) 4 (A.set a.toNat (bn c d b C)) a.toNat 0)))] [(3,[aD 70000 4 (A.set a.toNat (bn c d b C)),ay f,ay g]),(2,[.v (aO),ay 0,ay 0]),(1000000000,[.dx 1000000100 1 E,ay i,ay j])]
theorem anI{A C:ah}{n o a g i m b c d e f:Int}{E:ah}{j k l:Int}{F:ah}
  (h:cO [bZ prog 252 [aN.cur [D.J 1 A,I g,I i] [D.J 1 A,I b,I c]] (aV.vals [.agg (bn d e f E)]),0<=a,a<(C.length:Int),C[a.toNat]?=some (bn j k l F)]):
  eA prog (cV f137 5) (Vr A C n o a g i m) (Ml A C n o a m b c d e f E):=
 .of [[],[],[],[],[.dm [some [D.J 1 A,I b,I c]] (aV.vals [.agg (bn d e f E)])],[],[.el (bn j k l F)]] [[],[],[],[],[bZ prog 252 [aN.cur [D.J 1 A,I g,I i] [D.J 1 A,I b,I c]] (aV.vals [.agg (bn d e f E)])],[0<=a,a<(C.length:Int)],[C[a.toNat]?=some (bn j k l F)]] (by kernel_rfl) (by kernel_rfl) (by kernel_rfl) h
def NY(A:ah)(a b:Int)(C:ah)(c d e f g i j k m n:Int)(l:List O):List O:=.a (.dm [some [D.J 1 A,I a,I b]] (aV.vals [.agg (bt C c d)]))::.w A e f g::.w A i j k::.p (bZ prog 118 [aN.cur [D.J 1 A,I m,I n] [D.J 1 A,I a,I b]] (aV.vals [.agg (bt C c d)]))::.k A 138 a b e f (C.length:Int) g::.k A 138 e f i j 12 k::l
theorem anJ(h:af (NY A o p C c d e f a g i b a0 b9 [.b (b==0) true,.a (.iu (Ml A C c d a b j k l m n E)),.p (eA prog (cV f137 5) (Vr A C c d a g i b) (Ml A C c d a b j k l m n E))])):
 cc 137 [aN.cur [D.J 1 A,I a0,I b9] [D.J 1 A,I j,I k]] (aV.vals [.agg (bt (C.set a.toNat (bn l m n E)) c d)]):=
 h.cd
theorem anK(h:af (NY A j k C p l b c n d e a m o [.b (a==0) false,.b (a==1) true,.w A f g i,.p (bZ prog 140 [aN.cur [D.J 1 A,I d,I e] [D.J 1 A,I f,I g],aN.ro (.one (.J 1 [[I 0],[I 4],[I 5],[I (-1)]]))] (aV.vals [ao i]))])):
 cc 137 [aN.cur [D.J 1 A,I m,I o] [D.J 1 A,I f,I g]] (aV.vals [.agg (bt C i l)]):=
 h.cd
def CD(A:ah)(a b:Int)(C:ah)(c d e f g i j k m n:Int)(l:List O):List O:=NY A a b C c d e f g i j k m n (.b (k==0) false::.b (k==1) false::l)
theorem anL(h:af (CD A j k C l p b c n d e a m o [.b (a==2) true,.w A f g i,.p (bZ prog 140 [aN.cur [D.J 1 A,I d,I e] [D.J 1 A,I f,I g],aN.ro (.one (.J 1 [[I 0],[I 4],[I 5],[I (-1)]]))] (aV.vals [ao i]))])):
 cc 137 [aN.cur [D.J 1 A,I m,I o] [D.J 1 A,I f,I g]] (aV.vals [.agg (bt C l i)]):=
 h.cd
def Vs(C A:ah)(b c d e f a:Int):aF:=bf 75 [(0,aT 1000000000),(2,aT 2),(3,aT 3),(4,a1 d),(5,aT 1000000000),(6,aJ.aI (bC.agg [aD 70000 4 A,ay b,ay c])),(7,aT 1000000000),(8,aT 3),(9,aJ.aI (bC.one (aD 70000 4 A))),(10,a1 (A.length:Int)),(11,a1 d),(12,aT 1000000000),(13,a1 a),(14,.aI (.one (.bc (a==0)))),(15,.aI (.one (.bc (a==0)))),(22,.aI (.one (.bc (a==1)))),(23,.aI (.one (.bc (a==1)))),(28,.aI (.one (.bc (a==2)))),(29,.aI (.one (.bc (a==2)))),(34,.aI (.one (.bc (a==3)))),(35,.aI (.one (.bc (a==3))))] [(3,[aD 70000 4 A,ay b,ay c]),(2,[.v (aO),ay 0,ay 0]),(1000000000,[.dx 1000000100 1 C,ay e,ay f])]
def Mm(E A:ah)(g i a f:Int)(C:ah)(j k b c d e:Int):aF:=bf 75 [(0,aT 1000000000),(2,aT 2),(3,aT 3),(4,a1 a),(5,aT 1000000000),(6,aJ.aI (bC.agg [.J (.own 70000) 4 (A.set a.toNat (bn c d e (C++[[I (b-1)]]))),ay g,ay i])),(7,aT 1000000000),(8,aT 3),(9,.aI (.one (.J (.own 70000) 4 (A.set a.toNat (bn c d e (C++[[I (b-1)]])))))),(10,a1 (A.length:Int)),(11,a1 a),(12,aT 1000000000),(13,a1 f),(14,.aI (.one (.bc (f==0)))),(15,.aI (.one (.bc (f==0)))),(22,.aI (.one (.bc (f==1)))),(23,.aI (.one (.bc (f==1)))),(28,.aI (.one (.bc (f==2)))),(29,.aI (.one (.bc (f==2)))),(34,.aI (.one (.bc (f==3)))),(35,.aI (.one (.bc (f==3)))),(36,aT 3),(37,.aI (.one (.J (.own 70000) 4 (A.set a.toNat (bn c d e (C++[[I (b-1)]])))))),(38,a1 a),(39,aT 3),(40,.aI (.one (.J (.own 70000) 4 (A.set a.toNat (bn c d e (C++[[I (b-1)]])))))),(41,a1 a),(42,.aI (.one (.ep (Tag.own 70000) 4 (A.set a.toNat (bn c d e (C++[[I (b-1)]]))) a.toNat 0))),(43,.aI (.one (.ep (Tag.own 70000) 4 (A.set a.toNat (bn c d e (C++[[I (b-1)]]))) a.toNat 3))),(45,aT 1000000000),(46,a1 b),(47,a1 (b-1)),(48,.aI (.one (.J (.own 48) 1 [[I (b-1)]]))),(50,.aI (.one (.ep (Tag.own 70000) 4 (A.set a.toNat (bn c d e (C++[[I (b-1)]]))) a.toNat 0))),(51,.aI (.one (.ep (Tag.own 70000) 4 (A.set a.toNat (bn c d e (C++[[I (b-1)]]))) a.toNat 3)))] [(3,[.J (.own 70000) 4 (A.set a.toNat (bn c d e (C++[[I (b-1)]]))),ay g,ay i]),(2,[.v (aO),ay 0,ay 0]),(1000000000,[.dx 1000000100 1 E,ay j,ay k])]
theorem anM{E C:ah}{o p a i j n k l m:Int}{A:ah}{c d b:Int}{d25 d26 d27:D}{e f g:Int}{F:ah}
  (h:cO [0<=a,a<(C.length:Int),C[a.toNat]?=some (bn k l m A),bZ prog 138 [aN.cur [D.J 1 E,I i,I j] [D.J 1 E,I c,I d],aN.ro (ao 9)] (aV.vals [ao b]),aG .i64 (b-1),(A.length+[[I (b-1)]].length)*8<=140737488355328,A.length+[[I (b-1)]].length<=9223372036854775807,C[a.toNat]?=some [d25,d26,d27,D.J 1 A],[d25,d26,d27,D.J 1 A][3]?=some (D.J 1 A),a.toNat=a.toNat,Flat [[I (b-1)]],0<=a,a<(C.length:Int),C[a.toNat]?=some (bn e f g F),a.toNat=a.toNat]):
  eA prog (cV f137 11) (Vs E C o p a i j n) (Mm E C o p a n A c d b e f g):=
 .of [[],[],[],[],[],[],[],[],[.sub,.el (bn k l m A)],[],[.dm [some [D.J 1 E,I c,I d],none] (aV.vals [ao b])],[],[],[.el [d25,d26,d27,D.J 1 A]],[],[],[.el (bn e f g F)]] [[],[],[],[],[],[],[0<=a,a<(C.length:Int)],[],[C[a.toNat]?=some (bn k l m A)],[],[bZ prog 138 [aN.cur [D.J 1 E,I i,I j] [D.J 1 E,I c,I d],aN.ro (ao 9)] (aV.vals [ao b])],[aG .i64 (b-1)],[],[(A.length+[[I (b-1)]].length)*8<=140737488355328,A.length+[[I (b-1)]].length<=9223372036854775807,C[a.toNat]?=some [d25,d26,d27,D.J 1 A],[d25,d26,d27,D.J 1 A][3]?=some (D.J 1 A),a.toNat=a.toNat,Flat [[I (b-1)]]],[0<=a,a<(C.length:Int)],[],[C[a.toNat]?=some (bn e f g F),a.toNat=a.toNat]] (by kernel_rfl) (by kernel_rfl) (by kernel_rfl) h
theorem anN(h:af (CD A p a0 C c d e f b g i a b9 de [.b (a==2) false,.b (a==3) true,.a (.iu (Mm A C c d b a E j k l m n o)),.p (eA prog (cV f137 11) (Vs A C c d b g i a) (Mm A C c d b a E j k l m n o))])):
 cc 137 [aN.cur [D.J 1 A,I b9,I de] [D.J 1 A,I j,I k]] (aV.vals [.agg [D.J 4 (C.set b.toNat (bn m n o (E++[[I (l-1)]]))),I c,I d]]):=
 h.cd
def BI(A C:ah)(a b c d e f:Int):aF:=bf 75 [(0,aT 1000000000),(2,aT 2),(3,aT 3)] [(3,[aD 70000 4 C,ay a,ay b]),(2,[.v (aO),ay c,ay d]),(1000000000,[.dx 1000000100 1 A,ay e,ay f])]
def F6(A C:ah)(a b c d e f:Int):aF:=bf 75 [(0,aT 1000000000),(2,aT 2),(3,aT 3)] [(3,[aD 70000 4 C,ay a,ay b]),(2,[.v (aO),ay c,ay d]),(1000000000,[.dx 1000000100 1 A,ay e,ay f])]
def BJ(P:Program)(W:Array Oper)(A C:ah)(a b c d e f g i j:Int):aF:=
 mS P W [[],[],[],[],[.dm [some [D.J 1 A,I g,I i],none] (aV.vals [ao j])],[],[]] (F6 A C a b c d e f)
theorem Vt{A C:ah}{d e f g a b i j c:Int}
  (h:cO [bZ prog 138 [aN.cur [D.J 1 A,I a,I b] [D.J 1 A,I i,I j],aN.ro (ao 2)] (aV.vals [ao c]),aG .i64 (8+c)]):
  eA prog (cV f137 13) (F6 A C d e f g a b) (BJ prog (cV f137 13) A C d e f g a b i j c):=
 .nK [0,0,0,0,1,1,0] h
theorem anO(h:af [.a (.iu (BJ prog (cV f137 13) C A a b c d e f g i j)),.p (eA prog (cV f137 13) (F6 C A a b c d e f) (BJ prog (cV f137 13) C A a b c d e f g i j)),.b (decide ((A.length:Int)<8+j)) true,.a .wr,.g A [[I 8,I 0,I 0,D.v (aO)]] 48]):
 aY (aq f137 0) (BI C A a b c d e f) .normal (BI C (A++[[I 8,I 0,I 0,D.v (aO)]]) a b c d g i):=
 h.aW [3,0,2] [3,2,1000000000]
def Mn(A C:ah)(a b c d e f:Int):aF:=bf 75 [(0,aT 1000000000),(2,aT 2),(3,aT 3)] [(3,[aD 70000 4 C,ay a,ay b]),(2,[.v (aO),ay c,ay d]),(1000000000,[.dx 1000000100 1 A,ay e,ay f])]
theorem anP(h:af [.a (.iu (BJ prog (cV f137 13) C A a b c d e f g i j)),.p (eA prog (cV f137 13) (F6 C A a b c d e f) (BJ prog (cV f137 13) C A a b c d e f g i j)),.b (decide ((A.length:Int)<8+j)) false]):
 aY (aq f137 0) (BI C A a b c d e f) (.exit 1) (Mn C A a b c d g i):=
 h.aW [3,2,0] [3,2,1000000000]
theorem anQ(h:af (CD A f g C i j b c l d e a k o [.b (a==2) false,.b (a==3) false,.b (a==4) true,.l [] [3,0,2] [3,2,1000000000] (aq f137 0) (BI A C i j 0 0 d e) (.exit 1) (Mn A E m n b9 de p a0)])):
 cc 137 [aN.cur [D.J 1 A,I k,I o] [D.J 1 A,I p,I a0]] (aV.vals [.agg (bt E m n)]):=
 h.cd
theorem anR(h:af (CD A g i C j k c d b e f a l m [.b (a==2) false,.b (a==3) false,.b (a==4) false,.b (a==5) true,.a .own,.p ((0:Int)<=none.getD 0),.p (none.getD 0<=(some b).getD (C.length:Int)),.p ((some b).getD (C.length:Int)<=(C.length:Int))])):
 cc 137 [aN.cur [D.J 1 A,I l,I m] [D.J 1 A,I e,I f]] (aV.vals [.agg [D.J 4 (List.take (((some b).getD (C.length:Int)).toNat-0) (List.drop 0 C)),I j,I k]]):=
 h.cd
theorem anS(h:af (CD A f g C i j b c l d e a k m [.b (a==2) false,.b (a==3) false,.b (a==4) false,.b (a==5) false])):
 cc 137 [aN.cur [D.J 1 A,I k,I m] [D.J 1 A,I d,I e]] (aV.vals [.agg (bt C i j)]):=
 h.cd
def BK(A:ah)(a b:Int)(C:ah)(c d:Int):aF:=bf 29 [(0,aT 1000000000),(3,aJ.aI (bC.one (aD 6 5 C))),(4,a1 b),(5,a1 a)] [(1000000000,[.dx 1000000100 1 A,ay c,ay d])]
theorem anT(h:af [.w A p f g,.k A 138 a0 b9 p f 6 g,.b (decide (e<g)) true,.w A i j d,.k A 138 p f i j 2 d,.v (o+d),.r 130 [ao (o+d),ao 0,ao 2] [ao a],.w A k l b,.w A m n c,.k A 138 i j k l 12 b,.k A 138 k l m n 40 c,.g C [(bx 0 a 0 b c)] 40,.h [(bx 0 a 0 b c)],.u e]):
 aY (aq f119 0) (BK A e o C a0 b9) .normal (BK A (e+1) a (C++[(bx 0 a 0 b c)]) m n):=
 h.aW [5,0,4,3] [1000000000]
def Mo(A C:ah)(a b:Int):aF:=bf 29 [(0,aT 1000000000),(3,aJ.aI (bC.one (aD 6 5 C)))] [(1000000000,[.dx 1000000100 1 A,ay a,ay b])]
theorem anU(h:af [.w A c a b,.k A 138 e f c a 6 b,.b (decide (d<b)) false]):
 aY (aq f119 0) (BK A d g C e f) (.exit 0) (Mo A C c a):=
 h.aW [3,0] [1000000000]
theorem anV(h:af [.l [] [5,0,4,3] [1000000000] (aq f119 0) (BK A 0 0 [] a b) (.exit 0) (Mo A C c d)]):
 cc 119 [aN.cur [D.J 1 A,I a,I b] [D.J 1 A,I c,I d]] (aV.vals [aM 5 C]):=
 h.cd
def Mp(A:ah)(a c d b:Int):aF:=bf 27 [(0,aT 1000000000),(2,aT 2),(3,aT 3),(4,aT 1000000000),(5,.aI (.one (.J (.own 5) 1 [[I 1],[I 1],[I 1],[I 2],[I 3],[I 3],[I 3],[I 4],[I 4],[I 5],[I 6],[I 6],[I 7]]))),(6,a1 a),(7,aT 1000000000),(8,a1 b),(9,aJ.aI (bC.agg [ay a,ay b,ay 0])),(10,aT 3),(11,a1 a),(12,.aI (.one (.bc (a==4)))),(13,.aI (.one (.v (Value.bool true)))),(14,.aI (.one (.v (Value.tuple #[])))),(15,.aI (.one (.v (Value.tuple #[])))),(16,.aI (.one (.v (Value.tuple #[])))),(17,.aI (.one (.v (Value.bool true))))] [(3,[ay a,ay b,ay 0]),(2,[ay 0,ay 0,ay 0]),(1000000000,[.dx 1000000100 1 A,ay c,ay d])]
def Mq(P:Program)(W:Array Oper)(A:ah)(e f g a b c d:Int):aF:=
 mS P W [[],[],[],[],[.dm [some [D.J 1 A,I b,I c],none] (aV.vals [ao d])],[],[],[],[]] (Mp A e f g a)
theorem anW{A:ah}{g c d a e f b:Int}
  (h:cO [aG .i64 (a+1),bZ prog 138 [aN.cur [D.J 1 A,I c,I d] [D.J 1 A,I e,I f],aN.ro (ao 2)] (aV.vals [ao b]),aG .i64 (a+1+b),(3:Int)≠0]):
  eA prog (cV f242 3) (Mp A g c d a) (Mq prog (cV f242 3) A g c d a e f b):=
 .nK [0,0,1,0,1,1,1,0,0] h
def NV(A:ah)(a b c d e f g i:Int)(l:List O):List O:=.w A a b c::.w A d e f::.p (bZ prog 140 [aN.cur [D.J 1 A,I g,I i] [D.J 1 A,I a,I b],aN.ro (.one (.J 1 [[I 1],[I 1],[I 1],[I 2],[I 3],[I 3],[I 3],[I 4],[I 4],[I 5],[I 6],[I 6],[I 7]]))] (aV.vals [ao c]))::.k A 138 a b d e 3 f::l
theorem am4(h:af (NV A i j b c d a k l [.b (b==4) true,.a (.iu (Mq prog (cV f242 3) A b c d a e f g)),.p (eA prog (cV f242 3) (Mp A b c d a) (Mq prog (cV f242 3) A b c d a e f g))])):
 cc 242 [aN.cur [D.J 1 A,I k,I l] [D.J 1 A,I e,I f]] (aV.vals [.agg [I b,I a,I ((a+1+g).tmod 3)]]):=
 h.cd
def Mr(A:ah)(a c d b:Int):aF:=bf 27 [(0,aT 1000000000),(2,aT 2),(3,aT 3),(4,aT 1000000000),(5,.aI (.one (.J (.own 5) 1 [[I 1],[I 1],[I 1],[I 2],[I 3],[I 3],[I 3],[I 4],[I 4],[I 5],[I 6],[I 6],[I 7]]))),(6,a1 a),(7,aT 1000000000),(8,a1 b),(9,aJ.aI (bC.agg [ay a,ay b,ay 0])),(10,aT 3),(11,a1 a),(12,.aI (.one (.bc (a==4)))),(13,.aI (.one (.v (Value.bool false)))),(14,aT 3),(15,a1 a),(16,.aI (.one (.bc (a==5)))),(17,.aI (.one (.bc (a==5))))] [(3,[ay a,ay b,ay 0]),(2,[ay 0,ay 0,ay 0]),(1000000000,[.dx 1000000100 1 A,ay c,ay d])]
def Ms(P:Program)(W:Array Oper)(A:ah)(e f g a b c d:Int):aF:=
 mS P W [[],[],[],[],[.dm [some [D.J 1 A,I b,I c],none] (aV.vals [ao d])],[],[],[],[]] (Mr A e f g a)
theorem am5{A:ah}{g c d a e f b:Int}
  (h:cO [aG .i64 (a+1),bZ prog 138 [aN.cur [D.J 1 A,I c,I d] [D.J 1 A,I e,I f],aN.ro (ao 2)] (aV.vals [ao b]),aG .i64 (a+1+b),(3:Int)≠0]):
  eA prog (cV f242 3) (Mr A g c d a) (Ms prog (cV f242 3) A g c d a e f b):=
 .nK [0,0,1,0,1,1,1,0,0] h
theorem am6(h:af (NV A i j a c d b k l [.b (a==4) false,.b (a==5) true,.a (.iu (Ms prog (cV f242 3) A a c d b e f g)),.p (eA prog (cV f242 3) (Mr A a c d b) (Ms prog (cV f242 3) A a c d b e f g))])):
 cc 242 [aN.cur [D.J 1 A,I k,I l] [D.J 1 A,I e,I f]] (aV.vals [.agg [I a,I b,I ((b+1+g).tmod 3)]]):=
 h.cd
theorem am7(h:af (NV A c d a e f b g i [.b (a==4) false,.b (a==5) false])):
 cc 242 [aN.cur [D.J 1 A,I g,I i] [D.J 1 A,I e,I f]] (aV.vals [.agg [I a,I b,I 0]]):=
 h.cd
def BL(A:ah)(a b:Int)(C:ah)(c d:Int):aF:=bf 22 [(0,aT 1000000000),(1,a1 a),(5,aJ.aI (bC.one (aD 7 3 C))),(6,a1 b)] [(1000000000,[.dx 1000000100 1 A,ay c,ay d])]
theorem am8(h:af [.w A k f g,.u d,.k A 138 l m k f (d+1) g,.b (decide (e<g)) true,.a (.dm [some [D.J 1 A,I i,I j]] (aV.vals [.agg [I a,I b,I c]])),.p (bZ prog 242 [aN.cur [D.J 1 A,I k,I f] [D.J 1 A,I i,I j]] (aV.vals [.agg [I a,I b,I c]])),.g C [[I a,I b,I c]] 24,.h [[I a,I b,I c]],.u e]):
 aY (aq f120 0) (BL A d e C l m) .normal (BL A d (e+1) (C++[[I a,I b,I c]]) i j):=
 h.aW [6,0,1,5] [1000000000]
def Mt(A C:ah)(a b:Int):aF:=bf 22 [(0,aT 1000000000),(5,aJ.aI (bC.one (aD 7 3 C)))] [(1000000000,[.dx 1000000100 1 A,ay a,ay b])]
theorem am9(h:af [.w A d a b,.u c,.k A 138 f g d a (c+1) b,.b (decide (e<b)) false]):
 aY (aq f120 0) (BL A c e C f g) (.exit 0) (Mt A C d a):=
 h.aW [5,0] [1000000000]
theorem ana(h:af [.l [] [6,0,1,5] [1000000000] (aq f120 0) (BL A c 0 [] a b) (.exit 0) (Mt A C d e)]):
 cc 120 [aN.cur [D.J 1 A,I a,I b] [D.J 1 A,I d,I e],aN.ro (ao c)] (aV.vals [aM 3 C]):=
 h.cd
