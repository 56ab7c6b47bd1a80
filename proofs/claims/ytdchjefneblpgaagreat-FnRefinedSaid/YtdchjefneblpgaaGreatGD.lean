import Derived.Test.YtdchjefneblpgaaGreatGE
set_option linter.unusedVariables false
set_option linter.unusedSimpArgs false
namespace Go.Proofs.YtdchjefneblpgaaGreat
open Go.Sx Go.RowKit Go.Proofs.Tryz
variable {a b c d e f g i j k l m n o p a0 bX cO d0 bu f0 i0 : Int} {A C E F : ae} {q : Bool}
def zJ(A:ae)(a b:Int):aJ:=bj 32 [(0,.aI (.one (.dw 1000000100 1 A))),(3,a6 b),(4,a6 a)] []
theorem anx(h:ad [.f A a true,.b (decide (a<4000)) true,.v (b*131),.x A a [D.v (Value.int IntKind.u8 c)],.a (.po (a6 d)),.v c,.v (b*131+c),.v (b*131+c+7),.p (na prog BinOp.and 3 (Operand.tmp 26) (Operand.const (Value.int IntKind.i64 1073741823)) (Value.int IntKind.i64 (b*131+c+7)) (Value.int IntKind.i64 1073741823) (Value.int IntKind.i64 d)),.u a]):
 a7 (ar f117 0) (zJ A a b) .normal (zJ A (a+1) d):=
 h.aY [4,0,3] []
def GD(A:ae)(a:Int):aJ:=bj 32 [(0,.aI (.one (.dw 1000000100 1 A))),(3,a6 a)] []
theorem anz(h:ad [.f A a true,.b (decide (a<4000)) false]):
 a7 (ar f117 0) (zJ A a b) (.exit 0) (GD A b):=
 h.aY [0,3] []
theorem anA(h:ad [.f A a false]):
 a7 (ar f117 0) (zJ A a b) (.exit 0) (GD A b):=
 h.aY [0,3] []
theorem anB(h:ad [.v (94701+(A.length:Int)),.l [] [4,0,3] [] (ar f117 0) (zJ A 0 (94701+(A.length:Int))) (.exit 0) (GD A a)]):
 b' 117 [aN.ro (aC 1 A)] (aU.iX [some 0,none,none] [D.J 1 A,I 0,I a]):=
 h.ca
def Zb(a b c d e:Int)(l:List O):List O:=.a .wr::.a .wr::.a (.po (a6 a))::.a (.po (a6 b))::.a (.po (a6 c))::.a (.po (a6 d))::.p (na prog BinOp.shr 3 (Operand.tmp 16) (Operand.const (Value.int IntKind.u64 33)) (Value.int IntKind.i64 (IntKind.i64.wrap (IntKind.i64.wrap (e*6364136223846793005)+1442695040888963407))) (Value.int IntKind.u64 33) (Value.int IntKind.i64 a))::.p (na prog BinOp.shr 3 (Operand.tmp 21) (Operand.const (Value.int IntKind.u64 45)) (Value.int IntKind.i64 (IntKind.i64.wrap (IntKind.i64.wrap (e*6364136223846793005)+1442695040888963407))) (Value.int IntKind.u64 45) (Value.int IntKind.i64 b))::.p (na prog BinOp.xor 3 (Operand.tmp 17) (Operand.tmp 22) (Value.int IntKind.i64 a) (Value.int IntKind.i64 b) (Value.int IntKind.i64 c))::.p (na prog BinOp.and 3 (Operand.tmp 23) (Operand.const (Value.int IntKind.i64 255)) (Value.int IntKind.i64 c) (Value.int IntKind.i64 255) (Value.int IntKind.i64 d))::l
theorem anC(h:ad (Zb c d e f b [.i A a [D.v (Value.int IntKind.u8 i)],.a .wr,.a .wr,.a (.po (a6 g)),.p (na prog BinOp.and 3 (Operand.tmp 47) (Operand.const (Value.int IntKind.i64 255)) (Value.int IntKind.i64 (IntKind.i64.wrap (f+IntKind.i64.wrap i))) (Value.int IntKind.i64 255) (Value.int IntKind.i64 g)),.u a])):
 b' 253 [aN.cur [D.J 1 A,I a,I b] [D.J 1 A,I (a+1),I (IntKind.i64.wrap (IntKind.i64.wrap (b*6364136223846793005)+1442695040888963407))]] (aU.vals [ag g]):=
 h.ca
theorem am0(h:ad (Zb c d e f a [.f A b false])):
 b' 253 [aN.cur [D.J 1 A,I b,I a] [D.J 1 A,I b,I (IntKind.i64.wrap (IntKind.i64.wrap (a*6364136223846793005)+1442695040888963407))]] (aU.vals [ag f]):=
 h.ca
theorem am1(h:ad [.b (decide (a<=0)) false,.b (decide (a<=256)) true,.a (.dp [some [D.J 1 A,I b,I c]] (aU.vals [ag d])),.p (bW prog 253 [aN.cur [D.J 1 A,I e,I f] [D.J 1 A,I b,I c]] (aU.vals [ag d])),.p (a≠0)]):
 b' 138 [aN.cur [D.J 1 A,I e,I f] [D.J 1 A,I b,I c],aN.ro (ag a)] (aU.vals [ag (d.tmod a)]):=
 h.ca
theorem am2(h:ad [.b (decide (d<=0)) false,.b (decide (d<=256)) false,.a (.dp [some [D.J 1 A,I l,I m]] (aU.vals [ag b])),.a (.dp [some [D.J 1 A,I n,I f]] (aU.vals [ag a])),.a (.dp [some [D.J 1 A,I g,I i]] (aU.vals [ag c])),.a (.dp [some [D.J 1 A,I j,I k]] (aU.vals [ag e])),.p (bW prog 253 [aN.cur [D.J 1 A,I o,I p] [D.J 1 A,I l,I m]] (aU.vals [ag b])),.p (bW prog 253 [aN.cur [D.J 1 A,I l,I m] [D.J 1 A,I n,I f]] (aU.vals [ag a])),.p (bW prog 253 [aN.cur [D.J 1 A,I n,I f] [D.J 1 A,I g,I i]] (aU.vals [ag c])),.p (bW prog 253 [aN.cur [D.J 1 A,I g,I i] [D.J 1 A,I j,I k]] (aU.vals [ag e])),.v (b*16777216),.v (a*65536),.v (b*16777216+a*65536),.v (c*256),.v (b*16777216+a*65536+c*256),.v (b*16777216+a*65536+c*256+e),.p (d≠0)]):
 b' 138 [aN.cur [D.J 1 A,I o,I p] [D.J 1 A,I j,I k],aN.ro (ag d)] (aU.vals [ag ((b*16777216+a*65536+c*256+e).tmod d)]):=
 h.ca
theorem am3(h:ad [.w A a b c,.k A 138 d e a b f c]):
 b' 136 [aN.cur [D.J 1 A,I d,I e] [D.J 1 A,I a,I b],aN.ro (ag f)] (aU.vals [ai (c==0)]):=
 h.ca
theorem am4(h:ad [.w A a b c,.k A 138 d e a b (C.length:Int) c,.x C c [I f]]):
 b' 140 [aN.cur [D.J 1 A,I d,I e] [D.J 1 A,I a,I b],aN.ro (aC 1 C)] (aU.vals [ag f]):=
 h.ca
theorem am5(h:ad [.w A b c d,.w A e f a,.k A 138 g i b c 4 d,.k A 138 b c e f 5 a]):
 b' 325 [aN.cur [D.J 1 A,I g,I i] [D.J 1 A,I e,I f]] (aU.vals [.agg [I d,I a]]):=
 h.ca
def Ph(A:ae)(a b c d e f g i j:Int)(l:List O):List O:=.a (.dp [some [D.J 1 A,I a,I b]] (aU.vals [.agg [I c,I d]]))::.w A e f g::.p (bW prog 325 [aN.cur [D.J 1 A,I i,I j] [D.J 1 A,I a,I b]] (aU.vals [.agg [I c,I d]]))::.k A 138 a b e f 10 g::l
theorem am6(h:ad (Ph A f g m i j a b k l [.b (b==0) true,.w A c d e,.p (bW prog 140 [aN.cur [D.J 1 A,I j,I a] [D.J 1 A,I c,I d],aN.ro (.one (.J 1 [[I (-1)],[I 3],[I 4],[I 9223372036854775807]]))] (aU.vals [ag e]))])):
 b' 272 [aN.cur [D.J 1 A,I k,I l] [D.J 1 A,I c,I d]] (aU.vals [.agg [I e,I i]]):=
 h.ca
theorem am7(h:ad (Ph A f g i m j b a k l [.b (a==0) false,.b (a==1) true,.w A c d e,.p (bW prog 140 [aN.cur [D.J 1 A,I j,I b] [D.J 1 A,I c,I d],aN.ro (.one (.J 1 [[I (-1)],[I 5],[I 6],[I 7],[I (-9223372036854775808)]]))] (aU.vals [ag e]))])):
 b' 272 [aN.cur [D.J 1 A,I k,I l] [D.J 1 A,I c,I d]] (aU.vals [.agg [I i,I e]]):=
 h.ca
theorem am8(h:ad (Ph A c d e f g b a i j [.b (a==0) false,.b (a==1) false])):
 b' 272 [aN.cur [D.J 1 A,I i,I j] [D.J 1 A,I g,I b]] (aU.vals [.agg [I e,I f]]):=
 h.ca
theorem am9(h:ad [.w A j k l,.a (.dp [some [D.J 1 A,I m,I n]] (aU.vals [.agg [I a,I b]])),.w A c d e,.w A f g i,.k A 138 o p j k 5 l,.p (bW prog 325 [aN.cur [D.J 1 A,I j,I k] [D.J 1 A,I m,I n]] (aU.vals [.agg [I a,I b]])),.k A 138 m n c d 12 e,.k A 138 c d f g 40 i]):
 b' 271 [aN.cur [D.J 1 A,I o,I p] [D.J 1 A,I f,I g]] (aU.vals [.agg (aS l a b e i)]):=
 h.ca
def C9(A:ae)(a b c d e f g i j k m n:Int)(l:List O):List O:=.a (.dp [some [D.J 1 A,I a,I b]] (aU.vals [.agg (aS c d e f g)]))::.w A i j k::.p (bW prog 271 [aN.cur [D.J 1 A,I m,I n] [D.J 1 A,I a,I b]] (aU.vals [.agg (aS c d e f g)]))::.k A 138 a b i j 12 k::l
theorem aoD(h:ad (C9 A i j p k l m a b c d n o [.b (d==0) true,.w A e f g,.p (bW prog 140 [aN.cur [D.J 1 A,I b,I c] [D.J 1 A,I e,I f],aN.ro (.one (.J 1 [[I (-1)],[I 7],[I 8]]))] (aU.vals [ag g]))])):
 b' 178 [aN.cur [D.J 1 A,I n,I o] [D.J 1 A,I e,I f]] (aU.vals [.agg (aS g k l m a)]):=
 h.ca
theorem aoE(h:ad (C9 A j k l p a0 m b c d a n o [.b (a==0) false,.b (a==1) true,.a (.dp [some [D.J 1 A,I e,I f]] (aU.vals [.agg [I g,I i]])),.p (bW prog 272 [aN.cur [D.J 1 A,I c,I d] [D.J 1 A,I e,I f]] (aU.vals [.agg [I g,I i]]))])):
 b' 178 [aN.cur [D.J 1 A,I n,I o] [D.J 1 A,I e,I f]] (aU.vals [.agg (aS l g i m b)]):=
 h.ca
theorem aoF(h:ad (C9 A i j k l m p b c d a n o [.b (a==0) false,.b (a==1) false,.b (a==2) true,.w A e f g,.p (bW prog 140 [aN.cur [D.J 1 A,I c,I d] [D.J 1 A,I e,I f],aN.ro (.one (.J 1 [[I (-1)],[I 99],[I 100],[I (-9223372036854775808)]]))] (aU.vals [ag g]))])):
 b' 178 [aN.cur [D.J 1 A,I n,I o] [D.J 1 A,I e,I f]] (aU.vals [.agg (aS k l m g b)]):=
 h.ca
theorem aoG(h:ad (C9 A g i j k l m o b c a n p [.b (a==0) false,.b (a==1) false,.b (a==2) false,.b (a==3) true,.w A d e f,.p (bW prog 140 [aN.cur [D.J 1 A,I b,I c] [D.J 1 A,I d,I e],aN.ro (.one (.J 1 [[I (-1)],[I 999],[I 1000],[I 9223372036854775807]]))] (aU.vals [ag f]))])):
 b' 178 [aN.cur [D.J 1 A,I n,I p] [D.J 1 A,I d,I e]] (aU.vals [.agg (aS j k l m f)]):=
 h.ca
theorem aoH(h:ad (C9 A e f g i j k b c d a l m [.b (a==0) false,.b (a==1) false,.b (a==2) false,.b (a==3) false])):
 b' 178 [aN.cur [D.J 1 A,I l,I m] [D.J 1 A,I c,I d]] (aU.vals [.agg (aS g i j k b)]):=
 h.ca
def ql(A:ae)(a:Int)(C:ae)(b c:Int):aJ:=bj 35 [(0,aR 1000000000),(3,aL.aI (bn.one (aB 5 5 C))),(4,a6 a)] [(1000000000,[.dw 1000000100 1 A,au b,au c])]
theorem aoI(h:ad [.w A n o g,.k A 138 p a0 n o 7 g,.b (decide (f<g)) true,.b (decide ((C.length:Int)>0)) true,.y A i j q,.m A 136 n o i j 5 q,.b q true,.w A k l m,.k A 138 i j k l (C.length:Int) m,.x C m (aS a b c d e),.g C [(aS a b c d e)] 40,.h [(aS a b c d e)],.u f]):
 a7 (ar f228 0) (ql A f C p a0) .normal (ql A (f+1) (C++[(aS a b c d e)]) k l):=
 h.aY [4,0,3] [1000000000]
theorem aoJ(h:ad [.w A m n g,.k A 138 o p m n 7 g,.b (decide (f<g)) true,.b (decide ((C.length:Int)>0)) true,.y A i j q,.m A 136 m n i j 5 q,.b q false,.a (.dp [some [D.J 1 A,I k,I l]] (aU.vals [.agg (aS a b c d e)])),.p (bW prog 178 [aN.cur [D.J 1 A,I i,I j] [D.J 1 A,I k,I l]] (aU.vals [.agg (aS a b c d e)])),.g C [(aS a b c d e)] 40,.h [(aS a b c d e)],.u f]):
 a7 (ar f228 0) (ql A f C o p) .normal (ql A (f+1) (C++[(aS a b c d e)]) k l):=
 h.aY [4,0,3] [1000000000]
theorem aoK(h:ad [.w A k l g,.k A 138 m n k l 7 g,.b (decide (f<g)) true,.b (decide ((C.length:Int)>0)) false,.a (.dp [some [D.J 1 A,I i,I j]] (aU.vals [.agg (aS a b c d e)])),.p (bW prog 178 [aN.cur [D.J 1 A,I k,I l] [D.J 1 A,I i,I j]] (aU.vals [.agg (aS a b c d e)])),.g C [(aS a b c d e)] 40,.h [(aS a b c d e)],.u f]):
 a7 (ar f228 0) (ql A f C m n) .normal (ql A (f+1) (C++[(aS a b c d e)]) i j):=
 h.aY [4,0,3] [1000000000]
def GF(A C:ae)(a b:Int):aJ:=bj 35 [(0,aR 1000000000),(3,aL.aI (bn.one (aB 5 5 C)))] [(1000000000,[.dw 1000000100 1 A,au a,au b])]
theorem aoL(h:ad [.w A b c a,.k A 138 e f b c 7 a,.b (decide (d<a)) false]):
 a7 (ar f228 0) (ql A d C e f) (.exit 0) (GF A C b c):=
 h.aY [3,0] [1000000000]
theorem aoM(h:ad [.l [] [4,0,3] [1000000000] (ar f228 0) (ql A 0 [] a b) (.exit 0) (GF A C c d)]):
 b' 228 [aN.cur [D.J 1 A,I a,I b] [D.J 1 A,I c,I d]] (aU.vals [aC 5 C]):=
 h.ca
def Zc(A:ae)(a b c d e f g i:Int)(q:Bool)(j k:Int)(l:List O):List O:=.w A a b c::.w A d e f::.y A g i q::.k A 138 j k a b 3 c::.v (1+c)::.k A 138 a b d e 3 f::.v (1+f)::.m A 136 d e g i 3 q::l
def C7(A:ae)(a b c d e f g i:Int)(q:Bool)(j k m n o p d' eC c1 d1 e1 f1 g1 i1:Int)(l:List O):List O:=Zc A a b c d e f g i q j k (.b q true::.w A m n o::.w A p d' eC::.w A c1 d1 e1::.w A f1 g1 i1::.k A 138 g i m n 3 o::.v (1+o)::.k A 138 m n p d' 4 eC::.k A 138 p d' c1 d1 3 e1::.v (1+e1)::.k A 138 c1 d1 f1 g1 6 i1::l)
theorem aoN{A:ae}{f0 i0 bX cO e d0 bu c f g:Int}{q:Bool}{i j a k l b m n d o p a0:Int}{d31 d32 d33 d34:D}(h:ad (C7 A bX cO e d0 bu c f g q f0 i0 i j a k l b m n d o p a0 [.b (a0==0) true,.p ((0:Int)<=3),.p (3<(↑[[I 1,I 0,I 0,D.J 1 [[I 1]]],[I 6,I 0,I 0,D.J 1 [[I 2],[I 5]]],[I 4,I (1+a),I 0,D.J 1 [[I 3]]],[I 2,I b,I 0,D.J 1 [[I 4]]],[I 7,I 0,I 0,D.J 1 [[I 1]]],[I 8,I 0,I 0,D.v (aQ)]].length:Int)),.e [[I 1,I 0,I 0,D.J 1 [[I 1]]],[I 6,I 0,I 0,D.J 1 [[I 2],[I 5]]],[I 4,I (1+a),I 0,D.J 1 [[I 3]]],[I 2,I b,I 0,D.J 1 [[I 4]]],[I 7,I 0,I 0,D.J 1 [[I 1]]],[I 8,I 0,I 0,D.v (aQ)]] 3 [d31,d32,d33,d34]])):
 b' 118 [aN.cur [D.J 1 A,I f0,I i0] [D.J 1 A,I o,I p]] (aU.vals [.agg (bA ([[I 1,I 0,I 0,D.J 1 [[I 1]]],[I 6,I 0,I 0,D.J 1 [[I 2],[I 5]]],[I 4,I (1+a),I 0,D.J 1 [[I 3]]],[I 2,I b,I 0,D.J 1 [[I 4]]],[I 7,I 0,I 0,D.J 1 [[I 1]]],[I 8,I 0,I 0,D.v (aQ)]].set 3 [I 3,I (1+d),I 0,D.J 1 [[I 4]]]) (1+e) (1+c))]):=
 h.ca
theorem aoO{A:ae}{f0 i0 bX cO e d0 bu c f g:Int}{q:Bool}{i j a k l b m n o p a0 d:Int}{d31 d32 d33 d34:D}(h:ad (C7 A bX cO e d0 bu c f g q f0 i0 i j a k l b m n o p a0 d [.b (d==0) false,.b (d==1) true,.p ((0:Int)<=4),.p (4<(↑[[I 1,I 0,I 0,D.J 1 [[I 1]]],[I 6,I 0,I 0,D.J 1 [[I 2],[I 5]]],[I 4,I (1+a),I 0,D.J 1 [[I 3]]],[I 2,I b,I 0,D.J 1 [[I 4]]],[I 7,I 0,I 0,D.J 1 [[I 1]]],[I 8,I 0,I 0,D.v (aQ)]].length:Int)),.e [[I 1,I 0,I 0,D.J 1 [[I 1]]],[I 6,I 0,I 0,D.J 1 [[I 2],[I 5]]],[I 4,I (1+a),I 0,D.J 1 [[I 3]]],[I 2,I b,I 0,D.J 1 [[I 4]]],[I 7,I 0,I 0,D.J 1 [[I 1]]],[I 8,I 0,I 0,D.v (aQ)]] 4 [d31,d32,d33,d34]])):
 b' 118 [aN.cur [D.J 1 A,I f0,I i0] [D.J 1 A,I p,I a0]] (aU.vals [.agg (bA ([[I 1,I 0,I 0,D.J 1 [[I 1]]],[I 6,I 0,I 0,D.J 1 [[I 2],[I 5]]],[I 4,I (1+a),I 0,D.J 1 [[I 3]]],[I 2,I b,I 0,D.J 1 [[I 4]]],[I 7,I 0,I 0,D.J 1 [[I 1]]],[I 8,I 0,I 0,D.v (aQ)]].set 4 [I 8,I 0,I 0,D.v (aQ)]) (1+e) (1+c))]):=
 h.ca
theorem aoP{A:ae}{f0 i0 bX cO e d0 bu d f g:Int}{q:Bool}{i j a k l b m n o p a0 c:Int}{d31 d32 d33 d34:D}(h:ad (C7 A bX cO e d0 bu d f g q f0 i0 i j a k l b m n o p a0 c [.b (c==0) false,.b (c==1) false,.b (c==2) true,.p ((0:Int)<=2),.p (2<(↑[[I 1,I 0,I 0,D.J 1 [[I 1]]],[I 6,I 0,I 0,D.J 1 [[I 2],[I 5]]],[I 4,I (1+a),I 0,D.J 1 [[I 3]]],[I 2,I b,I 0,D.J 1 [[I 4]]],[I 7,I 0,I 0,D.J 1 [[I 1]]],[I 8,I 0,I 0,D.v (aQ)]].length:Int)),.e [[I 1,I 0,I 0,D.J 1 [[I 1]]],[I 6,I 0,I 0,D.J 1 [[I 2],[I 5]]],[I 4,I (1+a),I 0,D.J 1 [[I 3]]],[I 2,I b,I 0,D.J 1 [[I 4]]],[I 7,I 0,I 0,D.J 1 [[I 1]]],[I 8,I 0,I 0,D.v (aQ)]] 2 [d31,d32,d33,d34]])):
 b' 118 [aN.cur [D.J 1 A,I f0,I i0] [D.J 1 A,I p,I a0]] (aU.vals [.agg (bA ([[I 1,I 0,I 0,D.J 1 [[I 1]]],[I 6,I 0,I 0,D.J 1 [[I 2],[I 5]]],[I 4,I (1+a),I 0,D.J 1 [[I 3]]],[I 2,I b,I 0,D.J 1 [[I 4]]],[I 7,I 0,I 0,D.J 1 [[I 1]]],[I 8,I 0,I 0,D.v (aQ)]].set 2 [d31,d32,d33,D.J 1 [[I 3],[I 4]]]) (1+e) (1+d))]):=
 h.ca
theorem aoQ{A:ae}{f0 i0 bX cO e d0 bu d f g:Int}{q:Bool}{i j a k l b m n o p a0 c:Int}{d31 d32 d33 d34:D}(h:ad (C7 A bX cO e d0 bu d f g q f0 i0 i j a k l b m n o p a0 c [.b (c==0) false,.b (c==1) false,.b (c==2) false,.b (c==3) true,.a .wr,.p (([[I 1,I 0,I 0,D.J 1 [[I 1]]],[I 6,I 0,I 0,D.J 1 [[I 2],[I 5]]],[I 4,I (1+a),I 0,D.J 1 [[I 3]]],[I 2,I b,I 0,D.J 1 [[I 4]]],[I 7,I 0,I 0,D.J 1 [[I 1]]],[I 8,I 0,I 0,D.v (aQ)]].length+[[I 8,I 0,I 0,D.v (aQ)]].length)*48<=140737488355328),.p ([[I 1,I 0,I 0,D.J 1 [[I 1]]],[I 6,I 0,I 0,D.J 1 [[I 2],[I 5]]],[I 4,I (1+a),I 0,D.J 1 [[I 3]]],[I 2,I b,I 0,D.J 1 [[I 4]]],[I 7,I 0,I 0,D.J 1 [[I 1]]],[I 8,I 0,I 0,D.v (aQ)]].length+[[I 8,I 0,I 0,D.v (aQ)]].length<=9223372036854775807),.p ((0:Int)<=0),.p (0<(↑([[I 1,I 0,I 0,D.J 1 [[I 1]]],[I 6,I 0,I 0,D.J 1 [[I 2],[I 5]]],[I 4,I (1+a),I 0,D.J 1 [[I 3]]],[I 2,I b,I 0,D.J 1 [[I 4]]],[I 7,I 0,I 0,D.J 1 [[I 1]]],[I 8,I 0,I 0,D.v (aQ)]]++[[I 8,I 0,I 0,D.v (aQ)]]).length:Int)),.e ([[I 1,I 0,I 0,D.J 1 [[I 1]]],[I 6,I 0,I 0,D.J 1 [[I 2],[I 5]]],[I 4,I (1+a),I 0,D.J 1 [[I 3]]],[I 2,I b,I 0,D.J 1 [[I 4]]],[I 7,I 0,I 0,D.J 1 [[I 1]]],[I 8,I 0,I 0,D.v (aQ)]]++[[I 8,I 0,I 0,D.v (aQ)]]) 0 [d31,d32,d33,d34]])):
 b' 118 [aN.cur [D.J 1 A,I f0,I i0] [D.J 1 A,I p,I a0]] (aU.vals [.agg (bA (([[I 1,I 0,I 0,D.J 1 [[I 1]]],[I 6,I 0,I 0,D.J 1 [[I 2],[I 5]]],[I 4,I (1+a),I 0,D.J 1 [[I 3]]],[I 2,I b,I 0,D.J 1 [[I 4]]],[I 7,I 0,I 0,D.J 1 [[I 1]]],[I 8,I 0,I 0,D.v (aQ)]]++[[I 8,I 0,I 0,D.v (aQ)]]).set 0 [d31,d32,d33,D.J 1 [[I 1],[I 6]]]) (1+e) (1+d))]):=
 h.ca
theorem aoR(h:ad (C7 A bX cO d d0 bu b e f q f0 i0 g i c j k l m n o p a0 a [.b (a==0) false,.b (a==1) false,.b (a==2) false,.b (a==3) false])):
 b' 118 [aN.cur [D.J 1 A,I f0,I i0] [D.J 1 A,I p,I a0]] (aU.vals [.agg [D.J 4 [[I 1,I 0,I 0,D.J 1 [[I 1]]],[I 6,I 0,I 0,D.J 1 [[I 2],[I 5]]],[I 4,I (1+c),I 0,D.J 1 [[I 3]]],[I 2,I l,I 0,D.J 1 [[I 4]]],[I 7,I 0,I 0,D.J 1 [[I 1]]],[I 8,I 0,I 0,D.v (aQ)]],I (1+d),I (1+b)]]):=
 h.ca
def C8(A:ae)(a b c d e f g i:Int)(q:Bool)(j k m n o p d' eC c1 d1 e1 f1 g1 i1:Int)(l:List O):List O:=Zc A a b c d e f g i q j k (.b q false::.w A m n o::.w A p d' eC::.w A c1 d1 e1::.w A f1 g1 i1::.k A 138 g i m n 3 o::.v (1+o)::.k A 138 m n p d' 4 eC::.k A 138 p d' c1 d1 3 e1::.v (1+e1)::.k A 138 c1 d1 f1 g1 6 i1::l)
theorem aoS{A:ae}{f0 i0 bX cO e d0 bu c f g:Int}{q:Bool}{i j a k l b m n d o p a0:Int}{d31 d32 d33 d34:D}(h:ad (C8 A bX cO e d0 bu c f g q f0 i0 i j a k l b m n d o p a0 [.b (a0==0) true,.p ((0:Int)<=3),.p (3<(↑[[I 1,I 0,I 0,D.J 1 [[I 1]]],[I 5,I 0,I 0,D.J 1 [[I 2],[I 5]]],[I 4,I (1+a),I 0,D.J 1 [[I 3]]],[I 2,I b,I 0,D.J 1 [[I 4]]],[I 7,I 0,I 0,D.J 1 [[I 1]]],[I 8,I 0,I 0,D.v (aQ)]].length:Int)),.e [[I 1,I 0,I 0,D.J 1 [[I 1]]],[I 5,I 0,I 0,D.J 1 [[I 2],[I 5]]],[I 4,I (1+a),I 0,D.J 1 [[I 3]]],[I 2,I b,I 0,D.J 1 [[I 4]]],[I 7,I 0,I 0,D.J 1 [[I 1]]],[I 8,I 0,I 0,D.v (aQ)]] 3 [d31,d32,d33,d34]])):
 b' 118 [aN.cur [D.J 1 A,I f0,I i0] [D.J 1 A,I o,I p]] (aU.vals [.agg (bA ([[I 1,I 0,I 0,D.J 1 [[I 1]]],[I 5,I 0,I 0,D.J 1 [[I 2],[I 5]]],[I 4,I (1+a),I 0,D.J 1 [[I 3]]],[I 2,I b,I 0,D.J 1 [[I 4]]],[I 7,I 0,I 0,D.J 1 [[I 1]]],[I 8,I 0,I 0,D.v (aQ)]].set 3 [I 3,I (1+d),I 0,D.J 1 [[I 4]]]) (1+e) (1+c))]):=
 h.ca
theorem aoT{A:ae}{f0 i0 bX cO e d0 bu c f g:Int}{q:Bool}{i j a k l b m n o p a0 d:Int}{d31 d32 d33 d34:D}(h:ad (C8 A bX cO e d0 bu c f g q f0 i0 i j a k l b m n o p a0 d [.b (d==0) false,.b (d==1) true,.p ((0:Int)<=4),.p (4<(↑[[I 1,I 0,I 0,D.J 1 [[I 1]]],[I 5,I 0,I 0,D.J 1 [[I 2],[I 5]]],[I 4,I (1+a),I 0,D.J 1 [[I 3]]],[I 2,I b,I 0,D.J 1 [[I 4]]],[I 7,I 0,I 0,D.J 1 [[I 1]]],[I 8,I 0,I 0,D.v (aQ)]].length:Int)),.e [[I 1,I 0,I 0,D.J 1 [[I 1]]],[I 5,I 0,I 0,D.J 1 [[I 2],[I 5]]],[I 4,I (1+a),I 0,D.J 1 [[I 3]]],[I 2,I b,I 0,D.J 1 [[I 4]]],[I 7,I 0,I 0,D.J 1 [[I 1]]],[I 8,I 0,I 0,D.v (aQ)]] 4 [d31,d32,d33,d34]])):
 b' 118 [aN.cur [D.J 1 A,I f0,I i0] [D.J 1 A,I p,I a0]] (aU.vals [.agg (bA ([[I 1,I 0,I 0,D.J 1 [[I 1]]],[I 5,I 0,I 0,D.J 1 [[I 2],[I 5]]],[I 4,I (1+a),I 0,D.J 1 [[I 3]]],[I 2,I b,I 0,D.J 1 [[I 4]]],[I 7,I 0,I 0,D.J 1 [[I 1]]],[I 8,I 0,I 0,D.v (aQ)]].set 4 [I 8,I 0,I 0,D.v (aQ)]) (1+e) (1+c))]):=
 h.ca
theorem aoU{A:ae}{f0 i0 bX cO e d0 bu d f g:Int}{q:Bool}{i j a k l b m n o p a0 c:Int}{d31 d32 d33 d34:D}(h:ad (C8 A bX cO e d0 bu d f g q f0 i0 i j a k l b m n o p a0 c [.b (c==0) false,.b (c==1) false,.b (c==2) true,.p ((0:Int)<=2),.p (2<(↑[[I 1,I 0,I 0,D.J 1 [[I 1]]],[I 5,I 0,I 0,D.J 1 [[I 2],[I 5]]],[I 4,I (1+a),I 0,D.J 1 [[I 3]]],[I 2,I b,I 0,D.J 1 [[I 4]]],[I 7,I 0,I 0,D.J 1 [[I 1]]],[I 8,I 0,I 0,D.v (aQ)]].length:Int)),.e [[I 1,I 0,I 0,D.J 1 [[I 1]]],[I 5,I 0,I 0,D.J 1 [[I 2],[I 5]]],[I 4,I (1+a),I 0,D.J 1 [[I 3]]],[I 2,I b,I 0,D.J 1 [[I 4]]],[I 7,I 0,I 0,D.J 1 [[I 1]]],[I 8,I 0,I 0,D.v (aQ)]] 2 [d31,d32,d33,d34]])):
 b' 118 [aN.cur [D.J 1 A,I f0,I i0] [D.J 1 A,I p,I a0]] (aU.vals [.agg (bA ([[I 1,I 0,I 0,D.J 1 [[I 1]]],[I 5,I 0,I 0,D.J 1 [[I 2],[I 5]]],[I 4,I (1+a),I 0,D.J 1 [[I 3]]],[I 2,I b,I 0,D.J 1 [[I 4]]],[I 7,I 0,I 0,D.J 1 [[I 1]]],[I 8,I 0,I 0,D.v (aQ)]].set 2 [d31,d32,d33,D.J 1 [[I 3],[I 4]]]) (1+e) (1+d))]):=
 h.ca
theorem aoV{A:ae}{f0 i0 bX cO e d0 bu d f g:Int}{q:Bool}{i j a k l b m n o p a0 c:Int}{d31 d32 d33 d34:D}(h:ad (C8 A bX cO e d0 bu d f g q f0 i0 i j a k l b m n o p a0 c [.b (c==0) false,.b (c==1) false,.b (c==2) false,.b (c==3) true,.a .wr,.p (([[I 1,I 0,I 0,D.J 1 [[I 1]]],[I 5,I 0,I 0,D.J 1 [[I 2],[I 5]]],[I 4,I (1+a),I 0,D.J 1 [[I 3]]],[I 2,I b,I 0,D.J 1 [[I 4]]],[I 7,I 0,I 0,D.J 1 [[I 1]]],[I 8,I 0,I 0,D.v (aQ)]].length+[[I 8,I 0,I 0,D.v (aQ)]].length)*48<=140737488355328),.p ([[I 1,I 0,I 0,D.J 1 [[I 1]]],[I 5,I 0,I 0,D.J 1 [[I 2],[I 5]]],[I 4,I (1+a),I 0,D.J 1 [[I 3]]],[I 2,I b,I 0,D.J 1 [[I 4]]],[I 7,I 0,I 0,D.J 1 [[I 1]]],[I 8,I 0,I 0,D.v (aQ)]].length+[[I 8,I 0,I 0,D.v (aQ)]].length<=9223372036854775807),.p ((0:Int)<=0),.p (0<(↑([[I 1,I 0,I 0,D.J 1 [[I 1]]],[I 5,I 0,I 0,D.J 1 [[I 2],[I 5]]],[I 4,I (1+a),I 0,D.J 1 [[I 3]]],[I 2,I b,I 0,D.J 1 [[I 4]]],[I 7,I 0,I 0,D.J 1 [[I 1]]],[I 8,I 0,I 0,D.v (aQ)]]++[[I 8,I 0,I 0,D.v (aQ)]]).length:Int)),.e ([[I 1,I 0,I 0,D.J 1 [[I 1]]],[I 5,I 0,I 0,D.J 1 [[I 2],[I 5]]],[I 4,I (1+a),I 0,D.J 1 [[I 3]]],[I 2,I b,I 0,D.J 1 [[I 4]]],[I 7,I 0,I 0,D.J 1 [[I 1]]],[I 8,I 0,I 0,D.v (aQ)]]++[[I 8,I 0,I 0,D.v (aQ)]]) 0 [d31,d32,d33,d34]])):
 b' 118 [aN.cur [D.J 1 A,I f0,I i0] [D.J 1 A,I p,I a0]] (aU.vals [.agg (bA (([[I 1,I 0,I 0,D.J 1 [[I 1]]],[I 5,I 0,I 0,D.J 1 [[I 2],[I 5]]],[I 4,I (1+a),I 0,D.J 1 [[I 3]]],[I 2,I b,I 0,D.J 1 [[I 4]]],[I 7,I 0,I 0,D.J 1 [[I 1]]],[I 8,I 0,I 0,D.v (aQ)]]++[[I 8,I 0,I 0,D.v (aQ)]]).set 0 [d31,d32,d33,D.J 1 [[I 1],[I 6]]]) (1+e) (1+d))]):=
 h.ca
theorem aoW(h:ad (C8 A bX cO d d0 bu b e f q f0 i0 g i c j k l m n o p a0 a [.b (a==0) false,.b (a==1) false,.b (a==2) false,.b (a==3) false])):
 b' 118 [aN.cur [D.J 1 A,I f0,I i0] [D.J 1 A,I p,I a0]] (aU.vals [.agg [D.J 4 [[I 1,I 0,I 0,D.J 1 [[I 1]]],[I 5,I 0,I 0,D.J 1 [[I 2],[I 5]]],[I 4,I (1+c),I 0,D.J 1 [[I 3]]],[I 2,I l,I 0,D.J 1 [[I 4]]],[I 7,I 0,I 0,D.J 1 [[I 1]]],[I 8,I 0,I 0,D.v (aQ)]],I (1+d),I (1+b)]]):=
 h.ca
def XG(C A:ae)(b c d e f a:Int):aJ:=bj 75 [(0,aR 1000000000),(2,aR 2),(3,aR 3),(4,a6 d),(5,aR 1000000000),(6,aL.aI (bn.agg [aB 70000 4 A,au b,au c])),(7,aR 1000000000),(8,aR 3),(9,aL.aI (bn.one (aB 70000 4 A))),(10,a6 (A.length:Int)),(11,a6 d),(12,aR 1000000000),(13,a6 a),(14,.aI (.one (.bg (a==0)))),(15,.aI (.one (.bg (a==0))))] [(3,[aB 70000 4 A,au b,au c]),(2,[.v (aQ),au 0,au 0]),(1000000000,[.dw 1000000100 1 C,au e,au f])]
def No(E A:ae)(f g a e i j c d b:Int)(C:ae):aJ:=bj 75 [(0,aR 1000000000),(2,aR 2),(3,aR 3),(4,a6 a),(5,aR 1000000000),(6,aL.aI (bn.agg [aB 70000 4 (A.set a.toNat (bt c d b C)),au f,au g])),(7,aR 1000000000),(8,aR 3),(9,aL.aI (bn.one (aB 70000 4 (A.set a.toNat (bt c d b C))))),(10,a6 (A.length:Int)),(11,a6 a),(12,aR 1000000000),(13,a6 e),(14,.aI (.one (.bg (e==0)))),(15,.aI (.one (.bg (e==0)))),(16,aR 3),(17,aL.aI (bn.one (aB 70000 4 (A.set a.toNat (bt c d b C))))),(18,a6 a),(19,aR 1000000000),(20,aL.aI (bn.agg [au c,au d,au b,.cA])),(21,.aI (.one (.cP (Tag.own 70000) 4 (A.set a.toNat (bt c d b C)) a.toNat 0)))] [(3,[aB 70000 4 (A.set a.toNat (bt c d b C)),au f,au g]),(2,[.v (aQ),au 0,au 0]),(1000000000,[.dw 1000000100 1 E,au i,au j])]
theorem aoX{A C:ae}{n o a g i m b c d e f:Int}{E:ae}{j k l:Int}{F:ae}
  (h:cL [bW prog 252 [aN.cur [D.J 1 A,I g,I i] [D.J 1 A,I b,I c]] (aU.vals [.agg (bt d e f E)]),0<=a,a<(C.length:Int),C[a.toNat]?=some (bt j k l F)]):
  et prog (cI f137 5) (XG A C n o a g i m) (No A C n o a m b c d e f E):=
 .of [[],[],[],[],[.dp [some [D.J 1 A,I b,I c]] (aU.vals [.agg (bt d e f E)])],[],[.el (bt j k l F)]] [[],[],[],[],[bW prog 252 [aN.cur [D.J 1 A,I g,I i] [D.J 1 A,I b,I c]] (aU.vals [.agg (bt d e f E)])],[0<=a,a<(C.length:Int)],[C[a.toNat]?=some (bt j k l F)]] (by kernel_rfl) (by kernel_rfl) (by kernel_rfl) h
def Pj(A:ae)(a b:Int)(C:ae)(c d e f g i j k m n:Int)(l:List O):List O:=.a (.dp [some [D.J 1 A,I a,I b]] (aU.vals [.agg (bA C c d)]))::.w A e f g::.w A i j k::.p (bW prog 118 [aN.cur [D.J 1 A,I m,I n] [D.J 1 A,I a,I b]] (aU.vals [.agg (bA C c d)]))::.k A 138 a b e f (C.length:Int) g::.k A 138 e f i j 12 k::l
theorem aoY(h:ad (Pj A o p C c d e f a g i b a0 bX [.b (b==0) true,.a (.iy (No A C c d a b j k l m n E)),.p (et prog (cI f137 5) (XG A C c d a g i b) (No A C c d a b j k l m n E))])):
 b' 137 [aN.cur [D.J 1 A,I a0,I bX] [D.J 1 A,I j,I k]] (aU.vals [.agg (bA (C.set a.toNat (bt l m n E)) c d)]):=
 h.ca
theorem aoZ(h:ad (Pj A j k C p l b c n d e a m o [.b (a==0) false,.b (a==1) true,.w A f g i,.p (bW prog 140 [aN.cur [D.J 1 A,I d,I e] [D.J 1 A,I f,I g],aN.ro (.one (.J 1 [[I 0],[I 4],[I 5],[I (-1)]]))] (aU.vals [ag i]))])):
 b' 137 [aN.cur [D.J 1 A,I m,I o] [D.J 1 A,I f,I g]] (aU.vals [.agg (bA C i l)]):=
 h.ca
def C'(A:ae)(a b:Int)(C:ae)(c d e f g i j k m n:Int)(l:List O):List O:=Pj A a b C c d e f g i j k m n (.b (k==0) false::.b (k==1) false::l)
theorem ao0(h:ad (C' A j k C l p b c n d e a m o [.b (a==2) true,.w A f g i,.p (bW prog 140 [aN.cur [D.J 1 A,I d,I e] [D.J 1 A,I f,I g],aN.ro (.one (.J 1 [[I 0],[I 4],[I 5],[I (-1)]]))] (aU.vals [ag i]))])):
 b' 137 [aN.cur [D.J 1 A,I m,I o] [D.J 1 A,I f,I g]] (aU.vals [.agg (bA C l i)]):=
 h.ca
def XH(C A:ae)(b c d e f a:Int):aJ:=bj 75 [(0,aR 1000000000),(2,aR 2),(3,aR 3),(4,a6 d),(5,aR 1000000000),(6,aL.aI (bn.agg [aB 70000 4 A,au b,au c])),(7,aR 1000000000),(8,aR 3),(9,aL.aI (bn.one (aB 70000 4 A))),(10,a6 (A.length:Int)),(11,a6 d),(12,aR 1000000000),(13,a6 a),(14,.aI (.one (.bg (a==0)))),(15,.aI (.one (.bg (a==0)))),(22,.aI (.one (.bg (a==1)))),(23,.aI (.one (.bg (a==1)))),(28,.aI (.one (.bg (a==2)))),(29,.aI (.one (.bg (a==2)))),(34,.aI (.one (.bg (a==3)))),(35,.aI (.one (.bg (a==3))))] [(3,[aB 70000 4 A,au b,au c]),(2,[.v (aQ),au 0,au 0]),(1000000000,[.dw 1000000100 1 C,au e,au f])]
def Np(E A:ae)(g i a f:Int)(C:ae)(j k b c d e:Int):aJ:=bj 75 [(0,aR 1000000000),(2,aR 2),(3,aR 3),(4,a6 a),(5,aR 1000000000),(6,aL.aI (bn.agg [.J (.own 70000) 4 (A.set a.toNat (bt c d e (C++[[I (b-1)]]))),au g,au i])),(7,aR 1000000000),(8,aR 3),(9,.aI (.one (.J (.own 70000) 4 (A.set a.toNat (bt c d e (C++[[I (b-1)]])))))),(10,a6 (A.length:Int)),(11,a6 a),(12,aR 1000000000),(13,a6 f),(14,.aI (.one (.bg (f==0)))),(15,.aI (.one (.bg (f==0)))),(22,.aI (.one (.bg (f==1)))),(23,.aI (.one (.bg (f==1)))),(28,.aI (.one (.bg (f==2)))),(29,.aI (.one (.bg (f==2)))),(34,.aI (.one (.bg (f==3)))),(35,.aI (.one (.bg (f==3)))),(36,aR 3),(37,.aI (.one (.J (.own 70000) 4 (A.set a.toNat (bt c d e (C++[[I (b-1)]])))))),(38,a6 a),(39,aR 3),(40,.aI (.one (.J (.own 70000) 4 (A.set a.toNat (bt c d e (C++[[I (b-1)]])))))),(41,a6 a),(42,.aI (.one (.cP (Tag.own 70000) 4 (A.set a.toNat (bt c d e (C++[[I (b-1)]]))) a.toNat 0))),(43,.aI (.one (.cP (Tag.own 70000) 4 (A.set a.toNat (bt c d e (C++[[I (b-1)]]))) a.toNat 3))),(45,aR 1000000000),(46,a6 b),(47,a6 (b-1)),(48,.aI (.one (.J (.own 48) 1 [[I (b-1)]]))),(50,.aI (.one (.cP (Tag.own 70000) 4 (A.set a.toNat (bt c d e (C++[[I (b-1)]]))) a.toNat 0))),(51,.aI (.one (.cP (Tag.own 70000) 4 (A.set a.toNat (bt c d e (C++[[I (b-1)]]))) a.toNat 3)))] [(3,[.J (.own 70000) 4 (A.set a.toNat (bt c d e (C++[[I (b-1)]]))),au g,au i]),(2,[.v (aQ),au 0,au 0]),(1000000000,[.dw 1000000100 1 E,au j,au k])]
theorem ao1{E C:ae}{o p a i j n k l m:Int}{A:ae}{c d b:Int}{d25 d26 d27:D}{e f g:Int}{F:ae}
  (h:cL [0<=a,a<(C.length:Int),C[a.toNat]?=some (bt k l m A),bW prog 138 [aN.cur [D.J 1 E,I i,I j] [D.J 1 E,I c,I d],aN.ro (ag 9)] (aU.vals [ag b]),aD .i64 (b-1),(A.length+[[I (b-1)]].length)*8<=140737488355328,A.length+[[I (b-1)]].length<=9223372036854775807,C[a.toNat]?=some [d25,d26,d27,D.J 1 A],[d25,d26,d27,D.J 1 A][3]?=some (D.J 1 A),a.toNat=a.toNat,Flat [[I (b-1)]],0<=a,a<(C.length:Int),C[a.toNat]?=some (bt e f g F),a.toNat=a.toNat]):
  et prog (cI f137 11) (XH E C o p a i j n) (Np E C o p a n A c d b e f g):=
 .of [[],[],[],[],[],[],[],[],[.sub,.el (bt k l m A)],[],[.dp [some [D.J 1 E,I c,I d],none] (aU.vals [ag b])],[],[],[.el [d25,d26,d27,D.J 1 A]],[],[],[.el (bt e f g F)]] [[],[],[],[],[],[],[0<=a,a<(C.length:Int)],[],[C[a.toNat]?=some (bt k l m A)],[],[bW prog 138 [aN.cur [D.J 1 E,I i,I j] [D.J 1 E,I c,I d],aN.ro (ag 9)] (aU.vals [ag b])],[aD .i64 (b-1)],[],[(A.length+[[I (b-1)]].length)*8<=140737488355328,A.length+[[I (b-1)]].length<=9223372036854775807,C[a.toNat]?=some [d25,d26,d27,D.J 1 A],[d25,d26,d27,D.J 1 A][3]?=some (D.J 1 A),a.toNat=a.toNat,Flat [[I (b-1)]]],[0<=a,a<(C.length:Int)],[],[C[a.toNat]?=some (bt e f g F),a.toNat=a.toNat]] (by kernel_rfl) (by kernel_rfl) (by kernel_rfl) h
theorem ao2(h:ad (C' A p a0 C c d e f b g i a bX cO [.b (a==2) false,.b (a==3) true,.a (.iy (Np A C c d b a E j k l m n o)),.p (et prog (cI f137 11) (XH A C c d b g i a) (Np A C c d b a E j k l m n o))])):
 b' 137 [aN.cur [D.J 1 A,I bX,I cO] [D.J 1 A,I j,I k]] (aU.vals [.agg [D.J 4 (C.set b.toNat (bt m n o (E++[[I (l-1)]]))),I c,I d]]):=
 h.ca
def CN(A C:ae)(a b c d e f:Int):aJ:=bj 75 [(0,aR 1000000000),(2,aR 2),(3,aR 3)] [(3,[aB 70000 4 C,au a,au b]),(2,[.v (aQ),au c,au d]),(1000000000,[.dw 1000000100 1 A,au e,au f])]
def GG(A C:ae)(a b c d e f:Int):aJ:=bj 75 [(0,aR 1000000000),(2,aR 2),(3,aR 3)] [(3,[aB 70000 4 C,au a,au b]),(2,[.v (aQ),au c,au d]),(1000000000,[.dw 1000000100 1 A,au e,au f])]
def CO(P:Program)(W:Array Oper)(A C:ae)(a b c d e f g i j:Int):aJ:=
 mx P W [[],[],[],[],[.dp [some [D.J 1 A,I g,I i],none] (aU.vals [ag j])],[],[]] (GG A C a b c d e f)
theorem XI{A C:ae}{d e f g a b i j c:Int}
  (h:cL [bW prog 138 [aN.cur [D.J 1 A,I a,I b] [D.J 1 A,I i,I j],aN.ro (ag 2)] (aU.vals [ag c]),aD .i64 (8+c)]):
  et prog (cI f137 13) (GG A C d e f g a b) (CO prog (cI f137 13) A C d e f g a b i j c):=
 .mQ [0,0,0,0,1,1,0] h
theorem aod(h:ad [.a (.iy (CO prog (cI f137 13) C A a b c d e f g i j)),.p (et prog (cI f137 13) (GG C A a b c d e f) (CO prog (cI f137 13) C A a b c d e f g i j)),.b (decide ((A.length:Int)<8+j)) true,.a .wr,.g A [[I 8,I 0,I 0,D.v (aQ)]] 48]):
 a7 (ar f137 0) (CN C A a b c d e f) .normal (CN C (A++[[I 8,I 0,I 0,D.v (aQ)]]) a b c d g i):=
 h.aY [3,0,2] [3,2,1000000000]
def Nq(A C:ae)(a b c d e f:Int):aJ:=bj 75 [(0,aR 1000000000),(2,aR 2),(3,aR 3)] [(3,[aB 70000 4 C,au a,au b]),(2,[.v (aQ),au c,au d]),(1000000000,[.dw 1000000100 1 A,au e,au f])]
theorem aoe(h:ad [.a (.iy (CO prog (cI f137 13) C A a b c d e f g i j)),.p (et prog (cI f137 13) (GG C A a b c d e f) (CO prog (cI f137 13) C A a b c d e f g i j)),.b (decide ((A.length:Int)<8+j)) false]):
 a7 (ar f137 0) (CN C A a b c d e f) (.exit 1) (Nq C A a b c d g i):=
 h.aY [3,2,0] [3,2,1000000000]
theorem aof(h:ad (C' A f g C i j b c l d e a k o [.b (a==2) false,.b (a==3) false,.b (a==4) true,.l [] [3,0,2] [3,2,1000000000] (ar f137 0) (CN A C i j 0 0 d e) (.exit 1) (Nq A E m n bX cO p a0)])):
 b' 137 [aN.cur [D.J 1 A,I k,I o] [D.J 1 A,I p,I a0]] (aU.vals [.agg (bA E m n)]):=
 h.ca
theorem aog(h:ad (C' A g i C j k c d b e f a l m [.b (a==2) false,.b (a==3) false,.b (a==4) false,.b (a==5) true,.a .own,.p ((0:Int)<=none.getD 0),.p (none.getD 0<=(some b).getD (C.length:Int)),.p ((some b).getD (C.length:Int)<=(C.length:Int))])):
 b' 137 [aN.cur [D.J 1 A,I l,I m] [D.J 1 A,I e,I f]] (aU.vals [.agg [D.J 4 (List.take (((some b).getD (C.length:Int)).toNat-0) (List.drop 0 C)),I j,I k]]):=
 h.ca
theorem aoh(h:ad (C' A f g C i j b c l d e a k m [.b (a==2) false,.b (a==3) false,.b (a==4) false,.b (a==5) false])):
 b' 137 [aN.cur [D.J 1 A,I k,I m] [D.J 1 A,I d,I e]] (aU.vals [.agg (bA C i j)]):=
 h.ca
def CP(A:ae)(a b:Int)(C:ae)(c d:Int):aJ:=bj 29 [(0,aR 1000000000),(3,aL.aI (bn.one (aB 6 5 C))),(4,a6 b),(5,a6 a)] [(1000000000,[.dw 1000000100 1 A,au c,au d])]
theorem aoi(h:ad [.w A p f g,.k A 138 a0 bX p f 6 g,.b (decide (e<g)) true,.w A i j d,.k A 138 p f i j 2 d,.v (o+d),.r 130 [ag (o+d),ag 0,ag 2] [ag a],.w A k l b,.w A m n c,.k A 138 i j k l 12 b,.k A 138 k l m n 40 c,.g C [(aS 0 a 0 b c)] 40,.h [(aS 0 a 0 b c)],.u e]):
 a7 (ar f119 0) (CP A e o C a0 bX) .normal (CP A (e+1) a (C++[(aS 0 a 0 b c)]) m n):=
 h.aY [5,0,4,3] [1000000000]
def Nr(A C:ae)(a b:Int):aJ:=bj 29 [(0,aR 1000000000),(3,aL.aI (bn.one (aB 6 5 C)))] [(1000000000,[.dw 1000000100 1 A,au a,au b])]
theorem aoj(h:ad [.w A c a b,.k A 138 e f c a 6 b,.b (decide (d<b)) false]):
 a7 (ar f119 0) (CP A d g C e f) (.exit 0) (Nr A C c a):=
 h.aY [3,0] [1000000000]
theorem aok(h:ad [.l [] [5,0,4,3] [1000000000] (ar f119 0) (CP A 0 0 [] a b) (.exit 0) (Nr A C c d)]):
 b' 119 [aN.cur [D.J 1 A,I a,I b] [D.J 1 A,I c,I d]] (aU.vals [aC 5 C]):=
 h.ca
def Ns(A:ae)(a c d b:Int):aJ:=bj 27 [(0,aR 1000000000),(2,aR 2),(3,aR 3),(4,aR 1000000000),(5,.aI (.one (.J (.own 5) 1 [[I 1],[I 1],[I 1],[I 2],[I 3],[I 3],[I 3],[I 4],[I 4],[I 5],[I 6],[I 6],[I 7]]))),(6,a6 a),(7,aR 1000000000),(8,a6 b),(9,aL.aI (bn.agg [au a,au b,au 0])),(10,aR 3),(11,a6 a),(12,.aI (.one (.bg (a==4)))),(13,.aI (.one (.v (Value.bool true)))),(14,.aI (.one (.v (Value.tuple #[])))),(15,.aI (.one (.v (Value.tuple #[])))),(16,.aI (.one (.v (Value.tuple #[])))),(17,.aI (.one (.v (Value.bool true))))] [(3,[au a,au b,au 0]),(2,[au 0,au 0,au 0]),(1000000000,[.dw 1000000100 1 A,au c,au d])]
def Nt(P:Program)(W:Array Oper)(A:ae)(e f g a b c d:Int):aJ:=
 mx P W [[],[],[],[],[.dp [some [D.J 1 A,I b,I c],none] (aU.vals [ag d])],[],[],[],[]] (Ns A e f g a)
theorem aol{A:ae}{g c d a e f b:Int}
  (h:cL [aD .i64 (a+1),bW prog 138 [aN.cur [D.J 1 A,I c,I d] [D.J 1 A,I e,I f],aN.ro (ag 2)] (aU.vals [ag b]),aD .i64 (a+1+b),(3:Int)≠0]):
  et prog (cI f242 3) (Ns A g c d a) (Nt prog (cI f242 3) A g c d a e f b):=
 .mQ [0,0,1,0,1,1,1,0,0] h
def Pg(A:ae)(a b c d e f g i:Int)(l:List O):List O:=.w A a b c::.w A d e f::.p (bW prog 140 [aN.cur [D.J 1 A,I g,I i] [D.J 1 A,I a,I b],aN.ro (.one (.J 1 [[I 1],[I 1],[I 1],[I 2],[I 3],[I 3],[I 3],[I 4],[I 4],[I 5],[I 6],[I 6],[I 7]]))] (aU.vals [ag c]))::.k A 138 a b d e 3 f::l
theorem aom(h:ad (Pg A i j b c d a k l [.b (b==4) true,.a (.iy (Nt prog (cI f242 3) A b c d a e f g)),.p (et prog (cI f242 3) (Ns A b c d a) (Nt prog (cI f242 3) A b c d a e f g))])):
 b' 242 [aN.cur [D.J 1 A,I k,I l] [D.J 1 A,I e,I f]] (aU.vals [.agg [I b,I a,I ((a+1+g).tmod 3)]]):=
 h.ca
def Nu(A:ae)(a c d b:Int):aJ:=bj 27 [(0,aR 1000000000),(2,aR 2),(3,aR 3),(4,aR 1000000000),(5,.aI (.one (.J (.own 5) 1 [[I 1],[I 1],[I 1],[I 2],[I 3],[I 3],[I 3],[I 4],[I 4],[I 5],[I 6],[I 6],[I 7]]))),(6,a6 a),(7,aR 1000000000),(8,a6 b),(9,aL.aI (bn.agg [au a,au b,au 0])),(10,aR 3),(11,a6 a),(12,.aI (.one (.bg (a==4)))),(13,.aI (.one (.v (Value.bool false)))),(14,aR 3),(15,a6 a),(16,.aI (.one (.bg (a==5)))),(17,.aI (.one (.bg (a==5))))] [(3,[au a,au b,au 0]),(2,[au 0,au 0,au 0]),(1000000000,[.dw 1000000100 1 A,au c,au d])]
def Nv(P:Program)(W:Array Oper)(A:ae)(e f g a b c d:Int):aJ:=
 mx P W [[],[],[],[],[.dp [some [D.J 1 A,I b,I c],none] (aU.vals [ag d])],[],[],[],[]] (Nu A e f g a)
theorem aon{A:ae}{g c d a e f b:Int}
  (h:cL [aD .i64 (a+1),bW prog 138 [aN.cur [D.J 1 A,I c,I d] [D.J 1 A,I e,I f],aN.ro (ag 2)] (aU.vals [ag b]),aD .i64 (a+1+b),(3:Int)≠0]):
  et prog (cI f242 3) (Nu A g c d a) (Nv prog (cI f242 3) A g c d a e f b):=
 .mQ [0,0,1,0,1,1,1,0,0] h
theorem aoo(h:ad (Pg A i j a c d b k l [.b (a==4) false,.b (a==5) true,.a (.iy (Nv prog (cI f242 3) A a c d b e f g)),.p (et prog (cI f242 3) (Nu A a c d b) (Nv prog (cI f242 3) A a c d b e f g))])):
 b' 242 [aN.cur [D.J 1 A,I k,I l] [D.J 1 A,I e,I f]] (aU.vals [.agg [I a,I b,I ((b+1+g).tmod 3)]]):=
 h.ca
theorem aop(h:ad (Pg A c d a e f b g i [.b (a==4) false,.b (a==5) false])):
 b' 242 [aN.cur [D.J 1 A,I g,I i] [D.J 1 A,I e,I f]] (aU.vals [.agg [I a,I b,I 0]]):=
 h.ca
def CQ(A:ae)(a b:Int)(C:ae)(c d:Int):aJ:=bj 22 [(0,aR 1000000000),(1,a6 a),(5,aL.aI (bn.one (aB 7 3 C))),(6,a6 b)] [(1000000000,[.dw 1000000100 1 A,au c,au d])]
theorem aoq(h:ad [.w A k f g,.u d,.k A 138 l m k f (d+1) g,.b (decide (e<g)) true,.a (.dp [some [D.J 1 A,I i,I j]] (aU.vals [.agg [I a,I b,I c]])),.p (bW prog 242 [aN.cur [D.J 1 A,I k,I f] [D.J 1 A,I i,I j]] (aU.vals [.agg [I a,I b,I c]])),.g C [[I a,I b,I c]] 24,.h [[I a,I b,I c]],.u e]):
 a7 (ar f120 0) (CQ A d e C l m) .normal (CQ A d (e+1) (C++[[I a,I b,I c]]) i j):=
 h.aY [6,0,1,5] [1000000000]
def Nw(A C:ae)(a b:Int):aJ:=bj 22 [(0,aR 1000000000),(5,aL.aI (bn.one (aB 7 3 C)))] [(1000000000,[.dw 1000000100 1 A,au a,au b])]
theorem aor(h:ad [.w A d a b,.u c,.k A 138 f g d a (c+1) b,.b (decide (e<b)) false]):
 a7 (ar f120 0) (CQ A c e C f g) (.exit 0) (Nw A C d a):=
 h.aY [5,0] [1000000000]
theorem aos(h:ad [.l [] [6,0,1,5] [1000000000] (ar f120 0) (CQ A c 0 [] a b) (.exit 0) (Nw A C d e)]):
 b' 120 [aN.cur [D.J 1 A,I a,I b] [D.J 1 A,I d,I e],aN.ro (ag c)] (aU.vals [aC 3 C]):=
 h.ca
def Nx(C A:ae)(a b:Int)(q:Bool):aJ:=bj 28 [(0,dO 1 C),(2,.aI (.one (.v (aQ)))),(3,aR 3),(4,aR 7),(5,aL.aI (bn.one (aB 100000 5 A))),(6,dO 1 C),(7,aR 7),(8,aR 7),(9,aL.aI (bn.one (aB 100000 5 A))),(10,aL.aI (bn.one (aB 100000 5 A))),(11,a6 (A.length:Int)),(12,.aI (.one (.bg (decide ((A.length:Int)>0))))),(13,.aI (.one (.v (Value.bool true)))),(14,aR 7),(15,.aI (.one (.bg q))),(16,.aI (.one (.bg q)))] [(7,[.J .free 1 C,au a,au b]),(3,[au 0,au 0,au 0,au 0,au 0])]
def Ny(P:Program)(W:Array Oper)(A C:ae)(k a:Int)(q:Bool)(b c d e f g i j:Int):aJ:=
 mx P W [[],[],[],[],[],[.dp [some [D.J 1 A,I b,I c],none] (aU.vals [ag d])],[],[.el (aS e f g i j)],[],[]] (Nx A C k a q)
theorem aot{C A:ae}{c b:Int}{q:Bool}{d e a f g i j k:Int}
  (h:cL [bW prog 138 [aN.cur [D.J 1 C,I c,I b] [D.J 1 C,I d,I e],aN.ro (ag (A.length:Int))] (aU.vals [ag a]),0<=a,a<(A.length:Int),A[a.toNat]?=some (aS f g i j k)]):
  et prog (cI f94 4) (Nx C A c b q) (Ny prog (cI f94 4) C A c b q d e a f g i j k):=
 .mQ [0,0,0,0,0,1,2,1,0,0] h
def Pk(A:ae)(a b c d:Int)(C:ae)(l:List O):List O:=.a (.dp [none] (aU.iX [some 0,none,none] [D.J 1 A,I a,I b]))::.a (.dp [some [D.J 1 A,I c,I d]] (aU.vals [aC 5 C]))::.p (bW prog 117 [aN.ro (aC 1 A)] (aU.iX [some 0,none,none] [D.J 1 A,I a,I b]))::.p (bW prog 228 [aN.cur [D.J 1 A,I a,I b] [D.J 1 A,I c,I d]] (aU.vals [aC 5 C]))::l
theorem aou(h:ad (Pk A g j k l C [.b (decide ((C.length:Int)>0)) true,.y A b a q,.m A 136 k l b a 2 q,.b q true,.a (.iy (Ny prog (cI f94 4) A C b a q m n o c d e f i)),.p (et prog (cI f94 4) (Nx A C b a q) (Ny prog (cI f94 4) A C b a q m n o c d e f i))])):
 al 94 [aC 1 A] [aC 5 C,.agg (aS c d e f i)]:=
 h.of
theorem aov(h:ad (Pk A g i j k C [.b (decide ((C.length:Int)>0)) true,.y A l a q,.m A 136 j k l a 2 q,.b q false,.a (.dp [some [D.J 1 A,I m,I n]] (aU.vals [.agg (aS b c d e f)])),.p (bW prog 178 [aN.cur [D.J 1 A,I l,I a] [D.J 1 A,I m,I n]] (aU.vals [.agg (aS b c d e f)]))])):
 al 94 [aC 1 A] [aC 5 C,.agg (aS b c d e f)]:=
 h.of
theorem aow(h:ad (Pk A f g i j C [.b (decide ((C.length:Int)>0)) false,.a (.dp [some [D.J 1 A,I l,I k]] (aU.vals [.agg (aS a b c d e)])),.p (bW prog 178 [aN.cur [D.J 1 A,I i,I j] [D.J 1 A,I l,I k]] (aU.vals [.agg (aS a b c d e)]))])):
 al 94 [aC 1 A] [aC 5 C,.agg (aS a b c d e)]:=
 h.of
