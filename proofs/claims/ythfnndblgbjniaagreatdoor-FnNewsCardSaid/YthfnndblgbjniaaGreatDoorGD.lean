import Derived.Test.YthfnndblgbjniaaGreatDoorGE
namespace Go.Proofs.YthfnndblgbjniaaGreatDoor
open Go.Sx Go.RowKit Go.Proofs.Tryz
variable {a b c d e f g i j k l m n o p a0 cj df d0 bD f0 g0 : Int} {A C E F G H ah K L M N Q R S bu V X Y Z ew : ae} {q r : Bool}
def wD(A:ae)(a b:Int):aD:=bd 32 [(0,.az (.one (.c9 1000000100 1 A))),(3,aU b),(4,aU a)] []
theorem ajI(h:af [.f A a true,.b (decide (a<4000)) true,.v (b*131),.x A a [D.v (Value.int IntKind.u8 c)],.a (.gX (aU d)),.v c,.v (b*131+c),.v (b*131+c+7),.p (gF prog BinOp.and 3 (Operand.tmp 26) (Operand.const (Value.int IntKind.i64 1073741823)) (Value.int IntKind.i64 (b*131+c+7)) (Value.int IntKind.i64 1073741823) (Value.int IntKind.i64 d)),.u a]):
 aX (aq f32 0) (wD A a b) .normal (wD A (a+1) d):=
 h.aV [4,0,3] []
def Cb(A:ae)(a:Int):aD:=bd 32 [(0,.az (.one (.c9 1000000100 1 A))),(3,aU a)] []
theorem ajJ(h:af [.f A a true,.b (decide (a<4000)) false]):
 aX (aq f32 0) (wD A a b) (.exit 0) (Cb A b):=
 h.aV [0,3] []
theorem ajK(h:af [.f A a false]):
 aX (aq f32 0) (wD A a b) (.exit 0) (Cb A b):=
 h.aV [0,3] []
theorem ajL(h:af [.v (94701+(A.length:Int)),.l [] [4,0,3] [] (aq f32 0) (wD A 0 (94701+(A.length:Int))) (.exit 0) (Cb A a)]):
 b5 32 [aJ.ro (aY 1 A)] (aS.gW [some 0,none,none] [D.J 1 A,I 0,I a]):=
 h.b6
def Tx(a b c d e:Int)(l:List O):List O:=.a .wr::.a .wr::.a (.gX (aU a))::.a (.gX (aU b))::.a (.gX (aU c))::.a (.gX (aU d))::.p (gF prog BinOp.shr 3 (Operand.tmp 16) (Operand.const (Value.int IntKind.u64 33)) (Value.int IntKind.i64 (IntKind.i64.wrap (IntKind.i64.wrap (e*6364136223846793005)+1442695040888963407))) (Value.int IntKind.u64 33) (Value.int IntKind.i64 a))::.p (gF prog BinOp.shr 3 (Operand.tmp 21) (Operand.const (Value.int IntKind.u64 45)) (Value.int IntKind.i64 (IntKind.i64.wrap (IntKind.i64.wrap (e*6364136223846793005)+1442695040888963407))) (Value.int IntKind.u64 45) (Value.int IntKind.i64 b))::.p (gF prog BinOp.xor 3 (Operand.tmp 17) (Operand.tmp 22) (Value.int IntKind.i64 a) (Value.int IntKind.i64 b) (Value.int IntKind.i64 c))::.p (gF prog BinOp.and 3 (Operand.tmp 23) (Operand.const (Value.int IntKind.i64 255)) (Value.int IntKind.i64 c) (Value.int IntKind.i64 255) (Value.int IntKind.i64 d))::l
theorem ajc(h:af (Tx c d e f b [.i A a [D.v (Value.int IntKind.u8 i)],.a .wr,.a .wr,.a (.gX (aU g)),.p (gF prog BinOp.and 3 (Operand.tmp 47) (Operand.const (Value.int IntKind.i64 255)) (Value.int IntKind.i64 (IntKind.i64.wrap (f+IntKind.i64.wrap i))) (Value.int IntKind.i64 255) (Value.int IntKind.i64 g)),.u a])):
 b5 74 [aJ.cur [D.J 1 A,I a,I b] [D.J 1 A,I (a+1),I (IntKind.i64.wrap (IntKind.i64.wrap (b*6364136223846793005)+1442695040888963407))]] (aS.vals [ag g]):=
 h.b6
theorem ajd(h:af (Tx c d e f a [.f A b false])):
 b5 74 [aJ.cur [D.J 1 A,I b,I a] [D.J 1 A,I b,I (IntKind.i64.wrap (IntKind.i64.wrap (a*6364136223846793005)+1442695040888963407))]] (aS.vals [ag f]):=
 h.b6
theorem aje(h:af [.b (decide (a<=0)) false,.b (decide (a<=256)) true,.a (.cY [some [D.J 1 A,I b,I c]] (aS.vals [ag d])),.p (bP prog 74 [aJ.cur [D.J 1 A,I e,I f] [D.J 1 A,I b,I c]] (aS.vals [ag d])),.p (a≠0)]):
 b5 36 [aJ.cur [D.J 1 A,I e,I f] [D.J 1 A,I b,I c],aJ.ro (ag a)] (aS.vals [ag (d.tmod a)]):=
 h.b6
theorem ajf(h:af [.b (decide (d<=0)) false,.b (decide (d<=256)) false,.a (.cY [some [D.J 1 A,I l,I m]] (aS.vals [ag b])),.a (.cY [some [D.J 1 A,I n,I f]] (aS.vals [ag a])),.a (.cY [some [D.J 1 A,I g,I i]] (aS.vals [ag c])),.a (.cY [some [D.J 1 A,I j,I k]] (aS.vals [ag e])),.p (bP prog 74 [aJ.cur [D.J 1 A,I o,I p] [D.J 1 A,I l,I m]] (aS.vals [ag b])),.p (bP prog 74 [aJ.cur [D.J 1 A,I l,I m] [D.J 1 A,I n,I f]] (aS.vals [ag a])),.p (bP prog 74 [aJ.cur [D.J 1 A,I n,I f] [D.J 1 A,I g,I i]] (aS.vals [ag c])),.p (bP prog 74 [aJ.cur [D.J 1 A,I g,I i] [D.J 1 A,I j,I k]] (aS.vals [ag e])),.v (b*16777216),.v (a*65536),.v (b*16777216+a*65536),.v (c*256),.v (b*16777216+a*65536+c*256),.v (b*16777216+a*65536+c*256+e),.p (d≠0)]):
 b5 36 [aJ.cur [D.J 1 A,I o,I p] [D.J 1 A,I j,I k],aJ.ro (ag d)] (aS.vals [ag ((b*16777216+a*65536+c*256+e).tmod d)]):=
 h.b6
theorem ajg(h:af [.w A a b c,.k A 36 d e a b f c]):
 b5 34 [aJ.cur [D.J 1 A,I d,I e] [D.J 1 A,I a,I b],aJ.ro (ag f)] (aS.vals [ar (c==0)]):=
 h.b6
theorem ajh(h:af [.w A a b c,.k A 36 d e a b (C.length:Int) c,.x C c [I f]]):
 b5 37 [aJ.cur [D.J 1 A,I d,I e] [D.J 1 A,I a,I b],aJ.ro (aY 1 C)] (aS.vals [ag f]):=
 h.b6
theorem aji(h:af [.w A b c d,.w A e f a,.k A 36 g i b c 4 d,.k A 36 b c e f 5 a]):
 b5 177 [aJ.cur [D.J 1 A,I g,I i] [D.J 1 A,I e,I f]] (aS.vals [.agg [I d,I a]]):=
 h.b6
def KW(A:ae)(a b c d e f g i j:Int)(l:List O):List O:=.a (.cY [some [D.J 1 A,I a,I b]] (aS.vals [.agg [I c,I d]]))::.w A e f g::.p (bP prog 177 [aJ.cur [D.J 1 A,I i,I j] [D.J 1 A,I a,I b]] (aS.vals [.agg [I c,I d]]))::.k A 36 a b e f 10 g::l
theorem ajj(h:af (KW A f g m i j a b k l [.b (b==0) true,.w A c d e,.p (bP prog 37 [aJ.cur [D.J 1 A,I j,I a] [D.J 1 A,I c,I d],aJ.ro (.one (.J 1 [[I (-1)],[I 3],[I 4],[I 9223372036854775807]]))] (aS.vals [ag e]))])):
 b5 176 [aJ.cur [D.J 1 A,I k,I l] [D.J 1 A,I c,I d]] (aS.vals [.agg [I e,I i]]):=
 h.b6
theorem ajk(h:af (KW A f g i m j b a k l [.b (a==0) false,.b (a==1) true,.w A c d e,.p (bP prog 37 [aJ.cur [D.J 1 A,I j,I b] [D.J 1 A,I c,I d],aJ.ro (.one (.J 1 [[I (-1)],[I 5],[I 6],[I 7],[I (-9223372036854775808)]]))] (aS.vals [ag e]))])):
 b5 176 [aJ.cur [D.J 1 A,I k,I l] [D.J 1 A,I c,I d]] (aS.vals [.agg [I i,I e]]):=
 h.b6
theorem ajl(h:af (KW A c d e f g b a i j [.b (a==0) false,.b (a==1) false])):
 b5 176 [aJ.cur [D.J 1 A,I i,I j] [D.J 1 A,I g,I b]] (aS.vals [.agg [I e,I f]]):=
 h.b6
theorem akM(h:af [.w A j k l,.a (.cY [some [D.J 1 A,I m,I n]] (aS.vals [.agg [I a,I b]])),.w A c d e,.w A f g i,.k A 36 o p j k 5 l,.p (bP prog 177 [aJ.cur [D.J 1 A,I j,I k] [D.J 1 A,I m,I n]] (aS.vals [.agg [I a,I b]])),.k A 36 m n c d 12 e,.k A 36 c d f g 40 i]):
 b5 122 [aJ.cur [D.J 1 A,I o,I p] [D.J 1 A,I f,I g]] (aS.vals [.agg (bw l a b e i)]):=
 h.b6
def zR(A:ae)(a b c d e f g i j k m n:Int)(l:List O):List O:=.a (.cY [some [D.J 1 A,I a,I b]] (aS.vals [.agg (bw c d e f g)]))::.w A i j k::.p (bP prog 122 [aJ.cur [D.J 1 A,I m,I n] [D.J 1 A,I a,I b]] (aS.vals [.agg (bw c d e f g)]))::.k A 36 a b i j 12 k::l
theorem akN(h:af (zR A i j p k l m a b c d n o [.b (d==0) true,.w A e f g,.p (bP prog 37 [aJ.cur [D.J 1 A,I b,I c] [D.J 1 A,I e,I f],aJ.ro (.one (.J 1 [[I (-1)],[I 7],[I 8]]))] (aS.vals [ag g]))])):
 b5 121 [aJ.cur [D.J 1 A,I n,I o] [D.J 1 A,I e,I f]] (aS.vals [.agg (bw g k l m a)]):=
 h.b6
theorem akO(h:af (zR A j k l p a0 m b c d a n o [.b (a==0) false,.b (a==1) true,.a (.cY [some [D.J 1 A,I e,I f]] (aS.vals [.agg [I g,I i]])),.p (bP prog 176 [aJ.cur [D.J 1 A,I c,I d] [D.J 1 A,I e,I f]] (aS.vals [.agg [I g,I i]]))])):
 b5 121 [aJ.cur [D.J 1 A,I n,I o] [D.J 1 A,I e,I f]] (aS.vals [.agg (bw l g i m b)]):=
 h.b6
theorem akP(h:af (zR A i j k l m p b c d a n o [.b (a==0) false,.b (a==1) false,.b (a==2) true,.w A e f g,.p (bP prog 37 [aJ.cur [D.J 1 A,I c,I d] [D.J 1 A,I e,I f],aJ.ro (.one (.J 1 [[I (-1)],[I 99],[I 100],[I (-9223372036854775808)]]))] (aS.vals [ag g]))])):
 b5 121 [aJ.cur [D.J 1 A,I n,I o] [D.J 1 A,I e,I f]] (aS.vals [.agg (bw k l m g b)]):=
 h.b6
theorem akQ(h:af (zR A g i j k l m o b c a n p [.b (a==0) false,.b (a==1) false,.b (a==2) false,.b (a==3) true,.w A d e f,.p (bP prog 37 [aJ.cur [D.J 1 A,I b,I c] [D.J 1 A,I d,I e],aJ.ro (.one (.J 1 [[I (-1)],[I 999],[I 1000],[I 9223372036854775807]]))] (aS.vals [ag f]))])):
 b5 121 [aJ.cur [D.J 1 A,I n,I p] [D.J 1 A,I d,I e]] (aS.vals [.agg (bw j k l m f)]):=
 h.b6
theorem akR(h:af (zR A e f g i j k b c d a l m [.b (a==0) false,.b (a==1) false,.b (a==2) false,.b (a==3) false])):
 b5 121 [aJ.cur [D.J 1 A,I l,I m] [D.J 1 A,I c,I d]] (aS.vals [.agg (bw g i j k b)]):=
 h.b6
def Ty(A:ae)(a b c d e f g i:Int)(q:Bool)(j k:Int)(l:List O):List O:=.w A a b c::.w A d e f::.y A g i q::.k A 36 j k a b 3 c::.v (1+c)::.k A 36 a b d e 3 f::.v (1+f)::.m A 34 d e g i 3 q::l
def zP(A:ae)(a b c d e f g i:Int)(q:Bool)(j k m n o p e3 hK bX d1 e1 f1 g1 i1:Int)(l:List O):List O:=Ty A a b c d e f g i q j k (.b q true::.w A m n o::.w A p e3 hK::.w A bX d1 e1::.w A f1 g1 i1::.k A 36 g i m n 3 o::.v (1+o)::.k A 36 m n p e3 4 hK::.k A 36 p e3 bX d1 3 e1::.v (1+e1)::.k A 36 bX d1 f1 g1 6 i1::l)
theorem akS{A:ae}{f0 g0 cj df e d0 bD c f g:Int}{q:Bool}{i j a k l b m n d o p a0:Int}{d31 d32 d33 d34:D}(h:af (zP A cj df e d0 bD c f g q f0 g0 i j a k l b m n d o p a0 [.b (a0==0) true,.p ((0:Int)<=3),.p (3<(↑[[I 1,I 0,I 0,D.J 1 [[I 1]]],[I 6,I 0,I 0,D.J 1 [[I 2],[I 5]]],[I 4,I (1+a),I 0,D.J 1 [[I 3]]],[I 2,I b,I 0,D.J 1 [[I 4]]],[I 7,I 0,I 0,D.J 1 [[I 1]]],[I 8,I 0,I 0,D.v (aL)]].length:Int)),.e [[I 1,I 0,I 0,D.J 1 [[I 1]]],[I 6,I 0,I 0,D.J 1 [[I 2],[I 5]]],[I 4,I (1+a),I 0,D.J 1 [[I 3]]],[I 2,I b,I 0,D.J 1 [[I 4]]],[I 7,I 0,I 0,D.J 1 [[I 1]]],[I 8,I 0,I 0,D.v (aL)]] 3 [d31,d32,d33,d34]])):
 b5 117 [aJ.cur [D.J 1 A,I f0,I g0] [D.J 1 A,I o,I p]] (aS.vals [.agg (bC ([[I 1,I 0,I 0,D.J 1 [[I 1]]],[I 6,I 0,I 0,D.J 1 [[I 2],[I 5]]],[I 4,I (1+a),I 0,D.J 1 [[I 3]]],[I 2,I b,I 0,D.J 1 [[I 4]]],[I 7,I 0,I 0,D.J 1 [[I 1]]],[I 8,I 0,I 0,D.v (aL)]].set 3 [I 3,I (1+d),I 0,D.J 1 [[I 4]]]) (1+e) (1+c))]):=
 h.b6
theorem akT{A:ae}{f0 g0 cj df e d0 bD c f g:Int}{q:Bool}{i j a k l b m n o p a0 d:Int}{d31 d32 d33 d34:D}(h:af (zP A cj df e d0 bD c f g q f0 g0 i j a k l b m n o p a0 d [.b (d==0) false,.b (d==1) true,.p ((0:Int)<=4),.p (4<(↑[[I 1,I 0,I 0,D.J 1 [[I 1]]],[I 6,I 0,I 0,D.J 1 [[I 2],[I 5]]],[I 4,I (1+a),I 0,D.J 1 [[I 3]]],[I 2,I b,I 0,D.J 1 [[I 4]]],[I 7,I 0,I 0,D.J 1 [[I 1]]],[I 8,I 0,I 0,D.v (aL)]].length:Int)),.e [[I 1,I 0,I 0,D.J 1 [[I 1]]],[I 6,I 0,I 0,D.J 1 [[I 2],[I 5]]],[I 4,I (1+a),I 0,D.J 1 [[I 3]]],[I 2,I b,I 0,D.J 1 [[I 4]]],[I 7,I 0,I 0,D.J 1 [[I 1]]],[I 8,I 0,I 0,D.v (aL)]] 4 [d31,d32,d33,d34]])):
 b5 117 [aJ.cur [D.J 1 A,I f0,I g0] [D.J 1 A,I p,I a0]] (aS.vals [.agg (bC ([[I 1,I 0,I 0,D.J 1 [[I 1]]],[I 6,I 0,I 0,D.J 1 [[I 2],[I 5]]],[I 4,I (1+a),I 0,D.J 1 [[I 3]]],[I 2,I b,I 0,D.J 1 [[I 4]]],[I 7,I 0,I 0,D.J 1 [[I 1]]],[I 8,I 0,I 0,D.v (aL)]].set 4 [I 8,I 0,I 0,D.v (aL)]) (1+e) (1+c))]):=
 h.b6
theorem akU{A:ae}{f0 g0 cj df e d0 bD d f g:Int}{q:Bool}{i j a k l b m n o p a0 c:Int}{d31 d32 d33 d34:D}(h:af (zP A cj df e d0 bD d f g q f0 g0 i j a k l b m n o p a0 c [.b (c==0) false,.b (c==1) false,.b (c==2) true,.p ((0:Int)<=2),.p (2<(↑[[I 1,I 0,I 0,D.J 1 [[I 1]]],[I 6,I 0,I 0,D.J 1 [[I 2],[I 5]]],[I 4,I (1+a),I 0,D.J 1 [[I 3]]],[I 2,I b,I 0,D.J 1 [[I 4]]],[I 7,I 0,I 0,D.J 1 [[I 1]]],[I 8,I 0,I 0,D.v (aL)]].length:Int)),.e [[I 1,I 0,I 0,D.J 1 [[I 1]]],[I 6,I 0,I 0,D.J 1 [[I 2],[I 5]]],[I 4,I (1+a),I 0,D.J 1 [[I 3]]],[I 2,I b,I 0,D.J 1 [[I 4]]],[I 7,I 0,I 0,D.J 1 [[I 1]]],[I 8,I 0,I 0,D.v (aL)]] 2 [d31,d32,d33,d34]])):
 b5 117 [aJ.cur [D.J 1 A,I f0,I g0] [D.J 1 A,I p,I a0]] (aS.vals [.agg (bC ([[I 1,I 0,I 0,D.J 1 [[I 1]]],[I 6,I 0,I 0,D.J 1 [[I 2],[I 5]]],[I 4,I (1+a),I 0,D.J 1 [[I 3]]],[I 2,I b,I 0,D.J 1 [[I 4]]],[I 7,I 0,I 0,D.J 1 [[I 1]]],[I 8,I 0,I 0,D.v (aL)]].set 2 [d31,d32,d33,D.J 1 [[I 3],[I 4]]]) (1+e) (1+d))]):=
 h.b6
theorem akV{A:ae}{f0 g0 cj df e d0 bD d f g:Int}{q:Bool}{i j a k l b m n o p a0 c:Int}{d31 d32 d33 d34:D}(h:af (zP A cj df e d0 bD d f g q f0 g0 i j a k l b m n o p a0 c [.b (c==0) false,.b (c==1) false,.b (c==2) false,.b (c==3) true,.a .wr,.p (([[I 1,I 0,I 0,D.J 1 [[I 1]]],[I 6,I 0,I 0,D.J 1 [[I 2],[I 5]]],[I 4,I (1+a),I 0,D.J 1 [[I 3]]],[I 2,I b,I 0,D.J 1 [[I 4]]],[I 7,I 0,I 0,D.J 1 [[I 1]]],[I 8,I 0,I 0,D.v (aL)]].length+[[I 8,I 0,I 0,D.v (aL)]].length)*48<=140737488355328),.p ([[I 1,I 0,I 0,D.J 1 [[I 1]]],[I 6,I 0,I 0,D.J 1 [[I 2],[I 5]]],[I 4,I (1+a),I 0,D.J 1 [[I 3]]],[I 2,I b,I 0,D.J 1 [[I 4]]],[I 7,I 0,I 0,D.J 1 [[I 1]]],[I 8,I 0,I 0,D.v (aL)]].length+[[I 8,I 0,I 0,D.v (aL)]].length<=9223372036854775807),.p ((0:Int)<=0),.p (0<(↑([[I 1,I 0,I 0,D.J 1 [[I 1]]],[I 6,I 0,I 0,D.J 1 [[I 2],[I 5]]],[I 4,I (1+a),I 0,D.J 1 [[I 3]]],[I 2,I b,I 0,D.J 1 [[I 4]]],[I 7,I 0,I 0,D.J 1 [[I 1]]],[I 8,I 0,I 0,D.v (aL)]]++[[I 8,I 0,I 0,D.v (aL)]]).length:Int)),.e ([[I 1,I 0,I 0,D.J 1 [[I 1]]],[I 6,I 0,I 0,D.J 1 [[I 2],[I 5]]],[I 4,I (1+a),I 0,D.J 1 [[I 3]]],[I 2,I b,I 0,D.J 1 [[I 4]]],[I 7,I 0,I 0,D.J 1 [[I 1]]],[I 8,I 0,I 0,D.v (aL)]]++[[I 8,I 0,I 0,D.v (aL)]]) 0 [d31,d32,d33,d34]])):
 b5 117 [aJ.cur [D.J 1 A,I f0,I g0] [D.J 1 A,I p,I a0]] (aS.vals [.agg (bC (([[I 1,I 0,I 0,D.J 1 [[I 1]]],[I 6,I 0,I 0,D.J 1 [[I 2],[I 5]]],[I 4,I (1+a),I 0,D.J 1 [[I 3]]],[I 2,I b,I 0,D.J 1 [[I 4]]],[I 7,I 0,I 0,D.J 1 [[I 1]]],[I 8,I 0,I 0,D.v (aL)]]++[[I 8,I 0,I 0,D.v (aL)]]).set 0 [d31,d32,d33,D.J 1 [[I 1],[I 6]]]) (1+e) (1+d))]):=
 h.b6
theorem akW(h:af (zP A cj df d d0 bD b e f q f0 g0 g i c j k l m n o p a0 a [.b (a==0) false,.b (a==1) false,.b (a==2) false,.b (a==3) false])):
 b5 117 [aJ.cur [D.J 1 A,I f0,I g0] [D.J 1 A,I p,I a0]] (aS.vals [.agg [D.J 4 [[I 1,I 0,I 0,D.J 1 [[I 1]]],[I 6,I 0,I 0,D.J 1 [[I 2],[I 5]]],[I 4,I (1+c),I 0,D.J 1 [[I 3]]],[I 2,I l,I 0,D.J 1 [[I 4]]],[I 7,I 0,I 0,D.J 1 [[I 1]]],[I 8,I 0,I 0,D.v (aL)]],I (1+d),I (1+b)]]):=
 h.b6
def zQ(A:ae)(a b c d e f g i:Int)(q:Bool)(j k m n o p e3 hK bX d1 e1 f1 g1 i1:Int)(l:List O):List O:=Ty A a b c d e f g i q j k (.b q false::.w A m n o::.w A p e3 hK::.w A bX d1 e1::.w A f1 g1 i1::.k A 36 g i m n 3 o::.v (1+o)::.k A 36 m n p e3 4 hK::.k A 36 p e3 bX d1 3 e1::.v (1+e1)::.k A 36 bX d1 f1 g1 6 i1::l)
theorem akX{A:ae}{f0 g0 cj df e d0 bD c f g:Int}{q:Bool}{i j a k l b m n d o p a0:Int}{d31 d32 d33 d34:D}(h:af (zQ A cj df e d0 bD c f g q f0 g0 i j a k l b m n d o p a0 [.b (a0==0) true,.p ((0:Int)<=3),.p (3<(↑[[I 1,I 0,I 0,D.J 1 [[I 1]]],[I 5,I 0,I 0,D.J 1 [[I 2],[I 5]]],[I 4,I (1+a),I 0,D.J 1 [[I 3]]],[I 2,I b,I 0,D.J 1 [[I 4]]],[I 7,I 0,I 0,D.J 1 [[I 1]]],[I 8,I 0,I 0,D.v (aL)]].length:Int)),.e [[I 1,I 0,I 0,D.J 1 [[I 1]]],[I 5,I 0,I 0,D.J 1 [[I 2],[I 5]]],[I 4,I (1+a),I 0,D.J 1 [[I 3]]],[I 2,I b,I 0,D.J 1 [[I 4]]],[I 7,I 0,I 0,D.J 1 [[I 1]]],[I 8,I 0,I 0,D.v (aL)]] 3 [d31,d32,d33,d34]])):
 b5 117 [aJ.cur [D.J 1 A,I f0,I g0] [D.J 1 A,I o,I p]] (aS.vals [.agg (bC ([[I 1,I 0,I 0,D.J 1 [[I 1]]],[I 5,I 0,I 0,D.J 1 [[I 2],[I 5]]],[I 4,I (1+a),I 0,D.J 1 [[I 3]]],[I 2,I b,I 0,D.J 1 [[I 4]]],[I 7,I 0,I 0,D.J 1 [[I 1]]],[I 8,I 0,I 0,D.v (aL)]].set 3 [I 3,I (1+d),I 0,D.J 1 [[I 4]]]) (1+e) (1+c))]):=
 h.b6
theorem akY{A:ae}{f0 g0 cj df e d0 bD c f g:Int}{q:Bool}{i j a k l b m n o p a0 d:Int}{d31 d32 d33 d34:D}(h:af (zQ A cj df e d0 bD c f g q f0 g0 i j a k l b m n o p a0 d [.b (d==0) false,.b (d==1) true,.p ((0:Int)<=4),.p (4<(↑[[I 1,I 0,I 0,D.J 1 [[I 1]]],[I 5,I 0,I 0,D.J 1 [[I 2],[I 5]]],[I 4,I (1+a),I 0,D.J 1 [[I 3]]],[I 2,I b,I 0,D.J 1 [[I 4]]],[I 7,I 0,I 0,D.J 1 [[I 1]]],[I 8,I 0,I 0,D.v (aL)]].length:Int)),.e [[I 1,I 0,I 0,D.J 1 [[I 1]]],[I 5,I 0,I 0,D.J 1 [[I 2],[I 5]]],[I 4,I (1+a),I 0,D.J 1 [[I 3]]],[I 2,I b,I 0,D.J 1 [[I 4]]],[I 7,I 0,I 0,D.J 1 [[I 1]]],[I 8,I 0,I 0,D.v (aL)]] 4 [d31,d32,d33,d34]])):
 b5 117 [aJ.cur [D.J 1 A,I f0,I g0] [D.J 1 A,I p,I a0]] (aS.vals [.agg (bC ([[I 1,I 0,I 0,D.J 1 [[I 1]]],[I 5,I 0,I 0,D.J 1 [[I 2],[I 5]]],[I 4,I (1+a),I 0,D.J 1 [[I 3]]],[I 2,I b,I 0,D.J 1 [[I 4]]],[I 7,I 0,I 0,D.J 1 [[I 1]]],[I 8,I 0,I 0,D.v (aL)]].set 4 [I 8,I 0,I 0,D.v (aL)]) (1+e) (1+c))]):=
 h.b6
theorem akZ{A:ae}{f0 g0 cj df e d0 bD d f g:Int}{q:Bool}{i j a k l b m n o p a0 c:Int}{d31 d32 d33 d34:D}(h:af (zQ A cj df e d0 bD d f g q f0 g0 i j a k l b m n o p a0 c [.b (c==0) false,.b (c==1) false,.b (c==2) true,.p ((0:Int)<=2),.p (2<(↑[[I 1,I 0,I 0,D.J 1 [[I 1]]],[I 5,I 0,I 0,D.J 1 [[I 2],[I 5]]],[I 4,I (1+a),I 0,D.J 1 [[I 3]]],[I 2,I b,I 0,D.J 1 [[I 4]]],[I 7,I 0,I 0,D.J 1 [[I 1]]],[I 8,I 0,I 0,D.v (aL)]].length:Int)),.e [[I 1,I 0,I 0,D.J 1 [[I 1]]],[I 5,I 0,I 0,D.J 1 [[I 2],[I 5]]],[I 4,I (1+a),I 0,D.J 1 [[I 3]]],[I 2,I b,I 0,D.J 1 [[I 4]]],[I 7,I 0,I 0,D.J 1 [[I 1]]],[I 8,I 0,I 0,D.v (aL)]] 2 [d31,d32,d33,d34]])):
 b5 117 [aJ.cur [D.J 1 A,I f0,I g0] [D.J 1 A,I p,I a0]] (aS.vals [.agg (bC ([[I 1,I 0,I 0,D.J 1 [[I 1]]],[I 5,I 0,I 0,D.J 1 [[I 2],[I 5]]],[I 4,I (1+a),I 0,D.J 1 [[I 3]]],[I 2,I b,I 0,D.J 1 [[I 4]]],[I 7,I 0,I 0,D.J 1 [[I 1]]],[I 8,I 0,I 0,D.v (aL)]].set 2 [d31,d32,d33,D.J 1 [[I 3],[I 4]]]) (1+e) (1+d))]):=
 h.b6
theorem ak0{A:ae}{f0 g0 cj df e d0 bD d f g:Int}{q:Bool}{i j a k l b m n o p a0 c:Int}{d31 d32 d33 d34:D}(h:af (zQ A cj df e d0 bD d f g q f0 g0 i j a k l b m n o p a0 c [.b (c==0) false,.b (c==1) false,.b (c==2) false,.b (c==3) true,.a .wr,.p (([[I 1,I 0,I 0,D.J 1 [[I 1]]],[I 5,I 0,I 0,D.J 1 [[I 2],[I 5]]],[I 4,I (1+a),I 0,D.J 1 [[I 3]]],[I 2,I b,I 0,D.J 1 [[I 4]]],[I 7,I 0,I 0,D.J 1 [[I 1]]],[I 8,I 0,I 0,D.v (aL)]].length+[[I 8,I 0,I 0,D.v (aL)]].length)*48<=140737488355328),.p ([[I 1,I 0,I 0,D.J 1 [[I 1]]],[I 5,I 0,I 0,D.J 1 [[I 2],[I 5]]],[I 4,I (1+a),I 0,D.J 1 [[I 3]]],[I 2,I b,I 0,D.J 1 [[I 4]]],[I 7,I 0,I 0,D.J 1 [[I 1]]],[I 8,I 0,I 0,D.v (aL)]].length+[[I 8,I 0,I 0,D.v (aL)]].length<=9223372036854775807),.p ((0:Int)<=0),.p (0<(↑([[I 1,I 0,I 0,D.J 1 [[I 1]]],[I 5,I 0,I 0,D.J 1 [[I 2],[I 5]]],[I 4,I (1+a),I 0,D.J 1 [[I 3]]],[I 2,I b,I 0,D.J 1 [[I 4]]],[I 7,I 0,I 0,D.J 1 [[I 1]]],[I 8,I 0,I 0,D.v (aL)]]++[[I 8,I 0,I 0,D.v (aL)]]).length:Int)),.e ([[I 1,I 0,I 0,D.J 1 [[I 1]]],[I 5,I 0,I 0,D.J 1 [[I 2],[I 5]]],[I 4,I (1+a),I 0,D.J 1 [[I 3]]],[I 2,I b,I 0,D.J 1 [[I 4]]],[I 7,I 0,I 0,D.J 1 [[I 1]]],[I 8,I 0,I 0,D.v (aL)]]++[[I 8,I 0,I 0,D.v (aL)]]) 0 [d31,d32,d33,d34]])):
 b5 117 [aJ.cur [D.J 1 A,I f0,I g0] [D.J 1 A,I p,I a0]] (aS.vals [.agg (bC (([[I 1,I 0,I 0,D.J 1 [[I 1]]],[I 5,I 0,I 0,D.J 1 [[I 2],[I 5]]],[I 4,I (1+a),I 0,D.J 1 [[I 3]]],[I 2,I b,I 0,D.J 1 [[I 4]]],[I 7,I 0,I 0,D.J 1 [[I 1]]],[I 8,I 0,I 0,D.v (aL)]]++[[I 8,I 0,I 0,D.v (aL)]]).set 0 [d31,d32,d33,D.J 1 [[I 1],[I 6]]]) (1+e) (1+d))]):=
 h.b6
theorem ak1(h:af (zQ A cj df d d0 bD b e f q f0 g0 g i c j k l m n o p a0 a [.b (a==0) false,.b (a==1) false,.b (a==2) false,.b (a==3) false])):
 b5 117 [aJ.cur [D.J 1 A,I f0,I g0] [D.J 1 A,I p,I a0]] (aS.vals [.agg [D.J 4 [[I 1,I 0,I 0,D.J 1 [[I 1]]],[I 5,I 0,I 0,D.J 1 [[I 2],[I 5]]],[I 4,I (1+c),I 0,D.J 1 [[I 3]]],[I 2,I l,I 0,D.J 1 [[I 4]]],[I 7,I 0,I 0,D.J 1 [[I 1]]],[I 8,I 0,I 0,D.v (aL)]],I (1+d),I (1+b)]]):=
 h.b6
def O4(C A:ae)(b c d e f a:Int):aD:=bd 75 [(0,aN 1000000000),(2,aN 2),(3,aN 3),(4,aU d),(5,aN 1000000000),(6,aE.az (bg.agg [al 70000 4 A,ak b,ak c])),(7,aN 1000000000),(8,aN 3),(9,aE.az (bg.one (al 70000 4 A))),(10,aU (A.length:Int)),(11,aU d),(12,aN 1000000000),(13,aU a),(14,.az (.one (.a1 (a==0)))),(15,.az (.one (.a1 (a==0))))] [(3,[al 70000 4 A,ak b,ak c]),(2,[.v (aL),ak 0,ak 0]),(1000000000,[.c9 1000000100 1 C,ak e,ak f])]
def Ih(E A:ae)(f g a e i j c d b:Int)(C:ae):aD:=bd 75 [(0,aN 1000000000),(2,aN 2),(3,aN 3),(4,aU a),(5,aN 1000000000),(6,aE.az (bg.agg [al 70000 4 (A.set a.toNat (bi c d b C)),ak f,ak g])),(7,aN 1000000000),(8,aN 3),(9,aE.az (bg.one (al 70000 4 (A.set a.toNat (bi c d b C))))),(10,aU (A.length:Int)),(11,aU a),(12,aN 1000000000),(13,aU e),(14,.az (.one (.a1 (e==0)))),(15,.az (.one (.a1 (e==0)))),(16,aN 3),(17,aE.az (bg.one (al 70000 4 (A.set a.toNat (bi c d b C))))),(18,aU a),(19,aN 1000000000),(20,aE.az (bg.agg [ak c,ak d,ak b,.cp])),(21,.az (.one (.cU (Tag.own 70000) 4 (A.set a.toNat (bi c d b C)) a.toNat 0)))] [(3,[al 70000 4 (A.set a.toNat (bi c d b C)),ak f,ak g]),(2,[.v (aL),ak 0,ak 0]),(1000000000,[.c9 1000000100 1 E,ak i,ak j])]
theorem ak2{A C:ae}{n o a g i m b c d e f:Int}{E:ae}{j k l:Int}{F:ae}
  (h:cv [bP prog 124 [aJ.cur [D.J 1 A,I g,I i] [D.J 1 A,I b,I c]] (aS.vals [.agg (bi d e f E)]),0<=a,a<(C.length:Int),C[a.toNat]?=some (bi j k l F)]):
  dm prog (ci f72 5) (O4 A C n o a g i m) (Ih A C n o a m b c d e f E):=
 .of [[],[],[],[],[.cY [some [D.J 1 A,I b,I c]] (aS.vals [.agg (bi d e f E)])],[],[.el (bi j k l F)]] [[],[],[],[],[bP prog 124 [aJ.cur [D.J 1 A,I g,I i] [D.J 1 A,I b,I c]] (aS.vals [.agg (bi d e f E)])],[0<=a,a<(C.length:Int)],[C[a.toNat]?=some (bi j k l F)]] (by kernel_rfl) (by kernel_rfl) (by kernel_rfl) h
def KX(A:ae)(a b:Int)(C:ae)(c d e f g i j k m n:Int)(l:List O):List O:=.a (.cY [some [D.J 1 A,I a,I b]] (aS.vals [.agg (bC C c d)]))::.w A e f g::.w A i j k::.p (bP prog 117 [aJ.cur [D.J 1 A,I m,I n] [D.J 1 A,I a,I b]] (aS.vals [.agg (bC C c d)]))::.k A 36 a b e f (C.length:Int) g::.k A 36 e f i j 12 k::l
theorem ak3(h:af (KX A o p C c d e f a g i b a0 cj [.b (b==0) true,.a (.fT (Ih A C c d a b j k l m n E)),.p (dm prog (ci f72 5) (O4 A C c d a g i b) (Ih A C c d a b j k l m n E))])):
 b5 72 [aJ.cur [D.J 1 A,I a0,I cj] [D.J 1 A,I j,I k]] (aS.vals [.agg (bC (C.set a.toNat (bi l m n E)) c d)]):=
 h.b6
theorem ak4(h:af (KX A j k C p l b c n d e a m o [.b (a==0) false,.b (a==1) true,.w A f g i,.p (bP prog 37 [aJ.cur [D.J 1 A,I d,I e] [D.J 1 A,I f,I g],aJ.ro (.one (.J 1 [[I 0],[I 4],[I 5],[I (-1)]]))] (aS.vals [ag i]))])):
 b5 72 [aJ.cur [D.J 1 A,I m,I o] [D.J 1 A,I f,I g]] (aS.vals [.agg (bC C i l)]):=
 h.b6
def zS(A:ae)(a b:Int)(C:ae)(c d e f g i j k m n:Int)(l:List O):List O:=KX A a b C c d e f g i j k m n (.b (k==0) false::.b (k==1) false::l)
theorem ak5(h:af (zS A j k C l p b c n d e a m o [.b (a==2) true,.w A f g i,.p (bP prog 37 [aJ.cur [D.J 1 A,I d,I e] [D.J 1 A,I f,I g],aJ.ro (.one (.J 1 [[I 0],[I 4],[I 5],[I (-1)]]))] (aS.vals [ag i]))])):
 b5 72 [aJ.cur [D.J 1 A,I m,I o] [D.J 1 A,I f,I g]] (aS.vals [.agg (bC C l i)]):=
 h.b6
def O5(C A:ae)(b c d e f a:Int):aD:=bd 75 [(0,aN 1000000000),(2,aN 2),(3,aN 3),(4,aU d),(5,aN 1000000000),(6,aE.az (bg.agg [al 70000 4 A,ak b,ak c])),(7,aN 1000000000),(8,aN 3),(9,aE.az (bg.one (al 70000 4 A))),(10,aU (A.length:Int)),(11,aU d),(12,aN 1000000000),(13,aU a),(14,.az (.one (.a1 (a==0)))),(15,.az (.one (.a1 (a==0)))),(22,.az (.one (.a1 (a==1)))),(23,.az (.one (.a1 (a==1)))),(28,.az (.one (.a1 (a==2)))),(29,.az (.one (.a1 (a==2)))),(34,.az (.one (.a1 (a==3)))),(35,.az (.one (.a1 (a==3))))] [(3,[al 70000 4 A,ak b,ak c]),(2,[.v (aL),ak 0,ak 0]),(1000000000,[.c9 1000000100 1 C,ak e,ak f])]
def HG(E A:ae)(g i a f:Int)(C:ae)(j k b c d e:Int):aD:=bd 75 [(0,aN 1000000000),(2,aN 2),(3,aN 3),(4,aU a),(5,aN 1000000000),(6,aE.az (bg.agg [.J (.own 70000) 4 (A.set a.toNat (bi c d e (C++[[I (b-1)]]))),ak g,ak i])),(7,aN 1000000000),(8,aN 3),(9,.az (.one (.J (.own 70000) 4 (A.set a.toNat (bi c d e (C++[[I (b-1)]])))))),(10,aU (A.length:Int)),(11,aU a),(12,aN 1000000000),(13,aU f),(14,.az (.one (.a1 (f==0)))),(15,.az (.one (.a1 (f==0)))),(22,.az (.one (.a1 (f==1)))),(23,.az (.one (.a1 (f==1)))),(28,.az (.one (.a1 (f==2)))),(29,.az (.one (.a1 (f==2)))),(34,.az (.one (.a1 (f==3)))),(35,.az (.one (.a1 (f==3)))),(36,aN 3),(37,.az (.one (.J (.own 70000) 4 (A.set a.toNat (bi c d e (C++[[I (b-1)]])))))),(38,aU a),(39,aN 3),(40,.az (.one (.J (.own 70000) 4 (A.set a.toNat (bi c d e (C++[[I (b-1)]])))))),(41,aU a),(42,.az (.one (.cU (Tag.own 70000) 4 (A.set a.toNat (bi c d e (C++[[I (b-1)]]))) a.toNat 0))),(43,.az (.one (.cU (Tag.own 70000) 4 (A.set a.toNat (bi c d e (C++[[I (b-1)]]))) a.toNat 3))),(45,aN 1000000000),(46,aU b),(47,aU (b-1)),(48,.az (.one (.J (.own 48) 1 [[I (b-1)]]))),(50,.az (.one (.cU (Tag.own 70000) 4 (A.set a.toNat (bi c d e (C++[[I (b-1)]]))) a.toNat 0))),(51,.az (.one (.cU (Tag.own 70000) 4 (A.set a.toNat (bi c d e (C++[[I (b-1)]]))) a.toNat 3)))] [(3,[.J (.own 70000) 4 (A.set a.toNat (bi c d e (C++[[I (b-1)]]))),ak g,ak i]),(2,[.v (aL),ak 0,ak 0]),(1000000000,[.c9 1000000100 1 E,ak j,ak k])]
theorem ak6{E C:ae}{o p a i j n k l m:Int}{A:ae}{c d b:Int}{d25 d26 d27:D}{e f g:Int}{F:ae}
  (h:cv [0<=a,a<(C.length:Int),C[a.toNat]?=some (bi k l m A),bP prog 36 [aJ.cur [D.J 1 E,I i,I j] [D.J 1 E,I c,I d],aJ.ro (ag 9)] (aS.vals [ag b]),aK .i64 (b-1),(A.length+[[I (b-1)]].length)*8<=140737488355328,A.length+[[I (b-1)]].length<=9223372036854775807,C[a.toNat]?=some [d25,d26,d27,D.J 1 A],[d25,d26,d27,D.J 1 A][3]?=some (D.J 1 A),a.toNat=a.toNat,Flat [[I (b-1)]],0<=a,a<(C.length:Int),C[a.toNat]?=some (bi e f g F),a.toNat=a.toNat]):
  dm prog (ci f72 11) (O5 E C o p a i j n) (HG E C o p a n A c d b e f g):=
 .of [[],[],[],[],[],[],[],[],[.sub,.el (bi k l m A)],[],[.cY [some [D.J 1 E,I c,I d],none] (aS.vals [ag b])],[],[],[.el [d25,d26,d27,D.J 1 A]],[],[],[.el (bi e f g F)]] [[],[],[],[],[],[],[0<=a,a<(C.length:Int)],[],[C[a.toNat]?=some (bi k l m A)],[],[bP prog 36 [aJ.cur [D.J 1 E,I i,I j] [D.J 1 E,I c,I d],aJ.ro (ag 9)] (aS.vals [ag b])],[aK .i64 (b-1)],[],[(A.length+[[I (b-1)]].length)*8<=140737488355328,A.length+[[I (b-1)]].length<=9223372036854775807,C[a.toNat]?=some [d25,d26,d27,D.J 1 A],[d25,d26,d27,D.J 1 A][3]?=some (D.J 1 A),a.toNat=a.toNat,Flat [[I (b-1)]]],[0<=a,a<(C.length:Int)],[],[C[a.toNat]?=some (bi e f g F),a.toNat=a.toNat]] (by kernel_rfl) (by kernel_rfl) (by kernel_rfl) h
theorem ak7(h:af (zS A p a0 C c d e f b g i a cj df [.b (a==2) false,.b (a==3) true,.a (.fT (HG A C c d b a E j k l m n o)),.p (dm prog (ci f72 11) (O5 A C c d b g i a) (HG A C c d b a E j k l m n o))])):
 b5 72 [aJ.cur [D.J 1 A,I cj,I df] [D.J 1 A,I j,I k]] (aS.vals [.agg [D.J 4 (C.set b.toNat (bi m n o (E++[[I (l-1)]]))),I c,I d]]):=
 h.b6
def yo(A C:ae)(a b c d e f:Int):aD:=bd 75 [(0,aN 1000000000),(2,aN 2),(3,aN 3)] [(3,[al 70000 4 C,ak a,ak b]),(2,[.v (aL),ak c,ak d]),(1000000000,[.c9 1000000100 1 A,ak e,ak f])]
def Cc(A C:ae)(a b c d e f:Int):aD:=bd 75 [(0,aN 1000000000),(2,aN 2),(3,aN 3)] [(3,[al 70000 4 C,ak a,ak b]),(2,[.v (aL),ak c,ak d]),(1000000000,[.c9 1000000100 1 A,ak e,ak f])]
def yp(P:Program)(W:Array Oper)(A C:ae)(a b c d e f g i j:Int):aD:=
 jC P W [[],[],[],[],[.cY [some [D.J 1 A,I g,I i],none] (aS.vals [ag j])],[],[]] (Cc A C a b c d e f)
theorem O6{A C:ae}{d e f g a b i j c:Int}
  (h:cv [bP prog 36 [aJ.cur [D.J 1 A,I a,I b] [D.J 1 A,I i,I j],aJ.ro (ag 2)] (aS.vals [ag c]),aK .i64 (8+c)]):
  dm prog (ci f72 13) (Cc A C d e f g a b) (yp prog (ci f72 13) A C d e f g a b i j c):=
 .jU [0,0,0,0,1,1,0] h
theorem ak8(h:af [.a (.fT (yp prog (ci f72 13) C A a b c d e f g i j)),.p (dm prog (ci f72 13) (Cc C A a b c d e f) (yp prog (ci f72 13) C A a b c d e f g i j)),.b (decide ((A.length:Int)<8+j)) true,.a .wr,.g A [[I 8,I 0,I 0,D.v (aL)]] 48]):
 aX (aq f72 0) (yo C A a b c d e f) .normal (yo C (A++[[I 8,I 0,I 0,D.v (aL)]]) a b c d g i):=
 h.aV [3,0,2] [3,2,1000000000]
def HH(A C:ae)(a b c d e f:Int):aD:=bd 75 [(0,aN 1000000000),(2,aN 2),(3,aN 3)] [(3,[al 70000 4 C,ak a,ak b]),(2,[.v (aL),ak c,ak d]),(1000000000,[.c9 1000000100 1 A,ak e,ak f])]
theorem ak9(h:af [.a (.fT (yp prog (ci f72 13) C A a b c d e f g i j)),.p (dm prog (ci f72 13) (Cc C A a b c d e f) (yp prog (ci f72 13) C A a b c d e f g i j)),.b (decide ((A.length:Int)<8+j)) false]):
 aX (aq f72 0) (yo C A a b c d e f) (.exit 1) (HH C A a b c d g i):=
 h.aV [3,2,0] [3,2,1000000000]
theorem ala(h:af (zS A f g C i j b c l d e a k o [.b (a==2) false,.b (a==3) false,.b (a==4) true,.l [] [3,0,2] [3,2,1000000000] (aq f72 0) (yo A C i j 0 0 d e) (.exit 1) (HH A E m n cj df p a0)])):
 b5 72 [aJ.cur [D.J 1 A,I k,I o] [D.J 1 A,I p,I a0]] (aS.vals [.agg (bC E m n)]):=
 h.b6
theorem alb(h:af (zS A g i C j k c d b e f a l m [.b (a==2) false,.b (a==3) false,.b (a==4) false,.b (a==5) true,.a .own,.p ((0:Int)<=none.getD 0),.p (none.getD 0<=(some b).getD (C.length:Int)),.p ((some b).getD (C.length:Int)<=(C.length:Int))])):
 b5 72 [aJ.cur [D.J 1 A,I l,I m] [D.J 1 A,I e,I f]] (aS.vals [.agg [D.J 4 (List.take (((some b).getD (C.length:Int)).toNat-0) (List.drop 0 C)),I j,I k]]):=
 h.b6
theorem akm(h:af (zS A f g C i j b c l d e a k m [.b (a==2) false,.b (a==3) false,.b (a==4) false,.b (a==5) false])):
 b5 72 [aJ.cur [D.J 1 A,I k,I m] [D.J 1 A,I d,I e]] (aS.vals [.agg (bC C i j)]):=
 h.b6
def yq(A:ae)(a b:Int)(C:ae)(c d:Int):aD:=bd 29 [(0,aN 1000000000),(3,aE.az (bg.one (al 6 5 C))),(4,aU b),(5,aU a)] [(1000000000,[.c9 1000000100 1 A,ak c,ak d])]
theorem akn(h:af [.w A p f g,.k A 36 a0 cj p f 6 g,.b (decide (e<g)) true,.w A i j d,.k A 36 p f i j 2 d,.v (o+d),.r 68 [ag (o+d),ag 0,ag 2] [ag a],.w A k l b,.w A m n c,.k A 36 i j k l 12 b,.k A 36 k l m n 40 c,.g C [(bw 0 a 0 b c)] 40,.h [(bw 0 a 0 b c)],.u e]):
 aX (aq f118 0) (yq A e o C a0 cj) .normal (yq A (e+1) a (C++[(bw 0 a 0 b c)]) m n):=
 h.aV [5,0,4,3] [1000000000]
def HI(A C:ae)(a b:Int):aD:=bd 29 [(0,aN 1000000000),(3,aE.az (bg.one (al 6 5 C)))] [(1000000000,[.c9 1000000100 1 A,ak a,ak b])]
theorem ako(h:af [.w A c a b,.k A 36 e f c a 6 b,.b (decide (d<b)) false]):
 aX (aq f118 0) (yq A d g C e f) (.exit 0) (HI A C c a):=
 h.aV [3,0] [1000000000]
theorem akp(h:af [.l [] [5,0,4,3] [1000000000] (aq f118 0) (yq A 0 0 [] a b) (.exit 0) (HI A C c d)]):
 b5 118 [aJ.cur [D.J 1 A,I a,I b] [D.J 1 A,I c,I d]] (aS.vals [aY 5 C]):=
 h.b6
def HJ(A:ae)(a c d b:Int):aD:=bd 27 [(0,aN 1000000000),(2,aN 2),(3,aN 3),(4,aN 1000000000),(5,.az (.one (.J (.own 5) 1 [[I 1],[I 1],[I 1],[I 2],[I 3],[I 3],[I 3],[I 4],[I 4],[I 5],[I 6],[I 6],[I 7]]))),(6,aU a),(7,aN 1000000000),(8,aU b),(9,aE.az (bg.agg [ak a,ak b,ak 0])),(10,aN 3),(11,aU a),(12,.az (.one (.a1 (a==4)))),(13,.az (.one (.v (Value.bool true)))),(14,.az (.one (.v (Value.tuple #[])))),(15,.az (.one (.v (Value.tuple #[])))),(16,.az (.one (.v (Value.tuple #[])))),(17,.az (.one (.v (Value.bool true))))] [(3,[ak a,ak b,ak 0]),(2,[ak 0,ak 0,ak 0]),(1000000000,[.c9 1000000100 1 A,ak c,ak d])]
def HK(P:Program)(W:Array Oper)(A:ae)(e f g a b c d:Int):aD:=
 jC P W [[],[],[],[],[.cY [some [D.J 1 A,I b,I c],none] (aS.vals [ag d])],[],[],[],[]] (HJ A e f g a)
theorem akq{A:ae}{g c d a e f b:Int}
  (h:cv [aK .i64 (a+1),bP prog 36 [aJ.cur [D.J 1 A,I c,I d] [D.J 1 A,I e,I f],aJ.ro (ag 2)] (aS.vals [ag b]),aK .i64 (a+1+b),(3:Int)≠0]):
  dm prog (ci f95 3) (HJ A g c d a) (HK prog (ci f95 3) A g c d a e f b):=
 .jU [0,0,1,0,1,1,1,0,0] h
def KV(A:ae)(a b c d e f g i:Int)(l:List O):List O:=.w A a b c::.w A d e f::.p (bP prog 37 [aJ.cur [D.J 1 A,I g,I i] [D.J 1 A,I a,I b],aJ.ro (.one (.J 1 [[I 1],[I 1],[I 1],[I 2],[I 3],[I 3],[I 3],[I 4],[I 4],[I 5],[I 6],[I 6],[I 7]]))] (aS.vals [ag c]))::.k A 36 a b d e 3 f::l
theorem akr(h:af (KV A i j b c d a k l [.b (b==4) true,.a (.fT (HK prog (ci f95 3) A b c d a e f g)),.p (dm prog (ci f95 3) (HJ A b c d a) (HK prog (ci f95 3) A b c d a e f g))])):
 b5 95 [aJ.cur [D.J 1 A,I k,I l] [D.J 1 A,I e,I f]] (aS.vals [.agg [I b,I a,I ((a+1+g).tmod 3)]]):=
 h.b6
def HL(A:ae)(a c d b:Int):aD:=bd 27 [(0,aN 1000000000),(2,aN 2),(3,aN 3),(4,aN 1000000000),(5,.az (.one (.J (.own 5) 1 [[I 1],[I 1],[I 1],[I 2],[I 3],[I 3],[I 3],[I 4],[I 4],[I 5],[I 6],[I 6],[I 7]]))),(6,aU a),(7,aN 1000000000),(8,aU b),(9,aE.az (bg.agg [ak a,ak b,ak 0])),(10,aN 3),(11,aU a),(12,.az (.one (.a1 (a==4)))),(13,.az (.one (.v (Value.bool false)))),(14,aN 3),(15,aU a),(16,.az (.one (.a1 (a==5)))),(17,.az (.one (.a1 (a==5))))] [(3,[ak a,ak b,ak 0]),(2,[ak 0,ak 0,ak 0]),(1000000000,[.c9 1000000100 1 A,ak c,ak d])]
def HM(P:Program)(W:Array Oper)(A:ae)(e f g a b c d:Int):aD:=
 jC P W [[],[],[],[],[.cY [some [D.J 1 A,I b,I c],none] (aS.vals [ag d])],[],[],[],[]] (HL A e f g a)
theorem aks{A:ae}{g c d a e f b:Int}
  (h:cv [aK .i64 (a+1),bP prog 36 [aJ.cur [D.J 1 A,I c,I d] [D.J 1 A,I e,I f],aJ.ro (ag 2)] (aS.vals [ag b]),aK .i64 (a+1+b),(3:Int)≠0]):
  dm prog (ci f95 3) (HL A g c d a) (HM prog (ci f95 3) A g c d a e f b):=
 .jU [0,0,1,0,1,1,1,0,0] h
theorem akt(h:af (KV A i j a c d b k l [.b (a==4) false,.b (a==5) true,.a (.fT (HM prog (ci f95 3) A a c d b e f g)),.p (dm prog (ci f95 3) (HL A a c d b) (HM prog (ci f95 3) A a c d b e f g))])):
 b5 95 [aJ.cur [D.J 1 A,I k,I l] [D.J 1 A,I e,I f]] (aS.vals [.agg [I a,I b,I ((b+1+g).tmod 3)]]):=
 h.b6
theorem aku(h:af (KV A c d a e f b g i [.b (a==4) false,.b (a==5) false])):
 b5 95 [aJ.cur [D.J 1 A,I g,I i] [D.J 1 A,I e,I f]] (aS.vals [.agg [I a,I b,I 0]]):=
 h.b6
def yr(A:ae)(a b:Int)(C:ae)(c d:Int):aD:=bd 22 [(0,aN 1000000000),(1,aU a),(5,aE.az (bg.one (al 7 3 C))),(6,aU b)] [(1000000000,[.c9 1000000100 1 A,ak c,ak d])]
theorem akv(h:af [.w A k f g,.u d,.k A 36 l m k f (d+1) g,.b (decide (e<g)) true,.a (.cY [some [D.J 1 A,I i,I j]] (aS.vals [.agg [I a,I b,I c]])),.p (bP prog 95 [aJ.cur [D.J 1 A,I k,I f] [D.J 1 A,I i,I j]] (aS.vals [.agg [I a,I b,I c]])),.g C [[I a,I b,I c]] 24,.h [[I a,I b,I c]],.u e]):
 aX (aq f66 0) (yr A d e C l m) .normal (yr A d (e+1) (C++[[I a,I b,I c]]) i j):=
 h.aV [6,0,1,5] [1000000000]
def HN(A C:ae)(a b:Int):aD:=bd 22 [(0,aN 1000000000),(5,aE.az (bg.one (al 7 3 C)))] [(1000000000,[.c9 1000000100 1 A,ak a,ak b])]
theorem akw(h:af [.w A d a b,.u c,.k A 36 f g d a (c+1) b,.b (decide (e<b)) false]):
 aX (aq f66 0) (yr A c e C f g) (.exit 0) (HN A C d a):=
 h.aV [5,0] [1000000000]
theorem akx(h:af [.l [] [6,0,1,5] [1000000000] (aq f66 0) (yr A c 0 [] a b) (.exit 0) (HN A C d e)]):
 b5 66 [aJ.cur [D.J 1 A,I a,I b] [D.J 1 A,I d,I e],aJ.ro (ag c)] (aS.vals [aY 3 C]):=
 h.b6
end Go.Proofs.YthfnndblgbjniaaGreatDoor
namespace Go.Proofs.YthfnndblgbjniaaGreatDoor
open Go.Sx Go.RowKit Go.Proofs.Tryz
variable {a b c d e f g i j k l m n o p a0 cj df d0 bD f0 g0 : Int} {A C E F G H ah K L M N Q R S bu V X Y Z ew : ae} {q r : Bool}
theorem aky(h:af [.r 138 [.agg (bC A a b)] [ar q],.n q true]):
 ax 116 [.agg (bC A a b),aY 5 C] [.agg (bI [] 0 0 [] [] [] []),ar false]:=
 h.of
theorem akz(h:af [.r 138 [.agg (bC A a b)] [ar q],.n q false,.b (decide ((C.length:Int)>20)) true]):
 ax 116 [.agg (bC A a b),aY 5 C] [.agg (bI [] 0 0 [] [] [] []),ar false]:=
 h.of
def o0(A:ae)(a b c:Int)(C:ae)(d e:Int):aD:=bd 84 [(1,cQ 5 A),(2,aN 2),(4,aN 4),(6,aU a)] [(4,[.v (aL),ak b,ak c,.v (aL),.v (aL),.v (aL),.v (aL)]),(2,[.J .free 4 C,ak d,ak e])]
def wE(q:Bool)(a b:Int):aD:=bd 84 [(4,aN 4),(5,.az (.one (.a1 q)))] [(4,[.v (aL),ak a,ak b,.v (aL),.v (aL),.v (aL),.v (aL)])]
def DH(A:ae)(a b c d e f:Int)(q:Bool)(l:List O):List O:=.i A a (bw b c d e f)::.r 167 [.agg (bw b c d e f)] [ar q]::l
theorem akA(h:af (DH A f a b c d e q [.n q true])):
 aX (aq f116 0) (o0 A f i j C k g) .ret (wE false 0 0):=
 h.aV [4,5] [4]
theorem akB(h:af (DH A a b c d e f q [.n q false,.x A a (bw g j k l m),.b (g != 0) true])):
 aX (aq f116 0) (o0 A a n o C p i) .ret (wE false 0 0):=
 h.aV [4,5] [4]
theorem akC(h:af (DH A a b c d e f q [.n q false,.x A a (bw g k l m n),.b (g != 0) false,.x A a (bw o p i a0 cj),.b (i != 0) true])):
 aX (aq f116 0) (o0 A a df d0 C bD j) .ret (wE false 0 0):=
 h.aV [4,5] [4]
theorem akD(h:af (DH A a c d e f g q [.n q false,.x A a (bw i n o p a0),.b (i != 0) false,.x A a (bw cj df j d0 bD),.b (j != 0) false,.u a])):
 aX (aq f116 0) (o0 A a k l C m b) .normal (o0 A (a+1) k l C m b):=
 h.aV [6,1,4,2] [4,2]
def HO(A:ae)(a b:Int)(C:ae)(c d:Int):aD:=bd 84 [(1,cQ 5 A),(2,aN 2),(4,aN 4)] [(4,[.v (aL),ak a,ak b,.v (aL),.v (aL),.v (aL),.v (aL)]),(2,[.J .free 4 C,ak c,ak d])]
theorem akE(h:af [.f A b false]):
 aX (aq f116 0) (o0 A b c d C e a) (.exit 0) (HO A c d C e a):=
 h.aV [2,1,4] [4,2]
theorem akF(h:af [.r 138 [.agg (bC A a b)] [ar q],.n q false,.b (decide ((C.length:Int)>20)) false,.l [] [6,1,4,2] [4,2] (aq f116 0) (o0 C 0 0 0 A a b) .ret (wE r c d)]):
 ax 116 [.agg (bC A a b),aY 5 C] [.agg (bI [] c d [] [] [] []),ar r]:=
 h.of
def wF(A:ae)(a:Int)(E:ae)(d e:Int)(F G H:ae)(f g:Int)(C:ae)(b c:Int):aD:=bd 84 [(1,cQ 5 A),(2,aN 2),(4,aN 4),(7,aN 7),(8,aU a)] [(7,[al 510000 4 E,ak d,ak e,al 67 8 F,al 81 6 G,al 51 5 H,.v (aL)]),(4,[.v (aL),ak f,ak g,.v (aL),.v (aL),.v (aL),.v (aL)]),(2,[.J .free 4 C,ak b,ak c])]
def yt(A:ae)(a e:Int)(E:ae)(f g:Int)(F G H:ae)(i b:Int)(C:ae)(c d:Int):aD:=bd 84 [(1,cQ 5 A),(2,aN 2),(4,aN 4),(7,aN 7),(8,aU a),(9,aU e)] [(7,[al 510000 4 E,ak f,ak g,al 67 8 F,al 81 6 G,al 51 5 H,.v (aL)]),(4,[.v (aL),ak i,ak b,.v (aL),.v (aL),.v (aL),.v (aL)]),(2,[.J .free 4 C,ak c,ak d])]
theorem akG(h:af [.b (decide (a<b)) true,.r 170 [ag c] [.agg (ck d C e f g i)],.a .wr,.g A [(ck d C e f g i)] 64,.u a]):
 aX (aq f116 2) (yt E j a F k l G A H m n ah b c) .normal (yt E j (a+1) F k l G (A++[(ck d C e f g i)]) H m n ah b c):=
 h.aV [9,2,7,8,1,4] [7,4,2]
def O7(A:ae)(a:Int)(E:ae)(d e:Int)(F G H:ae)(f g:Int)(C:ae)(b c:Int):aD:=bd 84 [(1,cQ 5 A),(2,aN 2),(4,aN 4),(7,aN 7),(8,aU a)] [(7,[al 510000 4 E,ak d,ak e,al 67 8 F,al 81 6 G,al 51 5 H,.v (aL)]),(4,[.v (aL),ak f,ak g,.v (aL),.v (aL),.v (aL),.v (aL)]),(2,[.J .free 4 C,ak b,ak c])]
theorem akH(h:af [.b (decide (c<a)) false]):
 aX (aq f116 2) (yt A b c C d e E F G f g H a i) (.exit 4) (O7 A b C d e E F G f g H a i):=
 h.aV [8,2,7,1,4] [7,4,2]
theorem akI(h:af [.b (decide (a<b)) true,.r 169 [.agg (bC E b c),aY 5 A,ag a] [aY 5 bu],.r 168 [aY 5 bu] [.agg (bf F G H ah K L M N)],.a .wr,.g C [(bf F G H ah K L M N)] 192,.l [] [9,2,7,8,1,4] [7,4,2] (aq f116 2) (yt A a 0 Q d e (C++[(bf F G H ah K L M N)]) R S f g E b c) (.exit 4) (O7 A a V i j X Y Z k l ew m n),.u a]):
 aX (aq f116 1) (wF A a Q d e C R S f g E b c) .normal (wF A (a+1) V i j X Y Z k l ew m n):=
 h.aV [8,2,7,1,4] [7,4,2]
def HP(A:ae)(a b:Int)(C E F:ae)(c d:Int):aD:=bd 84 [(4,aN 4),(7,aN 7)] [(7,[al 510000 4 A,ak a,ak b,al 67 8 C,al 81 6 E,al 51 5 F,.v (aL)]),(4,[.v (aL),ak c,ak d,.v (aL),.v (aL),.v (aL),.v (aL)])]
theorem akJ(h:af [.b (decide (a<f)) false]):
 aX (aq f116 1) (wF H a A b c C E F d e G f g) (.exit 2) (HP A b c C E F d e):=
 h.aV [7,4] [7,4]
theorem akK(h:af [.r 138 [.agg (bC C a b)] [ar q],.n q false,.b (decide ((A.length:Int)>20)) false,.l [] [6,1,4,2] [4,2] (aq f116 0) (o0 A 0 0 0 C a b) (.exit 0) (HO A j k E c d),.r 135 [.agg (bC E c d)] [.agg (bC F e f)],.p ((0:Int)<=4),.p ((4:Int)<=4),.p (((↑32:Int)*4:Int)<=281474976710656),.p ((4:Int)<=9223372036854775807),.l [(8000003,67,8),(8000004,81,6)] [8,2,7,1,4] [7,4,2] (aq f116 1) (wF A 0 F e f [] [] (List.replicate 4 [B false,I 0,I 0,B false,B false]) j k E c d) (.exit 2) (HP G g i H ah K l m)]):
 ax 116 [.agg (bC C a b),aY 5 A] [.agg (bI G g i H ah K []),ar true]:=
 h.of
def yu(A:ae)(a b:Int)(C:ae)(c d:Int)(E:ae):aD:=bd 49 [(1,cQ 5 C),(2,aU c),(3,aN 3),(7,aE.az (bg.one (al 10 5 E))),(8,aU d)] [(3,[.J .free 4 A,ak a,ak b])]
def rn(A:ae)(a b:Int)(C:ae)(c d e:Int)(E:ae):aD:=bd 49 [(1,cQ 5 C),(2,aU c),(3,aN 3),(7,aE.az (bg.one (al 10 5 E))),(8,aU d),(9,aU e)] [(3,[.J .free 4 A,ak a,ak b])]
theorem akL(h:af [.i A a (bw f0 k o p a0),.b (k==j) true,.x A a (bw cj df d0 l bD),.r 158 [ag l,ag g] [ag m],.b (m==i) true,.x A a (bw b c d e f),.g C [(bw b c d e f)] 40,.h [(bw b c d e f)],.u a]):
 aX (aq f169 1) (rn E g n A i j a C) .normal (rn E g n A i j (a+1) (C++[(bw b c d e f)])):=
 h.aV [9,1,8,3,2,7] [3]
theorem akc(h:af [.i A a (bw a0 e j k l),.b (e==d) true,.x A a (bw m n o f p),.r 158 [ag f,ag b] [ag g],.b (g==c) false,.u a]):
 aX (aq f169 1) (rn C b i A c d a E) .normal (rn C b i A c d (a+1) E):=
 h.aV [9,1,8,3,2,7] [3]
theorem akd(h:af [.i A a (bw k d g i j),.b (d==b) false,.u a]):
 aX (aq f169 1) (rn C c e A f b a E) .normal (rn C c e A f b (a+1) E):=
 h.aV [9,1,8,3,2,7] [3]
def O8(A:ae)(a b:Int)(C:ae)(c d:Int)(E:ae):aD:=bd 49 [(1,cQ 5 C),(2,aU c),(3,aN 3),(7,aE.az (bg.one (al 10 5 E))),(8,aU d)] [(3,[.J .free 4 A,ak a,ak b])]
theorem ake(h:af [.f A e false]):
 aX (aq f169 1) (rn C a b A c d e E) (.exit 2) (O8 C a b A c d E):=
 h.aV [8,1,3,2,7] [3]
theorem akf(h:af [.b (decide (a<=3)) true,.l [] [9,1,8,3,2,7] [3] (aq f169 1) (rn A b c C d a 0 E) (.exit 2) (O8 A b c C d a F),.u a]):
 aX (aq f169 0) (yu A b c C d a E) .normal (yu A b c C d (a+1) F):=
 h.aV [8,1,3,2,7] [3]
def O9(A:ae):aD:=bd 49 [(7,aE.az (bg.one (al 10 5 A)))] []
theorem akg(h:af [.b (decide (a<=3)) false]):
 aX (aq f169 0) (yu C b c E d a A) (.exit 0) (O9 A):=
 h.aV [7] []
theorem akh(h:af [.l [] [8,1,3,2,7] [3] (aq f169 0) (yu A a b C c 0 []) (.exit 0) (O9 E)]):
 ax 169 [.agg (bC A a b),aY 5 C,ag c] [aY 5 E]:=
 h.of
theorem aki(h:af [.r 68 [ag b,ag 1,ag 4] [ag a]]):
 ax 170 [ag b] [.agg (ck a [] a 0 0 0)]:=
 h.of
theorem akj(h:af [.g ([]:ae) A 40,.h A,.p ((0:Int)<=4),.p ((4:Int)<=4),.p (((↑8:Int)*4:Int)<=281474976710656),.p ((4:Int)<=9223372036854775807),.p ((0:Int)<=4),.p ((4:Int)<=4),.p (((↑1:Int)*4:Int)<=281474976710656),.p ((4:Int)<=9223372036854775807),.p ((0:Int)<=4),.p ((4:Int)<=4),.p (((↑1:Int)*4:Int)<=281474976710656),.p ((4:Int)<=9223372036854775807)]):
 ax 168 [aY 5 A] [.agg (bf [] [] ([]++A) [] (List.replicate 4 [I 0]) (List.replicate 4 [B false]) (List.replicate 4 [B false]) [])]:=
 h.of
