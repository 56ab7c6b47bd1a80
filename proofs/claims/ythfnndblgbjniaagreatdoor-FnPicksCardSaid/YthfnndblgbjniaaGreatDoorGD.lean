import Derived.Test.YthfnndblgbjniaaGreatDoorGE
namespace Go.Proofs.YthfnndblgbjniaaGreatDoor
open Go.Sx Go.RowKit Go.Proofs.Tryz
variable {a b c d e f g i j k l m n o p a0 b6 cS d0 bz f0 i0 : Int} {A C E F G H ah K L M N Q R S a1 V X Y Z c9 : af} {q r : Bool}
def yl(A:af)(a b:Int):aF:=bf 32 [(0,.aC (.one (.dt 1000000100 1 A))),(3,aU b),(4,aU a)] []
theorem apr(h:ae [.f A a true,.b (decide (a<4000)) true,.v (b*131),.x A a [D.v (Value.int IntKind.u8 c)],.a (.fK (aU d)),.v c,.v (b*131+c),.v (b*131+c+7),.p (fz prog BinOp.and 3 (Operand.tmp 26) (Operand.const (Value.int IntKind.i64 1073741823)) (Value.int IntKind.i64 (b*131+c+7)) (Value.int IntKind.i64 1073741823) (Value.int IntKind.i64 d)),.u a]):
 aY (ap f32 0) (yl A a b) .normal (yl A (a+1) d):=
 h.aT [4,0,3] []
def EU(A:af)(a:Int):aF:=bf 32 [(0,.aC (.one (.dt 1000000100 1 A))),(3,aU a)] []
theorem aps(h:ae [.f A a true,.b (decide (a<4000)) false]):
 aY (ap f32 0) (yl A a b) (.exit 0) (EU A b):=
 h.aT [0,3] []
theorem aqT(h:ae [.f A a false]):
 aY (ap f32 0) (yl A a b) (.exit 0) (EU A b):=
 h.aT [0,3] []
theorem aqU(h:ae [.v (94701+(A.length:Int)),.l [] [4,0,3] [] (ap f32 0) (yl A 0 (94701+(A.length:Int))) (.exit 0) (EU A a)]):
 b9 32 [aM.ro (aO 1 A)] (aV.iO [some 0,none,none] [D.J 1 A,I 0,I a]):=
 h.b'
def V6(a b c d e:Int)(l:List O):List O:=.a .wr::.a .wr::.a (.fK (aU a))::.a (.fK (aU b))::.a (.fK (aU c))::.a (.fK (aU d))::.p (fz prog BinOp.shr 3 (Operand.tmp 16) (Operand.const (Value.int IntKind.u64 33)) (Value.int IntKind.i64 (IntKind.i64.wrap (IntKind.i64.wrap (e*6364136223846793005)+1442695040888963407))) (Value.int IntKind.u64 33) (Value.int IntKind.i64 a))::.p (fz prog BinOp.shr 3 (Operand.tmp 21) (Operand.const (Value.int IntKind.u64 45)) (Value.int IntKind.i64 (IntKind.i64.wrap (IntKind.i64.wrap (e*6364136223846793005)+1442695040888963407))) (Value.int IntKind.u64 45) (Value.int IntKind.i64 b))::.p (fz prog BinOp.xor 3 (Operand.tmp 17) (Operand.tmp 22) (Value.int IntKind.i64 a) (Value.int IntKind.i64 b) (Value.int IntKind.i64 c))::.p (fz prog BinOp.and 3 (Operand.tmp 23) (Operand.const (Value.int IntKind.i64 255)) (Value.int IntKind.i64 c) (Value.int IntKind.i64 255) (Value.int IntKind.i64 d))::l
theorem aqV(h:ae (V6 c d e f b [.i A a [D.v (Value.int IntKind.u8 i)],.a .wr,.a .wr,.a (.fK (aU g)),.p (fz prog BinOp.and 3 (Operand.tmp 47) (Operand.const (Value.int IntKind.i64 255)) (Value.int IntKind.i64 (IntKind.i64.wrap (f+IntKind.i64.wrap i))) (Value.int IntKind.i64 255) (Value.int IntKind.i64 g)),.u a])):
 b9 74 [aM.cur [D.J 1 A,I a,I b] [D.J 1 A,I (a+1),I (IntKind.i64.wrap (IntKind.i64.wrap (b*6364136223846793005)+1442695040888963407))]] (aV.vals [ag g]):=
 h.b'
theorem aqW(h:ae (V6 c d e f a [.f A b false])):
 b9 74 [aM.cur [D.J 1 A,I b,I a] [D.J 1 A,I b,I (IntKind.i64.wrap (IntKind.i64.wrap (a*6364136223846793005)+1442695040888963407))]] (aV.vals [ag f]):=
 h.b'
theorem aqX(h:ae [.b (decide (a<=0)) false,.b (decide (a<=256)) true,.a (.dB [some [D.J 1 A,I b,I c]] (aV.vals [ag d])),.p (b3 prog 74 [aM.cur [D.J 1 A,I e,I f] [D.J 1 A,I b,I c]] (aV.vals [ag d])),.p (a≠0)]):
 b9 36 [aM.cur [D.J 1 A,I e,I f] [D.J 1 A,I b,I c],aM.ro (ag a)] (aV.vals [ag (d.tmod a)]):=
 h.b'
theorem aqZ(h:ae [.b (decide (d<=0)) false,.b (decide (d<=256)) false,.a (.dB [some [D.J 1 A,I l,I m]] (aV.vals [ag b])),.a (.dB [some [D.J 1 A,I n,I f]] (aV.vals [ag a])),.a (.dB [some [D.J 1 A,I g,I i]] (aV.vals [ag c])),.a (.dB [some [D.J 1 A,I j,I k]] (aV.vals [ag e])),.p (b3 prog 74 [aM.cur [D.J 1 A,I o,I p] [D.J 1 A,I l,I m]] (aV.vals [ag b])),.p (b3 prog 74 [aM.cur [D.J 1 A,I l,I m] [D.J 1 A,I n,I f]] (aV.vals [ag a])),.p (b3 prog 74 [aM.cur [D.J 1 A,I n,I f] [D.J 1 A,I g,I i]] (aV.vals [ag c])),.p (b3 prog 74 [aM.cur [D.J 1 A,I g,I i] [D.J 1 A,I j,I k]] (aV.vals [ag e])),.v (b*16777216),.v (a*65536),.v (b*16777216+a*65536),.v (c*256),.v (b*16777216+a*65536+c*256),.v (b*16777216+a*65536+c*256+e),.p (d≠0)]):
 b9 36 [aM.cur [D.J 1 A,I o,I p] [D.J 1 A,I j,I k],aM.ro (ag d)] (aV.vals [ag ((b*16777216+a*65536+c*256+e).tmod d)]):=
 h.b'
theorem aq0(h:ae [.w A a b c,.k A 36 d e a b f c]):
 b9 34 [aM.cur [D.J 1 A,I d,I e] [D.J 1 A,I a,I b],aM.ro (ag f)] (aV.vals [ai (c==0)]):=
 h.b'
theorem aq1(h:ae [.w A a b c,.k A 36 d e a b (C.length:Int) c,.x C c [I f]]):
 b9 37 [aM.cur [D.J 1 A,I d,I e] [D.J 1 A,I a,I b],aM.ro (aO 1 C)] (aV.vals [ag f]):=
 h.b'
theorem aq2(h:ae [.w A b c d,.w A e f a,.k A 36 g i b c 4 d,.k A 36 b c e f 5 a]):
 b9 177 [aM.cur [D.J 1 A,I g,I i] [D.J 1 A,I e,I f]] (aV.vals [.agg [I d,I a]]):=
 h.b'
def MF(A:af)(a b c d e f g i j:Int)(l:List O):List O:=.a (.dB [some [D.J 1 A,I a,I b]] (aV.vals [.agg [I c,I d]]))::.w A e f g::.p (b3 prog 177 [aM.cur [D.J 1 A,I i,I j] [D.J 1 A,I a,I b]] (aV.vals [.agg [I c,I d]]))::.k A 36 a b e f 10 g::l
theorem aq3(h:ae (MF A f g m i j a b k l [.b (b==0) true,.w A c d e,.p (b3 prog 37 [aM.cur [D.J 1 A,I j,I a] [D.J 1 A,I c,I d],aM.ro (.one (.J 1 [[I (-1)],[I 3],[I 4],[I 9223372036854775807]]))] (aV.vals [ag e]))])):
 b9 176 [aM.cur [D.J 1 A,I k,I l] [D.J 1 A,I c,I d]] (aV.vals [.agg [I e,I i]]):=
 h.b'
theorem aq4(h:ae (MF A f g i m j b a k l [.b (a==0) false,.b (a==1) true,.w A c d e,.p (b3 prog 37 [aM.cur [D.J 1 A,I j,I b] [D.J 1 A,I c,I d],aM.ro (.one (.J 1 [[I (-1)],[I 5],[I 6],[I 7],[I (-9223372036854775808)]]))] (aV.vals [ag e]))])):
 b9 176 [aM.cur [D.J 1 A,I k,I l] [D.J 1 A,I c,I d]] (aV.vals [.agg [I i,I e]]):=
 h.b'
theorem aq5(h:ae (MF A c d e f g b a i j [.b (a==0) false,.b (a==1) false])):
 b9 176 [aM.cur [D.J 1 A,I i,I j] [D.J 1 A,I g,I b]] (aV.vals [.agg [I e,I f]]):=
 h.b'
theorem aq6(h:ae [.w A j k l,.a (.dB [some [D.J 1 A,I m,I n]] (aV.vals [.agg [I a,I b]])),.w A c d e,.w A f g i,.k A 36 o p j k 5 l,.p (b3 prog 177 [aM.cur [D.J 1 A,I j,I k] [D.J 1 A,I m,I n]] (aV.vals [.agg [I a,I b]])),.k A 36 m n c d 12 e,.k A 36 c d f g 40 i]):
 b9 122 [aM.cur [D.J 1 A,I o,I p] [D.J 1 A,I f,I g]] (aV.vals [.agg (bj l a b e i)]):=
 h.b'
def BF(A:af)(a b c d e f g i j k m n:Int)(l:List O):List O:=.a (.dB [some [D.J 1 A,I a,I b]] (aV.vals [.agg (bj c d e f g)]))::.w A i j k::.p (b3 prog 122 [aM.cur [D.J 1 A,I m,I n] [D.J 1 A,I a,I b]] (aV.vals [.agg (bj c d e f g)]))::.k A 36 a b i j 12 k::l
theorem aq7(h:ae (BF A i j p k l m a b c d n o [.b (d==0) true,.w A e f g,.p (b3 prog 37 [aM.cur [D.J 1 A,I b,I c] [D.J 1 A,I e,I f],aM.ro (.one (.J 1 [[I (-1)],[I 7],[I 8]]))] (aV.vals [ag g]))])):
 b9 121 [aM.cur [D.J 1 A,I n,I o] [D.J 1 A,I e,I f]] (aV.vals [.agg (bj g k l m a)]):=
 h.b'
theorem aq8(h:ae (BF A j k l p a0 m b c d a n o [.b (a==0) false,.b (a==1) true,.a (.dB [some [D.J 1 A,I e,I f]] (aV.vals [.agg [I g,I i]])),.p (b3 prog 176 [aM.cur [D.J 1 A,I c,I d] [D.J 1 A,I e,I f]] (aV.vals [.agg [I g,I i]]))])):
 b9 121 [aM.cur [D.J 1 A,I n,I o] [D.J 1 A,I e,I f]] (aV.vals [.agg (bj l g i m b)]):=
 h.b'
theorem aq9(h:ae (BF A i j k l m p b c d a n o [.b (a==0) false,.b (a==1) false,.b (a==2) true,.w A e f g,.p (b3 prog 37 [aM.cur [D.J 1 A,I c,I d] [D.J 1 A,I e,I f],aM.ro (.one (.J 1 [[I (-1)],[I 99],[I 100],[I (-9223372036854775808)]]))] (aV.vals [ag g]))])):
 b9 121 [aM.cur [D.J 1 A,I n,I o] [D.J 1 A,I e,I f]] (aV.vals [.agg (bj k l m g b)]):=
 h.b'
theorem ara(h:ae (BF A g i j k l m o b c a n p [.b (a==0) false,.b (a==1) false,.b (a==2) false,.b (a==3) true,.w A d e f,.p (b3 prog 37 [aM.cur [D.J 1 A,I b,I c] [D.J 1 A,I d,I e],aM.ro (.one (.J 1 [[I (-1)],[I 999],[I 1000],[I 9223372036854775807]]))] (aV.vals [ag f]))])):
 b9 121 [aM.cur [D.J 1 A,I n,I p] [D.J 1 A,I d,I e]] (aV.vals [.agg (bj j k l m f)]):=
 h.b'
theorem arb(h:ae (BF A e f g i j k b c d a l m [.b (a==0) false,.b (a==1) false,.b (a==2) false,.b (a==3) false])):
 b9 121 [aM.cur [D.J 1 A,I l,I m] [D.J 1 A,I c,I d]] (aV.vals [.agg (bj g i j k b)]):=
 h.b'
def V7(A:af)(a b c d e f g i:Int)(q:Bool)(j k:Int)(l:List O):List O:=.w A a b c::.w A d e f::.y A g i q::.k A 36 j k a b 3 c::.v (1+c)::.k A 36 a b d e 3 f::.v (1+f)::.m A 34 d e g i 3 q::l
def BD(A:af)(a b c d e f g i:Int)(q:Bool)(j k m n o p ef e0 bK d1 e1 f1 g1 i1:Int)(l:List O):List O:=V7 A a b c d e f g i q j k (.b q true::.w A m n o::.w A p ef e0::.w A bK d1 e1::.w A f1 g1 i1::.k A 36 g i m n 3 o::.v (1+o)::.k A 36 m n p ef 4 e0::.k A 36 p ef bK d1 3 e1::.v (1+e1)::.k A 36 bK d1 f1 g1 6 i1::l)
theorem arc{A:af}{f0 i0 b6 cS e d0 bz c f g:Int}{q:Bool}{i j a k l b m n d o p a0:Int}{d31 d32 d33 d34:D}(h:ae (BD A b6 cS e d0 bz c f g q f0 i0 i j a k l b m n d o p a0 [.b (a0==0) true,.p ((0:Int)<=3),.p (3<(↑[[I 1,I 0,I 0,D.J 1 [[I 1]]],[I 6,I 0,I 0,D.J 1 [[I 2],[I 5]]],[I 4,I (1+a),I 0,D.J 1 [[I 3]]],[I 2,I b,I 0,D.J 1 [[I 4]]],[I 7,I 0,I 0,D.J 1 [[I 1]]],[I 8,I 0,I 0,D.v (aP)]].length:Int)),.e [[I 1,I 0,I 0,D.J 1 [[I 1]]],[I 6,I 0,I 0,D.J 1 [[I 2],[I 5]]],[I 4,I (1+a),I 0,D.J 1 [[I 3]]],[I 2,I b,I 0,D.J 1 [[I 4]]],[I 7,I 0,I 0,D.J 1 [[I 1]]],[I 8,I 0,I 0,D.v (aP)]] 3 [d31,d32,d33,d34]])):
 b9 117 [aM.cur [D.J 1 A,I f0,I i0] [D.J 1 A,I o,I p]] (aV.vals [.agg (bq ([[I 1,I 0,I 0,D.J 1 [[I 1]]],[I 6,I 0,I 0,D.J 1 [[I 2],[I 5]]],[I 4,I (1+a),I 0,D.J 1 [[I 3]]],[I 2,I b,I 0,D.J 1 [[I 4]]],[I 7,I 0,I 0,D.J 1 [[I 1]]],[I 8,I 0,I 0,D.v (aP)]].set 3 [I 3,I (1+d),I 0,D.J 1 [[I 4]]]) (1+e) (1+c))]):=
 h.b'
theorem ard{A:af}{f0 i0 b6 cS e d0 bz c f g:Int}{q:Bool}{i j a k l b m n o p a0 d:Int}{d31 d32 d33 d34:D}(h:ae (BD A b6 cS e d0 bz c f g q f0 i0 i j a k l b m n o p a0 d [.b (d==0) false,.b (d==1) true,.p ((0:Int)<=4),.p (4<(↑[[I 1,I 0,I 0,D.J 1 [[I 1]]],[I 6,I 0,I 0,D.J 1 [[I 2],[I 5]]],[I 4,I (1+a),I 0,D.J 1 [[I 3]]],[I 2,I b,I 0,D.J 1 [[I 4]]],[I 7,I 0,I 0,D.J 1 [[I 1]]],[I 8,I 0,I 0,D.v (aP)]].length:Int)),.e [[I 1,I 0,I 0,D.J 1 [[I 1]]],[I 6,I 0,I 0,D.J 1 [[I 2],[I 5]]],[I 4,I (1+a),I 0,D.J 1 [[I 3]]],[I 2,I b,I 0,D.J 1 [[I 4]]],[I 7,I 0,I 0,D.J 1 [[I 1]]],[I 8,I 0,I 0,D.v (aP)]] 4 [d31,d32,d33,d34]])):
 b9 117 [aM.cur [D.J 1 A,I f0,I i0] [D.J 1 A,I p,I a0]] (aV.vals [.agg (bq ([[I 1,I 0,I 0,D.J 1 [[I 1]]],[I 6,I 0,I 0,D.J 1 [[I 2],[I 5]]],[I 4,I (1+a),I 0,D.J 1 [[I 3]]],[I 2,I b,I 0,D.J 1 [[I 4]]],[I 7,I 0,I 0,D.J 1 [[I 1]]],[I 8,I 0,I 0,D.v (aP)]].set 4 [I 8,I 0,I 0,D.v (aP)]) (1+e) (1+c))]):=
 h.b'
theorem arf{A:af}{f0 i0 b6 cS e d0 bz d f g:Int}{q:Bool}{i j a k l b m n o p a0 c:Int}{d31 d32 d33 d34:D}(h:ae (BD A b6 cS e d0 bz d f g q f0 i0 i j a k l b m n o p a0 c [.b (c==0) false,.b (c==1) false,.b (c==2) true,.p ((0:Int)<=2),.p (2<(↑[[I 1,I 0,I 0,D.J 1 [[I 1]]],[I 6,I 0,I 0,D.J 1 [[I 2],[I 5]]],[I 4,I (1+a),I 0,D.J 1 [[I 3]]],[I 2,I b,I 0,D.J 1 [[I 4]]],[I 7,I 0,I 0,D.J 1 [[I 1]]],[I 8,I 0,I 0,D.v (aP)]].length:Int)),.e [[I 1,I 0,I 0,D.J 1 [[I 1]]],[I 6,I 0,I 0,D.J 1 [[I 2],[I 5]]],[I 4,I (1+a),I 0,D.J 1 [[I 3]]],[I 2,I b,I 0,D.J 1 [[I 4]]],[I 7,I 0,I 0,D.J 1 [[I 1]]],[I 8,I 0,I 0,D.v (aP)]] 2 [d31,d32,d33,d34]])):
 b9 117 [aM.cur [D.J 1 A,I f0,I i0] [D.J 1 A,I p,I a0]] (aV.vals [.agg (bq ([[I 1,I 0,I 0,D.J 1 [[I 1]]],[I 6,I 0,I 0,D.J 1 [[I 2],[I 5]]],[I 4,I (1+a),I 0,D.J 1 [[I 3]]],[I 2,I b,I 0,D.J 1 [[I 4]]],[I 7,I 0,I 0,D.J 1 [[I 1]]],[I 8,I 0,I 0,D.v (aP)]].set 2 [d31,d32,d33,D.J 1 [[I 3],[I 4]]]) (1+e) (1+d))]):=
 h.b'
theorem arh{A:af}{f0 i0 b6 cS e d0 bz d f g:Int}{q:Bool}{i j a k l b m n o p a0 c:Int}{d31 d32 d33 d34:D}(h:ae (BD A b6 cS e d0 bz d f g q f0 i0 i j a k l b m n o p a0 c [.b (c==0) false,.b (c==1) false,.b (c==2) false,.b (c==3) true,.a .wr,.p (([[I 1,I 0,I 0,D.J 1 [[I 1]]],[I 6,I 0,I 0,D.J 1 [[I 2],[I 5]]],[I 4,I (1+a),I 0,D.J 1 [[I 3]]],[I 2,I b,I 0,D.J 1 [[I 4]]],[I 7,I 0,I 0,D.J 1 [[I 1]]],[I 8,I 0,I 0,D.v (aP)]].length+[[I 8,I 0,I 0,D.v (aP)]].length)*48<=140737488355328),.p ([[I 1,I 0,I 0,D.J 1 [[I 1]]],[I 6,I 0,I 0,D.J 1 [[I 2],[I 5]]],[I 4,I (1+a),I 0,D.J 1 [[I 3]]],[I 2,I b,I 0,D.J 1 [[I 4]]],[I 7,I 0,I 0,D.J 1 [[I 1]]],[I 8,I 0,I 0,D.v (aP)]].length+[[I 8,I 0,I 0,D.v (aP)]].length<=9223372036854775807),.p ((0:Int)<=0),.p (0<(↑([[I 1,I 0,I 0,D.J 1 [[I 1]]],[I 6,I 0,I 0,D.J 1 [[I 2],[I 5]]],[I 4,I (1+a),I 0,D.J 1 [[I 3]]],[I 2,I b,I 0,D.J 1 [[I 4]]],[I 7,I 0,I 0,D.J 1 [[I 1]]],[I 8,I 0,I 0,D.v (aP)]]++[[I 8,I 0,I 0,D.v (aP)]]).length:Int)),.e ([[I 1,I 0,I 0,D.J 1 [[I 1]]],[I 6,I 0,I 0,D.J 1 [[I 2],[I 5]]],[I 4,I (1+a),I 0,D.J 1 [[I 3]]],[I 2,I b,I 0,D.J 1 [[I 4]]],[I 7,I 0,I 0,D.J 1 [[I 1]]],[I 8,I 0,I 0,D.v (aP)]]++[[I 8,I 0,I 0,D.v (aP)]]) 0 [d31,d32,d33,d34]])):
 b9 117 [aM.cur [D.J 1 A,I f0,I i0] [D.J 1 A,I p,I a0]] (aV.vals [.agg (bq (([[I 1,I 0,I 0,D.J 1 [[I 1]]],[I 6,I 0,I 0,D.J 1 [[I 2],[I 5]]],[I 4,I (1+a),I 0,D.J 1 [[I 3]]],[I 2,I b,I 0,D.J 1 [[I 4]]],[I 7,I 0,I 0,D.J 1 [[I 1]]],[I 8,I 0,I 0,D.v (aP)]]++[[I 8,I 0,I 0,D.v (aP)]]).set 0 [d31,d32,d33,D.J 1 [[I 1],[I 6]]]) (1+e) (1+d))]):=
 h.b'
theorem ari(h:ae (BD A b6 cS d d0 bz b e f q f0 i0 g i c j k l m n o p a0 a [.b (a==0) false,.b (a==1) false,.b (a==2) false,.b (a==3) false])):
 b9 117 [aM.cur [D.J 1 A,I f0,I i0] [D.J 1 A,I p,I a0]] (aV.vals [.agg [D.J 4 [[I 1,I 0,I 0,D.J 1 [[I 1]]],[I 6,I 0,I 0,D.J 1 [[I 2],[I 5]]],[I 4,I (1+c),I 0,D.J 1 [[I 3]]],[I 2,I l,I 0,D.J 1 [[I 4]]],[I 7,I 0,I 0,D.J 1 [[I 1]]],[I 8,I 0,I 0,D.v (aP)]],I (1+d),I (1+b)]]):=
 h.b'
def BE(A:af)(a b c d e f g i:Int)(q:Bool)(j k m n o p ef e0 bK d1 e1 f1 g1 i1:Int)(l:List O):List O:=V7 A a b c d e f g i q j k (.b q false::.w A m n o::.w A p ef e0::.w A bK d1 e1::.w A f1 g1 i1::.k A 36 g i m n 3 o::.v (1+o)::.k A 36 m n p ef 4 e0::.k A 36 p ef bK d1 3 e1::.v (1+e1)::.k A 36 bK d1 f1 g1 6 i1::l)
theorem arj{A:af}{f0 i0 b6 cS e d0 bz c f g:Int}{q:Bool}{i j a k l b m n d o p a0:Int}{d31 d32 d33 d34:D}(h:ae (BE A b6 cS e d0 bz c f g q f0 i0 i j a k l b m n d o p a0 [.b (a0==0) true,.p ((0:Int)<=3),.p (3<(↑[[I 1,I 0,I 0,D.J 1 [[I 1]]],[I 5,I 0,I 0,D.J 1 [[I 2],[I 5]]],[I 4,I (1+a),I 0,D.J 1 [[I 3]]],[I 2,I b,I 0,D.J 1 [[I 4]]],[I 7,I 0,I 0,D.J 1 [[I 1]]],[I 8,I 0,I 0,D.v (aP)]].length:Int)),.e [[I 1,I 0,I 0,D.J 1 [[I 1]]],[I 5,I 0,I 0,D.J 1 [[I 2],[I 5]]],[I 4,I (1+a),I 0,D.J 1 [[I 3]]],[I 2,I b,I 0,D.J 1 [[I 4]]],[I 7,I 0,I 0,D.J 1 [[I 1]]],[I 8,I 0,I 0,D.v (aP)]] 3 [d31,d32,d33,d34]])):
 b9 117 [aM.cur [D.J 1 A,I f0,I i0] [D.J 1 A,I o,I p]] (aV.vals [.agg (bq ([[I 1,I 0,I 0,D.J 1 [[I 1]]],[I 5,I 0,I 0,D.J 1 [[I 2],[I 5]]],[I 4,I (1+a),I 0,D.J 1 [[I 3]]],[I 2,I b,I 0,D.J 1 [[I 4]]],[I 7,I 0,I 0,D.J 1 [[I 1]]],[I 8,I 0,I 0,D.v (aP)]].set 3 [I 3,I (1+d),I 0,D.J 1 [[I 4]]]) (1+e) (1+c))]):=
 h.b'
theorem ark{A:af}{f0 i0 b6 cS e d0 bz c f g:Int}{q:Bool}{i j a k l b m n o p a0 d:Int}{d31 d32 d33 d34:D}(h:ae (BE A b6 cS e d0 bz c f g q f0 i0 i j a k l b m n o p a0 d [.b (d==0) false,.b (d==1) true,.p ((0:Int)<=4),.p (4<(↑[[I 1,I 0,I 0,D.J 1 [[I 1]]],[I 5,I 0,I 0,D.J 1 [[I 2],[I 5]]],[I 4,I (1+a),I 0,D.J 1 [[I 3]]],[I 2,I b,I 0,D.J 1 [[I 4]]],[I 7,I 0,I 0,D.J 1 [[I 1]]],[I 8,I 0,I 0,D.v (aP)]].length:Int)),.e [[I 1,I 0,I 0,D.J 1 [[I 1]]],[I 5,I 0,I 0,D.J 1 [[I 2],[I 5]]],[I 4,I (1+a),I 0,D.J 1 [[I 3]]],[I 2,I b,I 0,D.J 1 [[I 4]]],[I 7,I 0,I 0,D.J 1 [[I 1]]],[I 8,I 0,I 0,D.v (aP)]] 4 [d31,d32,d33,d34]])):
 b9 117 [aM.cur [D.J 1 A,I f0,I i0] [D.J 1 A,I p,I a0]] (aV.vals [.agg (bq ([[I 1,I 0,I 0,D.J 1 [[I 1]]],[I 5,I 0,I 0,D.J 1 [[I 2],[I 5]]],[I 4,I (1+a),I 0,D.J 1 [[I 3]]],[I 2,I b,I 0,D.J 1 [[I 4]]],[I 7,I 0,I 0,D.J 1 [[I 1]]],[I 8,I 0,I 0,D.v (aP)]].set 4 [I 8,I 0,I 0,D.v (aP)]) (1+e) (1+c))]):=
 h.b'
theorem aqt{A:af}{f0 i0 b6 cS e d0 bz d f g:Int}{q:Bool}{i j a k l b m n o p a0 c:Int}{d31 d32 d33 d34:D}(h:ae (BE A b6 cS e d0 bz d f g q f0 i0 i j a k l b m n o p a0 c [.b (c==0) false,.b (c==1) false,.b (c==2) true,.p ((0:Int)<=2),.p (2<(↑[[I 1,I 0,I 0,D.J 1 [[I 1]]],[I 5,I 0,I 0,D.J 1 [[I 2],[I 5]]],[I 4,I (1+a),I 0,D.J 1 [[I 3]]],[I 2,I b,I 0,D.J 1 [[I 4]]],[I 7,I 0,I 0,D.J 1 [[I 1]]],[I 8,I 0,I 0,D.v (aP)]].length:Int)),.e [[I 1,I 0,I 0,D.J 1 [[I 1]]],[I 5,I 0,I 0,D.J 1 [[I 2],[I 5]]],[I 4,I (1+a),I 0,D.J 1 [[I 3]]],[I 2,I b,I 0,D.J 1 [[I 4]]],[I 7,I 0,I 0,D.J 1 [[I 1]]],[I 8,I 0,I 0,D.v (aP)]] 2 [d31,d32,d33,d34]])):
 b9 117 [aM.cur [D.J 1 A,I f0,I i0] [D.J 1 A,I p,I a0]] (aV.vals [.agg (bq ([[I 1,I 0,I 0,D.J 1 [[I 1]]],[I 5,I 0,I 0,D.J 1 [[I 2],[I 5]]],[I 4,I (1+a),I 0,D.J 1 [[I 3]]],[I 2,I b,I 0,D.J 1 [[I 4]]],[I 7,I 0,I 0,D.J 1 [[I 1]]],[I 8,I 0,I 0,D.v (aP)]].set 2 [d31,d32,d33,D.J 1 [[I 3],[I 4]]]) (1+e) (1+d))]):=
 h.b'
theorem aqu{A:af}{f0 i0 b6 cS e d0 bz d f g:Int}{q:Bool}{i j a k l b m n o p a0 c:Int}{d31 d32 d33 d34:D}(h:ae (BE A b6 cS e d0 bz d f g q f0 i0 i j a k l b m n o p a0 c [.b (c==0) false,.b (c==1) false,.b (c==2) false,.b (c==3) true,.a .wr,.p (([[I 1,I 0,I 0,D.J 1 [[I 1]]],[I 5,I 0,I 0,D.J 1 [[I 2],[I 5]]],[I 4,I (1+a),I 0,D.J 1 [[I 3]]],[I 2,I b,I 0,D.J 1 [[I 4]]],[I 7,I 0,I 0,D.J 1 [[I 1]]],[I 8,I 0,I 0,D.v (aP)]].length+[[I 8,I 0,I 0,D.v (aP)]].length)*48<=140737488355328),.p ([[I 1,I 0,I 0,D.J 1 [[I 1]]],[I 5,I 0,I 0,D.J 1 [[I 2],[I 5]]],[I 4,I (1+a),I 0,D.J 1 [[I 3]]],[I 2,I b,I 0,D.J 1 [[I 4]]],[I 7,I 0,I 0,D.J 1 [[I 1]]],[I 8,I 0,I 0,D.v (aP)]].length+[[I 8,I 0,I 0,D.v (aP)]].length<=9223372036854775807),.p ((0:Int)<=0),.p (0<(↑([[I 1,I 0,I 0,D.J 1 [[I 1]]],[I 5,I 0,I 0,D.J 1 [[I 2],[I 5]]],[I 4,I (1+a),I 0,D.J 1 [[I 3]]],[I 2,I b,I 0,D.J 1 [[I 4]]],[I 7,I 0,I 0,D.J 1 [[I 1]]],[I 8,I 0,I 0,D.v (aP)]]++[[I 8,I 0,I 0,D.v (aP)]]).length:Int)),.e ([[I 1,I 0,I 0,D.J 1 [[I 1]]],[I 5,I 0,I 0,D.J 1 [[I 2],[I 5]]],[I 4,I (1+a),I 0,D.J 1 [[I 3]]],[I 2,I b,I 0,D.J 1 [[I 4]]],[I 7,I 0,I 0,D.J 1 [[I 1]]],[I 8,I 0,I 0,D.v (aP)]]++[[I 8,I 0,I 0,D.v (aP)]]) 0 [d31,d32,d33,d34]])):
 b9 117 [aM.cur [D.J 1 A,I f0,I i0] [D.J 1 A,I p,I a0]] (aV.vals [.agg (bq (([[I 1,I 0,I 0,D.J 1 [[I 1]]],[I 5,I 0,I 0,D.J 1 [[I 2],[I 5]]],[I 4,I (1+a),I 0,D.J 1 [[I 3]]],[I 2,I b,I 0,D.J 1 [[I 4]]],[I 7,I 0,I 0,D.J 1 [[I 1]]],[I 8,I 0,I 0,D.v (aP)]]++[[I 8,I 0,I 0,D.v (aP)]]).set 0 [d31,d32,d33,D.J 1 [[I 1],[I 6]]]) (1+e) (1+d))]):=
 h.b'
theorem aqv(h:ae (BE A b6 cS d d0 bz b e f q f0 i0 g i c j k l m n o p a0 a [.b (a==0) false,.b (a==1) false,.b (a==2) false,.b (a==3) false])):
 b9 117 [aM.cur [D.J 1 A,I f0,I i0] [D.J 1 A,I p,I a0]] (aV.vals [.agg [D.J 4 [[I 1,I 0,I 0,D.J 1 [[I 1]]],[I 5,I 0,I 0,D.J 1 [[I 2],[I 5]]],[I 4,I (1+c),I 0,D.J 1 [[I 3]]],[I 2,I l,I 0,D.J 1 [[I 4]]],[I 7,I 0,I 0,D.J 1 [[I 1]]],[I 8,I 0,I 0,D.v (aP)]],I (1+d),I (1+b)]]):=
 h.b'
def RX(C A:af)(b c d e f a:Int):aF:=bf 75 [(0,aS 1000000000),(2,aS 2),(3,aS 3),(4,aU d),(5,aS 1000000000),(6,aG.aC (bl.agg [aw 70000 4 A,au b,au c])),(7,aS 1000000000),(8,aS 3),(9,aG.aC (bl.one (aw 70000 4 A))),(10,aU (A.length:Int)),(11,aU d),(12,aS 1000000000),(13,aU a),(14,.aC (.one (.bg (a==0)))),(15,.aC (.one (.bg (a==0))))] [(3,[aw 70000 4 A,au b,au c]),(2,[.v (aP),au 0,au 0]),(1000000000,[.dt 1000000100 1 C,au e,au f])]
def J'(E A:af)(f g a e i j c d b:Int)(C:af):aF:=bf 75 [(0,aS 1000000000),(2,aS 2),(3,aS 3),(4,aU a),(5,aS 1000000000),(6,aG.aC (bl.agg [aw 70000 4 (A.set a.toNat (bk c d b C)),au f,au g])),(7,aS 1000000000),(8,aS 3),(9,aG.aC (bl.one (aw 70000 4 (A.set a.toNat (bk c d b C))))),(10,aU (A.length:Int)),(11,aU a),(12,aS 1000000000),(13,aU e),(14,.aC (.one (.bg (e==0)))),(15,.aC (.one (.bg (e==0)))),(16,aS 3),(17,aG.aC (bl.one (aw 70000 4 (A.set a.toNat (bk c d b C))))),(18,aU a),(19,aS 1000000000),(20,aG.aC (bl.agg [au c,au d,au b,.cw])),(21,.aC (.one (.cL (Tag.own 70000) 4 (A.set a.toNat (bk c d b C)) a.toNat 0)))] [(3,[aw 70000 4 (A.set a.toNat (bk c d b C)),au f,au g]),(2,[.v (aP),au 0,au 0]),(1000000000,[.dt 1000000100 1 E,au i,au j])]
theorem aqw{A C:af}{n o a g i m b c d e f:Int}{E:af}{j k l:Int}{F:af}
  (h:cK [b3 prog 124 [aM.cur [D.J 1 A,I g,I i] [D.J 1 A,I b,I c]] (aV.vals [.agg (bk d e f E)]),0<=a,a<(C.length:Int),C[a.toNat]?=some (bk j k l F)]):
  ek prog (cU f72 5) (RX A C n o a g i m) (J' A C n o a m b c d e f E):=
 .of [[],[],[],[],[.dB [some [D.J 1 A,I b,I c]] (aV.vals [.agg (bk d e f E)])],[],[.el (bk j k l F)]] [[],[],[],[],[b3 prog 124 [aM.cur [D.J 1 A,I g,I i] [D.J 1 A,I b,I c]] (aV.vals [.agg (bk d e f E)])],[0<=a,a<(C.length:Int)],[C[a.toNat]?=some (bk j k l F)]] (by kernel_rfl) (by kernel_rfl) (by kernel_rfl) h
def MG(A:af)(a b:Int)(C:af)(c d e f g i j k m n:Int)(l:List O):List O:=.a (.dB [some [D.J 1 A,I a,I b]] (aV.vals [.agg (bq C c d)]))::.w A e f g::.w A i j k::.p (b3 prog 117 [aM.cur [D.J 1 A,I m,I n] [D.J 1 A,I a,I b]] (aV.vals [.agg (bq C c d)]))::.k A 36 a b e f (C.length:Int) g::.k A 36 e f i j 12 k::l
theorem aqx(h:ae (MG A o p C c d e f a g i b a0 b6 [.b (b==0) true,.a (.h' (J' A C c d a b j k l m n E)),.p (ek prog (cU f72 5) (RX A C c d a g i b) (J' A C c d a b j k l m n E))])):
 b9 72 [aM.cur [D.J 1 A,I a0,I b6] [D.J 1 A,I j,I k]] (aV.vals [.agg (bq (C.set a.toNat (bk l m n E)) c d)]):=
 h.b'
theorem aqy(h:ae (MG A j k C p l b c n d e a m o [.b (a==0) false,.b (a==1) true,.w A f g i,.p (b3 prog 37 [aM.cur [D.J 1 A,I d,I e] [D.J 1 A,I f,I g],aM.ro (.one (.J 1 [[I 0],[I 4],[I 5],[I (-1)]]))] (aV.vals [ag i]))])):
 b9 72 [aM.cur [D.J 1 A,I m,I o] [D.J 1 A,I f,I g]] (aV.vals [.agg (bq C i l)]):=
 h.b'
def BG(A:af)(a b:Int)(C:af)(c d e f g i j k m n:Int)(l:List O):List O:=MG A a b C c d e f g i j k m n (.b (k==0) false::.b (k==1) false::l)
theorem aqz(h:ae (BG A j k C l p b c n d e a m o [.b (a==2) true,.w A f g i,.p (b3 prog 37 [aM.cur [D.J 1 A,I d,I e] [D.J 1 A,I f,I g],aM.ro (.one (.J 1 [[I 0],[I 4],[I 5],[I (-1)]]))] (aV.vals [ag i]))])):
 b9 72 [aM.cur [D.J 1 A,I m,I o] [D.J 1 A,I f,I g]] (aV.vals [.agg (bq C l i)]):=
 h.b'
def RY(C A:af)(b c d e f a:Int):aF:=bf 75 [(0,aS 1000000000),(2,aS 2),(3,aS 3),(4,aU d),(5,aS 1000000000),(6,aG.aC (bl.agg [aw 70000 4 A,au b,au c])),(7,aS 1000000000),(8,aS 3),(9,aG.aC (bl.one (aw 70000 4 A))),(10,aU (A.length:Int)),(11,aU d),(12,aS 1000000000),(13,aU a),(14,.aC (.one (.bg (a==0)))),(15,.aC (.one (.bg (a==0)))),(22,.aC (.one (.bg (a==1)))),(23,.aC (.one (.bg (a==1)))),(28,.aC (.one (.bg (a==2)))),(29,.aC (.one (.bg (a==2)))),(34,.aC (.one (.bg (a==3)))),(35,.aC (.one (.bg (a==3))))] [(3,[aw 70000 4 A,au b,au c]),(2,[.v (aP),au 0,au 0]),(1000000000,[.dt 1000000100 1 C,au e,au f])]
def Ka(E A:af)(g i a f:Int)(C:af)(j k b c d e:Int):aF:=bf 75 [(0,aS 1000000000),(2,aS 2),(3,aS 3),(4,aU a),(5,aS 1000000000),(6,aG.aC (bl.agg [.J (.own 70000) 4 (A.set a.toNat (bk c d e (C++[[I (b-1)]]))),au g,au i])),(7,aS 1000000000),(8,aS 3),(9,.aC (.one (.J (.own 70000) 4 (A.set a.toNat (bk c d e (C++[[I (b-1)]])))))),(10,aU (A.length:Int)),(11,aU a),(12,aS 1000000000),(13,aU f),(14,.aC (.one (.bg (f==0)))),(15,.aC (.one (.bg (f==0)))),(22,.aC (.one (.bg (f==1)))),(23,.aC (.one (.bg (f==1)))),(28,.aC (.one (.bg (f==2)))),(29,.aC (.one (.bg (f==2)))),(34,.aC (.one (.bg (f==3)))),(35,.aC (.one (.bg (f==3)))),(36,aS 3),(37,.aC (.one (.J (.own 70000) 4 (A.set a.toNat (bk c d e (C++[[I (b-1)]])))))),(38,aU a),(39,aS 3),(40,.aC (.one (.J (.own 70000) 4 (A.set a.toNat (bk c d e (C++[[I (b-1)]])))))),(41,aU a),(42,.aC (.one (.cL (Tag.own 70000) 4 (A.set a.toNat (bk c d e (C++[[I (b-1)]]))) a.toNat 0))),(43,.aC (.one (.cL (Tag.own 70000) 4 (A.set a.toNat (bk c d e (C++[[I (b-1)]]))) a.toNat 3))),(45,aS 1000000000),(46,aU b),(47,aU (b-1)),(48,.aC (.one (.J (.own 48) 1 [[I (b-1)]]))),(50,.aC (.one (.cL (Tag.own 70000) 4 (A.set a.toNat (bk c d e (C++[[I (b-1)]]))) a.toNat 0))),(51,.aC (.one (.cL (Tag.own 70000) 4 (A.set a.toNat (bk c d e (C++[[I (b-1)]]))) a.toNat 3)))] [(3,[.J (.own 70000) 4 (A.set a.toNat (bk c d e (C++[[I (b-1)]]))),au g,au i]),(2,[.v (aP),au 0,au 0]),(1000000000,[.dt 1000000100 1 E,au j,au k])]
theorem aqA{E C:af}{o p a i j n k l m:Int}{A:af}{c d b:Int}{d25 d26 d27:D}{e f g:Int}{F:af}
  (h:cK [0<=a,a<(C.length:Int),C[a.toNat]?=some (bk k l m A),b3 prog 36 [aM.cur [D.J 1 E,I i,I j] [D.J 1 E,I c,I d],aM.ro (ag 9)] (aV.vals [ag b]),aK .i64 (b-1),(A.length+[[I (b-1)]].length)*8<=140737488355328,A.length+[[I (b-1)]].length<=9223372036854775807,C[a.toNat]?=some [d25,d26,d27,D.J 1 A],[d25,d26,d27,D.J 1 A][3]?=some (D.J 1 A),a.toNat=a.toNat,Flat [[I (b-1)]],0<=a,a<(C.length:Int),C[a.toNat]?=some (bk e f g F),a.toNat=a.toNat]):
  ek prog (cU f72 11) (RY E C o p a i j n) (Ka E C o p a n A c d b e f g):=
 .of [[],[],[],[],[],[],[],[],[.sub,.el (bk k l m A)],[],[.dB [some [D.J 1 E,I c,I d],none] (aV.vals [ag b])],[],[],[.el [d25,d26,d27,D.J 1 A]],[],[],[.el (bk e f g F)]] [[],[],[],[],[],[],[0<=a,a<(C.length:Int)],[],[C[a.toNat]?=some (bk k l m A)],[],[b3 prog 36 [aM.cur [D.J 1 E,I i,I j] [D.J 1 E,I c,I d],aM.ro (ag 9)] (aV.vals [ag b])],[aK .i64 (b-1)],[],[(A.length+[[I (b-1)]].length)*8<=140737488355328,A.length+[[I (b-1)]].length<=9223372036854775807,C[a.toNat]?=some [d25,d26,d27,D.J 1 A],[d25,d26,d27,D.J 1 A][3]?=some (D.J 1 A),a.toNat=a.toNat,Flat [[I (b-1)]]],[0<=a,a<(C.length:Int)],[],[C[a.toNat]?=some (bk e f g F),a.toNat=a.toNat]] (by kernel_rfl) (by kernel_rfl) (by kernel_rfl) h
theorem aqB(h:ae (BG A p a0 C c d e f b g i a b6 cS [.b (a==2) false,.b (a==3) true,.a (.h' (Ka A C c d b a E j k l m n o)),.p (ek prog (cU f72 11) (RY A C c d b g i a) (Ka A C c d b a E j k l m n o))])):
 b9 72 [aM.cur [D.J 1 A,I b6,I cS] [D.J 1 A,I j,I k]] (aV.vals [.agg [D.J 4 (C.set b.toNat (bk m n o (E++[[I (l-1)]]))),I c,I d]]):=
 h.b'
def AZ(A C:af)(a b c d e f:Int):aF:=bf 75 [(0,aS 1000000000),(2,aS 2),(3,aS 3)] [(3,[aw 70000 4 C,au a,au b]),(2,[.v (aP),au c,au d]),(1000000000,[.dt 1000000100 1 A,au e,au f])]
def EV(A C:af)(a b c d e f:Int):aF:=bf 75 [(0,aS 1000000000),(2,aS 2),(3,aS 3)] [(3,[aw 70000 4 C,au a,au b]),(2,[.v (aP),au c,au d]),(1000000000,[.dt 1000000100 1 A,au e,au f])]
def A0(P:Program)(W:Array Oper)(A C:af)(a b c d e f g i j:Int):aF:=
 nG P W [[],[],[],[],[.dB [some [D.J 1 A,I g,I i],none] (aV.vals [ag j])],[],[]] (EV A C a b c d e f)
theorem Q'{A C:af}{d e f g a b i j c:Int}
  (h:cK [b3 prog 36 [aM.cur [D.J 1 A,I a,I b] [D.J 1 A,I i,I j],aM.ro (ag 2)] (aV.vals [ag c]),aK .i64 (8+c)]):
  ek prog (cU f72 13) (EV A C d e f g a b) (A0 prog (cU f72 13) A C d e f g a b i j c):=
 .om [0,0,0,0,1,1,0] h
theorem aqC(h:ae [.a (.h' (A0 prog (cU f72 13) C A a b c d e f g i j)),.p (ek prog (cU f72 13) (EV C A a b c d e f) (A0 prog (cU f72 13) C A a b c d e f g i j)),.b (decide ((A.length:Int)<8+j)) true,.a .wr,.g A [[I 8,I 0,I 0,D.v (aP)]] 48]):
 aY (ap f72 0) (AZ C A a b c d e f) .normal (AZ C (A++[[I 8,I 0,I 0,D.v (aP)]]) a b c d g i):=
 h.aT [3,0,2] [3,2,1000000000]
def Kb(A C:af)(a b c d e f:Int):aF:=bf 75 [(0,aS 1000000000),(2,aS 2),(3,aS 3)] [(3,[aw 70000 4 C,au a,au b]),(2,[.v (aP),au c,au d]),(1000000000,[.dt 1000000100 1 A,au e,au f])]
theorem aqD(h:ae [.a (.h' (A0 prog (cU f72 13) C A a b c d e f g i j)),.p (ek prog (cU f72 13) (EV C A a b c d e f) (A0 prog (cU f72 13) C A a b c d e f g i j)),.b (decide ((A.length:Int)<8+j)) false]):
 aY (ap f72 0) (AZ C A a b c d e f) (.exit 1) (Kb C A a b c d g i):=
 h.aT [3,2,0] [3,2,1000000000]
theorem aqE(h:ae (BG A f g C i j b c l d e a k o [.b (a==2) false,.b (a==3) false,.b (a==4) true,.l [] [3,0,2] [3,2,1000000000] (ap f72 0) (AZ A C i j 0 0 d e) (.exit 1) (Kb A E m n b6 cS p a0)])):
 b9 72 [aM.cur [D.J 1 A,I k,I o] [D.J 1 A,I p,I a0]] (aV.vals [.agg (bq E m n)]):=
 h.b'
theorem aqF(h:ae (BG A g i C j k c d b e f a l m [.b (a==2) false,.b (a==3) false,.b (a==4) false,.b (a==5) true,.a .own,.p ((0:Int)<=none.getD 0),.p (none.getD 0<=(some b).getD (C.length:Int)),.p ((some b).getD (C.length:Int)<=(C.length:Int))])):
 b9 72 [aM.cur [D.J 1 A,I l,I m] [D.J 1 A,I e,I f]] (aV.vals [.agg [D.J 4 (List.take (((some b).getD (C.length:Int)).toNat-0) (List.drop 0 C)),I j,I k]]):=
 h.b'
theorem aqG(h:ae (BG A f g C i j b c l d e a k m [.b (a==2) false,.b (a==3) false,.b (a==4) false,.b (a==5) false])):
 b9 72 [aM.cur [D.J 1 A,I k,I m] [D.J 1 A,I d,I e]] (aV.vals [.agg (bq C i j)]):=
 h.b'
def A1(A:af)(a b:Int)(C:af)(c d:Int):aF:=bf 29 [(0,aS 1000000000),(3,aG.aC (bl.one (aw 6 5 C))),(4,aU b),(5,aU a)] [(1000000000,[.dt 1000000100 1 A,au c,au d])]
theorem aqH(h:ae [.w A p f g,.k A 36 a0 b6 p f 6 g,.b (decide (e<g)) true,.w A i j d,.k A 36 p f i j 2 d,.v (o+d),.r 68 [ag (o+d),ag 0,ag 2] [ag a],.w A k l b,.w A m n c,.k A 36 i j k l 12 b,.k A 36 k l m n 40 c,.g C [(bj 0 a 0 b c)] 40,.h [(bj 0 a 0 b c)],.u e]):
 aY (ap f118 0) (A1 A e o C a0 b6) .normal (A1 A (e+1) a (C++[(bj 0 a 0 b c)]) m n):=
 h.aT [5,0,4,3] [1000000000]
def Kc(A C:af)(a b:Int):aF:=bf 29 [(0,aS 1000000000),(3,aG.aC (bl.one (aw 6 5 C)))] [(1000000000,[.dt 1000000100 1 A,au a,au b])]
theorem aqI(h:ae [.w A c a b,.k A 36 e f c a 6 b,.b (decide (d<b)) false]):
 aY (ap f118 0) (A1 A d g C e f) (.exit 0) (Kc A C c a):=
 h.aT [3,0] [1000000000]
theorem aqJ(h:ae [.l [] [5,0,4,3] [1000000000] (ap f118 0) (A1 A 0 0 [] a b) (.exit 0) (Kc A C c d)]):
 b9 118 [aM.cur [D.J 1 A,I a,I b] [D.J 1 A,I c,I d]] (aV.vals [aO 5 C]):=
 h.b'
def Kd(A:af)(a c d b:Int):aF:=bf 27 [(0,aS 1000000000),(2,aS 2),(3,aS 3),(4,aS 1000000000),(5,.aC (.one (.J (.own 5) 1 [[I 1],[I 1],[I 1],[I 2],[I 3],[I 3],[I 3],[I 4],[I 4],[I 5],[I 6],[I 6],[I 7]]))),(6,aU a),(7,aS 1000000000),(8,aU b),(9,aG.aC (bl.agg [au a,au b,au 0])),(10,aS 3),(11,aU a),(12,.aC (.one (.bg (a==4)))),(13,.aC (.one (.v (Value.bool true)))),(14,.aC (.one (.v (Value.tuple #[])))),(15,.aC (.one (.v (Value.tuple #[])))),(16,.aC (.one (.v (Value.tuple #[])))),(17,.aC (.one (.v (Value.bool true))))] [(3,[au a,au b,au 0]),(2,[au 0,au 0,au 0]),(1000000000,[.dt 1000000100 1 A,au c,au d])]
def Ke(P:Program)(W:Array Oper)(A:af)(e f g a b c d:Int):aF:=
 nG P W [[],[],[],[],[.dB [some [D.J 1 A,I b,I c],none] (aV.vals [ag d])],[],[],[],[]] (Kd A e f g a)
theorem aqK{A:af}{g c d a e f b:Int}
  (h:cK [aK .i64 (a+1),b3 prog 36 [aM.cur [D.J 1 A,I c,I d] [D.J 1 A,I e,I f],aM.ro (ag 2)] (aV.vals [ag b]),aK .i64 (a+1+b),(3:Int)≠0]):
  ek prog (cU f95 3) (Kd A g c d a) (Ke prog (cU f95 3) A g c d a e f b):=
 .om [0,0,1,0,1,1,1,0,0] h
def ME(A:af)(a b c d e f g i:Int)(l:List O):List O:=.w A a b c::.w A d e f::.p (b3 prog 37 [aM.cur [D.J 1 A,I g,I i] [D.J 1 A,I a,I b],aM.ro (.one (.J 1 [[I 1],[I 1],[I 1],[I 2],[I 3],[I 3],[I 3],[I 4],[I 4],[I 5],[I 6],[I 6],[I 7]]))] (aV.vals [ag c]))::.k A 36 a b d e 3 f::l
theorem aqL(h:ae (ME A i j b c d a k l [.b (b==4) true,.a (.h' (Ke prog (cU f95 3) A b c d a e f g)),.p (ek prog (cU f95 3) (Kd A b c d a) (Ke prog (cU f95 3) A b c d a e f g))])):
 b9 95 [aM.cur [D.J 1 A,I k,I l] [D.J 1 A,I e,I f]] (aV.vals [.agg [I b,I a,I ((a+1+g).tmod 3)]]):=
 h.b'
def Kf(A:af)(a c d b:Int):aF:=bf 27 [(0,aS 1000000000),(2,aS 2),(3,aS 3),(4,aS 1000000000),(5,.aC (.one (.J (.own 5) 1 [[I 1],[I 1],[I 1],[I 2],[I 3],[I 3],[I 3],[I 4],[I 4],[I 5],[I 6],[I 6],[I 7]]))),(6,aU a),(7,aS 1000000000),(8,aU b),(9,aG.aC (bl.agg [au a,au b,au 0])),(10,aS 3),(11,aU a),(12,.aC (.one (.bg (a==4)))),(13,.aC (.one (.v (Value.bool false)))),(14,aS 3),(15,aU a),(16,.aC (.one (.bg (a==5)))),(17,.aC (.one (.bg (a==5))))] [(3,[au a,au b,au 0]),(2,[au 0,au 0,au 0]),(1000000000,[.dt 1000000100 1 A,au c,au d])]
def Kg(P:Program)(W:Array Oper)(A:af)(e f g a b c d:Int):aF:=
 nG P W [[],[],[],[],[.dB [some [D.J 1 A,I b,I c],none] (aV.vals [ag d])],[],[],[],[]] (Kf A e f g a)
theorem aqM{A:af}{g c d a e f b:Int}
  (h:cK [aK .i64 (a+1),b3 prog 36 [aM.cur [D.J 1 A,I c,I d] [D.J 1 A,I e,I f],aM.ro (ag 2)] (aV.vals [ag b]),aK .i64 (a+1+b),(3:Int)≠0]):
  ek prog (cU f95 3) (Kf A g c d a) (Kg prog (cU f95 3) A g c d a e f b):=
 .om [0,0,1,0,1,1,1,0,0] h
theorem aqN(h:ae (ME A i j a c d b k l [.b (a==4) false,.b (a==5) true,.a (.h' (Kg prog (cU f95 3) A a c d b e f g)),.p (ek prog (cU f95 3) (Kf A a c d b) (Kg prog (cU f95 3) A a c d b e f g))])):
 b9 95 [aM.cur [D.J 1 A,I k,I l] [D.J 1 A,I e,I f]] (aV.vals [.agg [I a,I b,I ((b+1+g).tmod 3)]]):=
 h.b'
theorem aqO(h:ae (ME A c d a e f b g i [.b (a==4) false,.b (a==5) false])):
 b9 95 [aM.cur [D.J 1 A,I g,I i] [D.J 1 A,I e,I f]] (aV.vals [.agg [I a,I b,I 0]]):=
 h.b'
def A2(A:af)(a b:Int)(C:af)(c d:Int):aF:=bf 22 [(0,aS 1000000000),(1,aU a),(5,aG.aC (bl.one (aw 7 3 C))),(6,aU b)] [(1000000000,[.dt 1000000100 1 A,au c,au d])]
theorem aqP(h:ae [.w A k f g,.u d,.k A 36 l m k f (d+1) g,.b (decide (e<g)) true,.a (.dB [some [D.J 1 A,I i,I j]] (aV.vals [.agg [I a,I b,I c]])),.p (b3 prog 95 [aM.cur [D.J 1 A,I k,I f] [D.J 1 A,I i,I j]] (aV.vals [.agg [I a,I b,I c]])),.g C [[I a,I b,I c]] 24,.h [[I a,I b,I c]],.u e]):
 aY (ap f66 0) (A2 A d e C l m) .normal (A2 A d (e+1) (C++[[I a,I b,I c]]) i j):=
 h.aT [6,0,1,5] [1000000000]
def Kh(A C:af)(a b:Int):aF:=bf 22 [(0,aS 1000000000),(5,aG.aC (bl.one (aw 7 3 C)))] [(1000000000,[.dt 1000000100 1 A,au a,au b])]
theorem aqQ(h:ae [.w A d a b,.u c,.k A 36 f g d a (c+1) b,.b (decide (e<b)) false]):
 aY (ap f66 0) (A2 A c e C f g) (.exit 0) (Kh A C d a):=
 h.aT [5,0] [1000000000]
theorem aqR(h:ae [.l [] [6,0,1,5] [1000000000] (ap f66 0) (A2 A c 0 [] a b) (.exit 0) (Kh A C d e)]):
 b9 66 [aM.cur [D.J 1 A,I a,I b] [D.J 1 A,I d,I e],aM.ro (ag c)] (aV.vals [aO 3 C]):=
 h.b'
end Go.Proofs.YthfnndblgbjniaaGreatDoor
namespace Go.Proofs.YthfnndblgbjniaaGreatDoor
open Go.Sx Go.RowKit Go.Proofs.Tryz
variable {a b c d e f g i j k l m n o p a0 b6 cS d0 bz f0 i0 : Int} {A C E F G H ah K L M N Q R S a1 V X Y Z c9 : af} {q r : Bool}
theorem aqS(h:ae [.r 138 [.agg (bq A a b)] [ai q],.n q true]):
 al 116 [.agg (bq A a b),aO 5 C] [.agg (a8 [] 0 0 [] [] [] []),ai false]:=
 h.of
theorem aqj(h:ae [.r 138 [.agg (bq A a b)] [ai q],.n q false,.b (decide ((C.length:Int)>20)) true]):
 al 116 [.agg (bq A a b),aO 5 C] [.agg (a8 [] 0 0 [] [] [] []),ai false]:=
 h.of
def qv(A:af)(a b c:Int)(C:af)(d e:Int):aF:=bf 84 [(1,du 5 A),(2,aS 2),(4,aS 4),(6,aU a)] [(4,[.v (aP),au b,au c,.v (aP),.v (aP),.v (aP),.v (aP)]),(2,[.J .free 4 C,au d,au e])]
def ym(q:Bool)(a b:Int):aF:=bf 84 [(4,aS 4),(5,.aC (.one (.bg q)))] [(4,[.v (aP),au a,au b,.v (aP),.v (aP),.v (aP),.v (aP)])]
def FN(A:af)(a b c d e f:Int)(q:Bool)(l:List O):List O:=.i A a (bj b c d e f)::.r 167 [.agg (bj b c d e f)] [ai q]::l
theorem aqk(h:ae (FN A f a b c d e q [.n q true])):
 aY (ap f116 0) (qv A f i j C k g) .ret (ym false 0 0):=
 h.aT [4,5] [4]
theorem aql(h:ae (FN A a b c d e f q [.n q false,.x A a (bj g j k l m),.b (g != 0) true])):
 aY (ap f116 0) (qv A a n o C p i) .ret (ym false 0 0):=
 h.aT [4,5] [4]
theorem aqm(h:ae (FN A a b c d e f q [.n q false,.x A a (bj g k l m n),.b (g != 0) false,.x A a (bj o p i a0 b6),.b (i != 0) true])):
 aY (ap f116 0) (qv A a cS d0 C bz j) .ret (ym false 0 0):=
 h.aT [4,5] [4]
theorem aqn(h:ae (FN A a c d e f g q [.n q false,.x A a (bj i n o p a0),.b (i != 0) false,.x A a (bj b6 cS j d0 bz),.b (j != 0) false,.u a])):
 aY (ap f116 0) (qv A a k l C m b) .normal (qv A (a+1) k l C m b):=
 h.aT [6,1,4,2] [4,2]
def Ki(A:af)(a b:Int)(C:af)(c d:Int):aF:=bf 84 [(1,du 5 A),(2,aS 2),(4,aS 4)] [(4,[.v (aP),au a,au b,.v (aP),.v (aP),.v (aP),.v (aP)]),(2,[.J .free 4 C,au c,au d])]
theorem aqo(h:ae [.f A b false]):
 aY (ap f116 0) (qv A b c d C e a) (.exit 0) (Ki A c d C e a):=
 h.aT [2,1,4] [4,2]
theorem aqp(h:ae [.r 138 [.agg (bq A a b)] [ai q],.n q false,.b (decide ((C.length:Int)>20)) false,.l [] [6,1,4,2] [4,2] (ap f116 0) (qv C 0 0 0 A a b) .ret (ym r c d)]):
 al 116 [.agg (bq A a b),aO 5 C] [.agg (a8 [] c d [] [] [] []),ai r]:=
 h.of
def yn(A:af)(a:Int)(E:af)(d e:Int)(F G H:af)(f g:Int)(C:af)(b c:Int):aF:=bf 84 [(1,du 5 A),(2,aS 2),(4,aS 4),(7,aS 7),(8,aU a)] [(7,[aw 510000 4 E,au d,au e,aw 67 8 F,aw 81 6 G,aw 51 5 H,.v (aP)]),(4,[.v (aP),au f,au g,.v (aP),.v (aP),.v (aP),.v (aP)]),(2,[.J .free 4 C,au b,au c])]
def A3(A:af)(a e:Int)(E:af)(f g:Int)(F G H:af)(i b:Int)(C:af)(c d:Int):aF:=bf 84 [(1,du 5 A),(2,aS 2),(4,aS 4),(7,aS 7),(8,aU a),(9,aU e)] [(7,[aw 510000 4 E,au f,au g,aw 67 8 F,aw 81 6 G,aw 51 5 H,.v (aP)]),(4,[.v (aP),au i,au b,.v (aP),.v (aP),.v (aP),.v (aP)]),(2,[.J .free 4 C,au c,au d])]
theorem aqq(h:ae [.b (decide (a<b)) true,.r 170 [ag c] [.agg (bT d C e f g i)],.a .wr,.g A [(bT d C e f g i)] 64,.u a]):
 aY (ap f116 2) (A3 E j a F k l G A H m n ah b c) .normal (A3 E j (a+1) F k l G (A++[(bT d C e f g i)]) H m n ah b c):=
 h.aT [9,2,7,8,1,4] [7,4,2]
def Ra(A:af)(a:Int)(E:af)(d e:Int)(F G H:af)(f g:Int)(C:af)(b c:Int):aF:=bf 84 [(1,du 5 A),(2,aS 2),(4,aS 4),(7,aS 7),(8,aU a)] [(7,[aw 510000 4 E,au d,au e,aw 67 8 F,aw 81 6 G,aw 51 5 H,.v (aP)]),(4,[.v (aP),au f,au g,.v (aP),.v (aP),.v (aP),.v (aP)]),(2,[.J .free 4 C,au b,au c])]
theorem aqr(h:ae [.b (decide (c<a)) false]):
 aY (ap f116 2) (A3 A b c C d e E F G f g H a i) (.exit 4) (Ra A b C d e E F G f g H a i):=
 h.aT [8,2,7,1,4] [7,4,2]
theorem aqs(h:ae [.b (decide (a<b)) true,.r 169 [.agg (bq E b c),aO 5 A,ag a] [aO 5 a1],.r 168 [aO 5 a1] [.agg (aX F G H ah K L M N)],.a .wr,.g C [(aX F G H ah K L M N)] 192,.l [] [9,2,7,8,1,4] [7,4,2] (ap f116 2) (A3 A a 0 Q d e (C++[(aX F G H ah K L M N)]) R S f g E b c) (.exit 4) (Ra A a V i j X Y Z k l c9 m n),.u a]):
 aY (ap f116 1) (yn A a Q d e C R S f g E b c) .normal (yn A (a+1) V i j X Y Z k l c9 m n):=
 h.aT [8,2,7,1,4] [7,4,2]
def Kj(A:af)(a b:Int)(C E F:af)(c d:Int):aF:=bf 84 [(4,aS 4),(7,aS 7)] [(7,[aw 510000 4 A,au a,au b,aw 67 8 C,aw 81 6 E,aw 51 5 F,.v (aP)]),(4,[.v (aP),au c,au d,.v (aP),.v (aP),.v (aP),.v (aP)])]
theorem arW(h:ae [.b (decide (a<f)) false]):
 aY (ap f116 1) (yn H a A b c C E F d e G f g) (.exit 2) (Kj A b c C E F d e):=
 h.aT [7,4] [7,4]
theorem arX(h:ae [.r 138 [.agg (bq C a b)] [ai q],.n q false,.b (decide ((A.length:Int)>20)) false,.l [] [6,1,4,2] [4,2] (ap f116 0) (qv A 0 0 0 C a b) (.exit 0) (Ki A j k E c d),.r 135 [.agg (bq E c d)] [.agg (bq F e f)],.p ((0:Int)<=4),.p ((4:Int)<=4),.p (((↑32:Int)*4:Int)<=281474976710656),.p ((4:Int)<=9223372036854775807),.l [(8000003,67,8),(8000004,81,6)] [8,2,7,1,4] [7,4,2] (ap f116 1) (yn A 0 F e f [] [] (List.replicate 4 [B false,I 0,I 0,B false,B false]) j k E c d) (.exit 2) (Kj G g i H ah K l m)]):
 al 116 [.agg (bq C a b),aO 5 A] [.agg (a8 G g i H ah K []),ai true]:=
 h.of
def A4(A:af)(a b:Int)(C:af)(c d:Int)(E:af):aF:=bf 49 [(1,du 5 C),(2,aU c),(3,aS 3),(7,aG.aC (bl.one (aw 10 5 E))),(8,aU d)] [(3,[.J .free 4 A,au a,au b])]
def sZ(A:af)(a b:Int)(C:af)(c d e:Int)(E:af):aF:=bf 49 [(1,du 5 C),(2,aU c),(3,aS 3),(7,aG.aC (bl.one (aw 10 5 E))),(8,aU d),(9,aU e)] [(3,[.J .free 4 A,au a,au b])]
theorem arY(h:ae [.i A a (bj f0 k o p a0),.b (k==j) true,.x A a (bj b6 cS d0 l bz),.r 158 [ag l,ag g] [ag m],.b (m==i) true,.x A a (bj b c d e f),.g C [(bj b c d e f)] 40,.h [(bj b c d e f)],.u a]):
 aY (ap f169 1) (sZ E g n A i j a C) .normal (sZ E g n A i j (a+1) (C++[(bj b c d e f)])):=
 h.aT [9,1,8,3,2,7] [3]
theorem arZ(h:ae [.i A a (bj a0 e j k l),.b (e==d) true,.x A a (bj m n o f p),.r 158 [ag f,ag b] [ag g],.b (g==c) false,.u a]):
 aY (ap f169 1) (sZ C b i A c d a E) .normal (sZ C b i A c d (a+1) E):=
 h.aT [9,1,8,3,2,7] [3]
theorem ar0(h:ae [.i A a (bj k d g i j),.b (d==b) false,.u a]):
 aY (ap f169 1) (sZ C c e A f b a E) .normal (sZ C c e A f b (a+1) E):=
 h.aT [9,1,8,3,2,7] [3]
def Rb(A:af)(a b:Int)(C:af)(c d:Int)(E:af):aF:=bf 49 [(1,du 5 C),(2,aU c),(3,aS 3),(7,aG.aC (bl.one (aw 10 5 E))),(8,aU d)] [(3,[.J .free 4 A,au a,au b])]
theorem ar1(h:ae [.f A e false]):
 aY (ap f169 1) (sZ C a b A c d e E) (.exit 2) (Rb C a b A c d E):=
 h.aT [8,1,3,2,7] [3]
theorem ar2(h:ae [.b (decide (a<=3)) true,.l [] [9,1,8,3,2,7] [3] (ap f169 1) (sZ A b c C d a 0 E) (.exit 2) (Rb A b c C d a F),.u a]):
 aY (ap f169 0) (A4 A b c C d a E) .normal (A4 A b c C d (a+1) F):=
 h.aT [8,1,3,2,7] [3]
def Rc(A:af):aF:=bf 49 [(7,aG.aC (bl.one (aw 10 5 A)))] []
theorem ar3(h:ae [.b (decide (a<=3)) false]):
 aY (ap f169 0) (A4 C b c E d a A) (.exit 0) (Rc A):=
 h.aT [7] []
theorem ar4(h:ae [.l [] [8,1,3,2,7] [3] (ap f169 0) (A4 A a b C c 0 []) (.exit 0) (Rc E)]):
 al 169 [.agg (bq A a b),aO 5 C,ag c] [aO 5 E]:=
 h.of
theorem ar5(h:ae [.r 68 [ag b,ag 1,ag 4] [ag a]]):
 al 170 [ag b] [.agg (bT a [] a 0 0 0)]:=
 h.of
theorem ar6(h:ae [.g ([]:af) A 40,.h A,.p ((0:Int)<=4),.p ((4:Int)<=4),.p (((↑8:Int)*4:Int)<=281474976710656),.p ((4:Int)<=9223372036854775807),.p ((0:Int)<=4),.p ((4:Int)<=4),.p (((↑1:Int)*4:Int)<=281474976710656),.p ((4:Int)<=9223372036854775807),.p ((0:Int)<=4),.p ((4:Int)<=4),.p (((↑1:Int)*4:Int)<=281474976710656),.p ((4:Int)<=9223372036854775807)]):
 al 168 [aO 5 A] [.agg (aX [] [] ([]++A) [] (List.replicate 4 [I 0]) (List.replicate 4 [B false]) (List.replicate 4 [B false]) [])]:=
 h.of
