import Derived.Test.YtdchjefneblpgaaGreatGE
set_option linter.unusedVariables false
set_option linter.unusedSimpArgs false
namespace Go.Proofs.YtdchjefneblpgaaGreat
open Go.Sx Go.RowKit Go.Proofs.Tryz
variable {a b c d e f g i j k l m n o p a0 ck dT d0 cc f0 i0 : Int} {A C : ak} {q : Bool}
def zS(A:ak)(a b:Int):aG:=bp 32 [(0,.bd (.one (.gb 1000000100 1 A))),(3,bf b),(4,bf a)] []
theorem ajX(h:ah [.f A a true,.b (decide (a<4000)) true,.v (b*131),.x A a [D.v (Value.int IntKind.u8 c)],.a (.pq (bf d)),.v c,.v (b*131+c),.v (b*131+c+7),.p (mZ prog BinOp.and 3 (Operand.tmp 26) (Operand.const (Value.int IntKind.i64 1073741823)) (Value.int IntKind.i64 (b*131+c+7)) (Value.int IntKind.i64 1073741823) (Value.int IntKind.i64 d)),.u a]):
 aY (av f117 0) (zS A a b) .normal (zS A (a+1) d):=
 h.aR [4,0,3] []
def Gu(A:ak)(a:Int):aG:=bp 32 [(0,.bd (.one (.gb 1000000100 1 A))),(3,bf a)] []
theorem ajY(h:ah [.f A a true,.b (decide (a<4000)) false]):
 aY (av f117 0) (zS A a b) (.exit 0) (Gu A b):=
 h.aR [0,3] []
theorem ajZ(h:ah [.f A a false]):
 aY (av f117 0) (zS A a b) (.exit 0) (Gu A b):=
 h.aR [0,3] []
theorem aj0(h:ah [.v (94701+(A.length:Int)),.l [] [4,0,3] [] (av f117 0) (zS A 0 (94701+(A.length:Int))) (.exit 0) (Gu A a)]):
 dd 117 [bc.ro (aS 1 A)] (bG.kf [some 0,none,none] [D.J 1 A,I 0,I a]):=
 h.dg
def Wl(a b c d e:Int)(l:List O):List O:=.a .wr::.a .wr::.a (.pq (bf a))::.a (.pq (bf b))::.a (.pq (bf c))::.a (.pq (bf d))::.p (mZ prog BinOp.shr 3 (Operand.tmp 16) (Operand.const (Value.int IntKind.u64 33)) (Value.int IntKind.i64 (IntKind.i64.wrap (IntKind.i64.wrap (e*6364136223846793005)+1442695040888963407))) (Value.int IntKind.u64 33) (Value.int IntKind.i64 a))::.p (mZ prog BinOp.shr 3 (Operand.tmp 21) (Operand.const (Value.int IntKind.u64 45)) (Value.int IntKind.i64 (IntKind.i64.wrap (IntKind.i64.wrap (e*6364136223846793005)+1442695040888963407))) (Value.int IntKind.u64 45) (Value.int IntKind.i64 b))::.p (mZ prog BinOp.xor 3 (Operand.tmp 17) (Operand.tmp 22) (Value.int IntKind.i64 a) (Value.int IntKind.i64 b) (Value.int IntKind.i64 c))::.p (mZ prog BinOp.and 3 (Operand.tmp 23) (Operand.const (Value.int IntKind.i64 255)) (Value.int IntKind.i64 c) (Value.int IntKind.i64 255) (Value.int IntKind.i64 d))::l
theorem aj1(h:ah (Wl c d e f b [.i A a [D.v (Value.int IntKind.u8 i)],.a .wr,.a .wr,.a (.pq (bf g)),.p (mZ prog BinOp.and 3 (Operand.tmp 47) (Operand.const (Value.int IntKind.i64 255)) (Value.int IntKind.i64 (IntKind.i64.wrap (f+IntKind.i64.wrap i))) (Value.int IntKind.i64 255) (Value.int IntKind.i64 g)),.u a])):
 dd 253 [bc.cur [D.J 1 A,I a,I b] [D.J 1 A,I (a+1),I (IntKind.i64.wrap (IntKind.i64.wrap (b*6364136223846793005)+1442695040888963407))]] (bG.vals [ag g]):=
 h.dg
theorem aj2(h:ah (Wl c d e f a [.f A b false])):
 dd 253 [bc.cur [D.J 1 A,I b,I a] [D.J 1 A,I b,I (IntKind.i64.wrap (IntKind.i64.wrap (a*6364136223846793005)+1442695040888963407))]] (bG.vals [ag f]):=
 h.dg
theorem aj3(h:ah [.b (decide (a<=0)) false,.b (decide (a<=256)) true,.a (.hd [some [D.J 1 A,I b,I c]] (bG.vals [ag d])),.p (dC prog 253 [bc.cur [D.J 1 A,I e,I f] [D.J 1 A,I b,I c]] (bG.vals [ag d])),.p (a≠0)]):
 dd 138 [bc.cur [D.J 1 A,I e,I f] [D.J 1 A,I b,I c],bc.ro (ag a)] (bG.vals [ag (d.tmod a)]):=
 h.dg
theorem aj4(h:ah [.b (decide (d<=0)) false,.b (decide (d<=256)) false,.a (.hd [some [D.J 1 A,I l,I m]] (bG.vals [ag b])),.a (.hd [some [D.J 1 A,I n,I f]] (bG.vals [ag a])),.a (.hd [some [D.J 1 A,I g,I i]] (bG.vals [ag c])),.a (.hd [some [D.J 1 A,I j,I k]] (bG.vals [ag e])),.p (dC prog 253 [bc.cur [D.J 1 A,I o,I p] [D.J 1 A,I l,I m]] (bG.vals [ag b])),.p (dC prog 253 [bc.cur [D.J 1 A,I l,I m] [D.J 1 A,I n,I f]] (bG.vals [ag a])),.p (dC prog 253 [bc.cur [D.J 1 A,I n,I f] [D.J 1 A,I g,I i]] (bG.vals [ag c])),.p (dC prog 253 [bc.cur [D.J 1 A,I g,I i] [D.J 1 A,I j,I k]] (bG.vals [ag e])),.v (b*16777216),.v (a*65536),.v (b*16777216+a*65536),.v (c*256),.v (b*16777216+a*65536+c*256),.v (b*16777216+a*65536+c*256+e),.p (d≠0)]):
 dd 138 [bc.cur [D.J 1 A,I o,I p] [D.J 1 A,I j,I k],bc.ro (ag d)] (bG.vals [ag ((b*16777216+a*65536+c*256+e).tmod d)]):=
 h.dg
theorem aj5(h:ah [.w A a b c,.k A 138 d e a b f c]):
 dd 136 [bc.cur [D.J 1 A,I d,I e] [D.J 1 A,I a,I b],bc.ro (ag f)] (bG.vals [al (c==0)]):=
 h.dg
theorem aj6(h:ah [.w A a b c,.k A 138 d e a b (C.length:Int) c,.x C c [I f]]):
 dd 140 [bc.cur [D.J 1 A,I d,I e] [D.J 1 A,I a,I b],bc.ro (aS 1 C)] (bG.vals [ag f]):=
 h.dg
def Wm(A:ak)(a b c d e f g i:Int)(q:Bool)(j k:Int)(l:List O):List O:=.w A a b c::.w A d e f::.y A g i q::.k A 138 j k a b 3 c::.v (1+c)::.k A 138 a b d e 3 f::.v (1+f)::.m A 136 d e g i 3 q::l
def CV(A:ak)(a b c d e f g i:Int)(q:Bool)(j k m n o p eZ eU c1 d1 e1 f1 g1 i1:Int)(l:List O):List O:=Wm A a b c d e f g i q j k (.b q true::.w A m n o::.w A p eZ eU::.w A c1 d1 e1::.w A f1 g1 i1::.k A 138 g i m n 3 o::.v (1+o)::.k A 138 m n p eZ 4 eU::.k A 138 p eZ c1 d1 3 e1::.v (1+e1)::.k A 138 c1 d1 f1 g1 6 i1::l)
theorem aj7{A:ak}{f0 i0 ck dT e d0 cc c f g:Int}{q:Bool}{i j a k l b m n d o p a0:Int}{d31 d32 d33 d34:D}(h:ah (CV A ck dT e d0 cc c f g q f0 i0 i j a k l b m n d o p a0 [.b (a0==0) true,.p ((0:Int)<=3),.p (3<(↑[[I 1,I 0,I 0,D.J 1 [[I 1]]],[I 6,I 0,I 0,D.J 1 [[I 2],[I 5]]],[I 4,I (1+a),I 0,D.J 1 [[I 3]]],[I 2,I b,I 0,D.J 1 [[I 4]]],[I 7,I 0,I 0,D.J 1 [[I 1]]],[I 8,I 0,I 0,D.v (a8)]].length:Int)),.e [[I 1,I 0,I 0,D.J 1 [[I 1]]],[I 6,I 0,I 0,D.J 1 [[I 2],[I 5]]],[I 4,I (1+a),I 0,D.J 1 [[I 3]]],[I 2,I b,I 0,D.J 1 [[I 4]]],[I 7,I 0,I 0,D.J 1 [[I 1]]],[I 8,I 0,I 0,D.v (a8)]] 3 [d31,d32,d33,d34]])):
 dd 118 [bc.cur [D.J 1 A,I f0,I i0] [D.J 1 A,I o,I p]] (bG.vals [.agg (bP ([[I 1,I 0,I 0,D.J 1 [[I 1]]],[I 6,I 0,I 0,D.J 1 [[I 2],[I 5]]],[I 4,I (1+a),I 0,D.J 1 [[I 3]]],[I 2,I b,I 0,D.J 1 [[I 4]]],[I 7,I 0,I 0,D.J 1 [[I 1]]],[I 8,I 0,I 0,D.v (a8)]].set 3 [I 3,I (1+d),I 0,D.J 1 [[I 4]]]) (1+e) (1+c))]):=
 h.dg
theorem aj8{A:ak}{f0 i0 ck dT e d0 cc c f g:Int}{q:Bool}{i j a k l b m n o p a0 d:Int}{d31 d32 d33 d34:D}(h:ah (CV A ck dT e d0 cc c f g q f0 i0 i j a k l b m n o p a0 d [.b (d==0) false,.b (d==1) true,.p ((0:Int)<=4),.p (4<(↑[[I 1,I 0,I 0,D.J 1 [[I 1]]],[I 6,I 0,I 0,D.J 1 [[I 2],[I 5]]],[I 4,I (1+a),I 0,D.J 1 [[I 3]]],[I 2,I b,I 0,D.J 1 [[I 4]]],[I 7,I 0,I 0,D.J 1 [[I 1]]],[I 8,I 0,I 0,D.v (a8)]].length:Int)),.e [[I 1,I 0,I 0,D.J 1 [[I 1]]],[I 6,I 0,I 0,D.J 1 [[I 2],[I 5]]],[I 4,I (1+a),I 0,D.J 1 [[I 3]]],[I 2,I b,I 0,D.J 1 [[I 4]]],[I 7,I 0,I 0,D.J 1 [[I 1]]],[I 8,I 0,I 0,D.v (a8)]] 4 [d31,d32,d33,d34]])):
 dd 118 [bc.cur [D.J 1 A,I f0,I i0] [D.J 1 A,I p,I a0]] (bG.vals [.agg (bP ([[I 1,I 0,I 0,D.J 1 [[I 1]]],[I 6,I 0,I 0,D.J 1 [[I 2],[I 5]]],[I 4,I (1+a),I 0,D.J 1 [[I 3]]],[I 2,I b,I 0,D.J 1 [[I 4]]],[I 7,I 0,I 0,D.J 1 [[I 1]]],[I 8,I 0,I 0,D.v (a8)]].set 4 [I 8,I 0,I 0,D.v (a8)]) (1+e) (1+c))]):=
 h.dg
theorem aj9{A:ak}{f0 i0 ck dT e d0 cc d f g:Int}{q:Bool}{i j a k l b m n o p a0 c:Int}{d31 d32 d33 d34:D}(h:ah (CV A ck dT e d0 cc d f g q f0 i0 i j a k l b m n o p a0 c [.b (c==0) false,.b (c==1) false,.b (c==2) true,.p ((0:Int)<=2),.p (2<(↑[[I 1,I 0,I 0,D.J 1 [[I 1]]],[I 6,I 0,I 0,D.J 1 [[I 2],[I 5]]],[I 4,I (1+a),I 0,D.J 1 [[I 3]]],[I 2,I b,I 0,D.J 1 [[I 4]]],[I 7,I 0,I 0,D.J 1 [[I 1]]],[I 8,I 0,I 0,D.v (a8)]].length:Int)),.e [[I 1,I 0,I 0,D.J 1 [[I 1]]],[I 6,I 0,I 0,D.J 1 [[I 2],[I 5]]],[I 4,I (1+a),I 0,D.J 1 [[I 3]]],[I 2,I b,I 0,D.J 1 [[I 4]]],[I 7,I 0,I 0,D.J 1 [[I 1]]],[I 8,I 0,I 0,D.v (a8)]] 2 [d31,d32,d33,d34]])):
 dd 118 [bc.cur [D.J 1 A,I f0,I i0] [D.J 1 A,I p,I a0]] (bG.vals [.agg (bP ([[I 1,I 0,I 0,D.J 1 [[I 1]]],[I 6,I 0,I 0,D.J 1 [[I 2],[I 5]]],[I 4,I (1+a),I 0,D.J 1 [[I 3]]],[I 2,I b,I 0,D.J 1 [[I 4]]],[I 7,I 0,I 0,D.J 1 [[I 1]]],[I 8,I 0,I 0,D.v (a8)]].set 2 [d31,d32,d33,D.J 1 [[I 3],[I 4]]]) (1+e) (1+d))]):=
 h.dg
theorem aka{A:ak}{f0 i0 ck dT e d0 cc d f g:Int}{q:Bool}{i j a k l b m n o p a0 c:Int}{d31 d32 d33 d34:D}(h:ah (CV A ck dT e d0 cc d f g q f0 i0 i j a k l b m n o p a0 c [.b (c==0) false,.b (c==1) false,.b (c==2) false,.b (c==3) true,.a .wr,.p (([[I 1,I 0,I 0,D.J 1 [[I 1]]],[I 6,I 0,I 0,D.J 1 [[I 2],[I 5]]],[I 4,I (1+a),I 0,D.J 1 [[I 3]]],[I 2,I b,I 0,D.J 1 [[I 4]]],[I 7,I 0,I 0,D.J 1 [[I 1]]],[I 8,I 0,I 0,D.v (a8)]].length+[[I 8,I 0,I 0,D.v (a8)]].length)*48<=140737488355328),.p ([[I 1,I 0,I 0,D.J 1 [[I 1]]],[I 6,I 0,I 0,D.J 1 [[I 2],[I 5]]],[I 4,I (1+a),I 0,D.J 1 [[I 3]]],[I 2,I b,I 0,D.J 1 [[I 4]]],[I 7,I 0,I 0,D.J 1 [[I 1]]],[I 8,I 0,I 0,D.v (a8)]].length+[[I 8,I 0,I 0,D.v (a8)]].length<=9223372036854775807),.p ((0:Int)<=0),.p (0<(↑([[I 1,I 0,I 0,D.J 1 [[I 1]]],[I 6,I 0,I 0,D.J 1 [[I 2],[I 5]]],[I 4,I (1+a),I 0,D.J 1 [[I 3]]],[I 2,I b,I 0,D.J 1 [[I 4]]],[I 7,I 0,I 0,D.J 1 [[I 1]]],[I 8,I 0,I 0,D.v (a8)]]++[[I 8,I 0,I 0,D.v (a8)]]).length:Int)),.e ([[I 1,I 0,I 0,D.J 1 [[I 1]]],[I 6,I 0,I 0,D.J 1 [[I 2],[I 5]]],[I 4,I (1+a),I 0,D.J 1 [[I 3]]],[I 2,I b,I 0,D.J 1 [[I 4]]],[I 7,I 0,I 0,D.J 1 [[I 1]]],[I 8,I 0,I 0,D.v (a8)]]++[[I 8,I 0,I 0,D.v (a8)]]) 0 [d31,d32,d33,d34]])):
 dd 118 [bc.cur [D.J 1 A,I f0,I i0] [D.J 1 A,I p,I a0]] (bG.vals [.agg (bP (([[I 1,I 0,I 0,D.J 1 [[I 1]]],[I 6,I 0,I 0,D.J 1 [[I 2],[I 5]]],[I 4,I (1+a),I 0,D.J 1 [[I 3]]],[I 2,I b,I 0,D.J 1 [[I 4]]],[I 7,I 0,I 0,D.J 1 [[I 1]]],[I 8,I 0,I 0,D.v (a8)]]++[[I 8,I 0,I 0,D.v (a8)]]).set 0 [d31,d32,d33,D.J 1 [[I 1],[I 6]]]) (1+e) (1+d))]):=
 h.dg
theorem akb(h:ah (CV A ck dT d d0 cc b e f q f0 i0 g i c j k l m n o p a0 a [.b (a==0) false,.b (a==1) false,.b (a==2) false,.b (a==3) false])):
 dd 118 [bc.cur [D.J 1 A,I f0,I i0] [D.J 1 A,I p,I a0]] (bG.vals [.agg [D.J 4 [[I 1,I 0,I 0,D.J 1 [[I 1]]],[I 6,I 0,I 0,D.J 1 [[I 2],[I 5]]],[I 4,I (1+c),I 0,D.J 1 [[I 3]]],[I 2,I l,I 0,D.J 1 [[I 4]]],[I 7,I 0,I 0,D.J 1 [[I 1]]],[I 8,I 0,I 0,D.v (a8)]],I (1+d),I (1+b)]]):=
 h.dg
def CW(A:ak)(a b c d e f g i:Int)(q:Bool)(j k m n o p eZ eU c1 d1 e1 f1 g1 i1:Int)(l:List O):List O:=Wm A a b c d e f g i q j k (.b q false::.w A m n o::.w A p eZ eU::.w A c1 d1 e1::.w A f1 g1 i1::.k A 138 g i m n 3 o::.v (1+o)::.k A 138 m n p eZ 4 eU::.k A 138 p eZ c1 d1 3 e1::.v (1+e1)::.k A 138 c1 d1 f1 g1 6 i1::l)
theorem akc{A:ak}{f0 i0 ck dT e d0 cc c f g:Int}{q:Bool}{i j a k l b m n d o p a0:Int}{d31 d32 d33 d34:D}(h:ah (CW A ck dT e d0 cc c f g q f0 i0 i j a k l b m n d o p a0 [.b (a0==0) true,.p ((0:Int)<=3),.p (3<(↑[[I 1,I 0,I 0,D.J 1 [[I 1]]],[I 5,I 0,I 0,D.J 1 [[I 2],[I 5]]],[I 4,I (1+a),I 0,D.J 1 [[I 3]]],[I 2,I b,I 0,D.J 1 [[I 4]]],[I 7,I 0,I 0,D.J 1 [[I 1]]],[I 8,I 0,I 0,D.v (a8)]].length:Int)),.e [[I 1,I 0,I 0,D.J 1 [[I 1]]],[I 5,I 0,I 0,D.J 1 [[I 2],[I 5]]],[I 4,I (1+a),I 0,D.J 1 [[I 3]]],[I 2,I b,I 0,D.J 1 [[I 4]]],[I 7,I 0,I 0,D.J 1 [[I 1]]],[I 8,I 0,I 0,D.v (a8)]] 3 [d31,d32,d33,d34]])):
 dd 118 [bc.cur [D.J 1 A,I f0,I i0] [D.J 1 A,I o,I p]] (bG.vals [.agg (bP ([[I 1,I 0,I 0,D.J 1 [[I 1]]],[I 5,I 0,I 0,D.J 1 [[I 2],[I 5]]],[I 4,I (1+a),I 0,D.J 1 [[I 3]]],[I 2,I b,I 0,D.J 1 [[I 4]]],[I 7,I 0,I 0,D.J 1 [[I 1]]],[I 8,I 0,I 0,D.v (a8)]].set 3 [I 3,I (1+d),I 0,D.J 1 [[I 4]]]) (1+e) (1+c))]):=
 h.dg
theorem akd{A:ak}{f0 i0 ck dT e d0 cc c f g:Int}{q:Bool}{i j a k l b m n o p a0 d:Int}{d31 d32 d33 d34:D}(h:ah (CW A ck dT e d0 cc c f g q f0 i0 i j a k l b m n o p a0 d [.b (d==0) false,.b (d==1) true,.p ((0:Int)<=4),.p (4<(↑[[I 1,I 0,I 0,D.J 1 [[I 1]]],[I 5,I 0,I 0,D.J 1 [[I 2],[I 5]]],[I 4,I (1+a),I 0,D.J 1 [[I 3]]],[I 2,I b,I 0,D.J 1 [[I 4]]],[I 7,I 0,I 0,D.J 1 [[I 1]]],[I 8,I 0,I 0,D.v (a8)]].length:Int)),.e [[I 1,I 0,I 0,D.J 1 [[I 1]]],[I 5,I 0,I 0,D.J 1 [[I 2],[I 5]]],[I 4,I (1+a),I 0,D.J 1 [[I 3]]],[I 2,I b,I 0,D.J 1 [[I 4]]],[I 7,I 0,I 0,D.J 1 [[I 1]]],[I 8,I 0,I 0,D.v (a8)]] 4 [d31,d32,d33,d34]])):
 dd 118 [bc.cur [D.J 1 A,I f0,I i0] [D.J 1 A,I p,I a0]] (bG.vals [.agg (bP ([[I 1,I 0,I 0,D.J 1 [[I 1]]],[I 5,I 0,I 0,D.J 1 [[I 2],[I 5]]],[I 4,I (1+a),I 0,D.J 1 [[I 3]]],[I 2,I b,I 0,D.J 1 [[I 4]]],[I 7,I 0,I 0,D.J 1 [[I 1]]],[I 8,I 0,I 0,D.v (a8)]].set 4 [I 8,I 0,I 0,D.v (a8)]) (1+e) (1+c))]):=
 h.dg
theorem ake{A:ak}{f0 i0 ck dT e d0 cc d f g:Int}{q:Bool}{i j a k l b m n o p a0 c:Int}{d31 d32 d33 d34:D}(h:ah (CW A ck dT e d0 cc d f g q f0 i0 i j a k l b m n o p a0 c [.b (c==0) false,.b (c==1) false,.b (c==2) true,.p ((0:Int)<=2),.p (2<(↑[[I 1,I 0,I 0,D.J 1 [[I 1]]],[I 5,I 0,I 0,D.J 1 [[I 2],[I 5]]],[I 4,I (1+a),I 0,D.J 1 [[I 3]]],[I 2,I b,I 0,D.J 1 [[I 4]]],[I 7,I 0,I 0,D.J 1 [[I 1]]],[I 8,I 0,I 0,D.v (a8)]].length:Int)),.e [[I 1,I 0,I 0,D.J 1 [[I 1]]],[I 5,I 0,I 0,D.J 1 [[I 2],[I 5]]],[I 4,I (1+a),I 0,D.J 1 [[I 3]]],[I 2,I b,I 0,D.J 1 [[I 4]]],[I 7,I 0,I 0,D.J 1 [[I 1]]],[I 8,I 0,I 0,D.v (a8)]] 2 [d31,d32,d33,d34]])):
 dd 118 [bc.cur [D.J 1 A,I f0,I i0] [D.J 1 A,I p,I a0]] (bG.vals [.agg (bP ([[I 1,I 0,I 0,D.J 1 [[I 1]]],[I 5,I 0,I 0,D.J 1 [[I 2],[I 5]]],[I 4,I (1+a),I 0,D.J 1 [[I 3]]],[I 2,I b,I 0,D.J 1 [[I 4]]],[I 7,I 0,I 0,D.J 1 [[I 1]]],[I 8,I 0,I 0,D.v (a8)]].set 2 [d31,d32,d33,D.J 1 [[I 3],[I 4]]]) (1+e) (1+d))]):=
 h.dg
theorem akf{A:ak}{f0 i0 ck dT e d0 cc d f g:Int}{q:Bool}{i j a k l b m n o p a0 c:Int}{d31 d32 d33 d34:D}(h:ah (CW A ck dT e d0 cc d f g q f0 i0 i j a k l b m n o p a0 c [.b (c==0) false,.b (c==1) false,.b (c==2) false,.b (c==3) true,.a .wr,.p (([[I 1,I 0,I 0,D.J 1 [[I 1]]],[I 5,I 0,I 0,D.J 1 [[I 2],[I 5]]],[I 4,I (1+a),I 0,D.J 1 [[I 3]]],[I 2,I b,I 0,D.J 1 [[I 4]]],[I 7,I 0,I 0,D.J 1 [[I 1]]],[I 8,I 0,I 0,D.v (a8)]].length+[[I 8,I 0,I 0,D.v (a8)]].length)*48<=140737488355328),.p ([[I 1,I 0,I 0,D.J 1 [[I 1]]],[I 5,I 0,I 0,D.J 1 [[I 2],[I 5]]],[I 4,I (1+a),I 0,D.J 1 [[I 3]]],[I 2,I b,I 0,D.J 1 [[I 4]]],[I 7,I 0,I 0,D.J 1 [[I 1]]],[I 8,I 0,I 0,D.v (a8)]].length+[[I 8,I 0,I 0,D.v (a8)]].length<=9223372036854775807),.p ((0:Int)<=0),.p (0<(↑([[I 1,I 0,I 0,D.J 1 [[I 1]]],[I 5,I 0,I 0,D.J 1 [[I 2],[I 5]]],[I 4,I (1+a),I 0,D.J 1 [[I 3]]],[I 2,I b,I 0,D.J 1 [[I 4]]],[I 7,I 0,I 0,D.J 1 [[I 1]]],[I 8,I 0,I 0,D.v (a8)]]++[[I 8,I 0,I 0,D.v (a8)]]).length:Int)),.e ([[I 1,I 0,I 0,D.J 1 [[I 1]]],[I 5,I 0,I 0,D.J 1 [[I 2],[I 5]]],[I 4,I (1+a),I 0,D.J 1 [[I 3]]],[I 2,I b,I 0,D.J 1 [[I 4]]],[I 7,I 0,I 0,D.J 1 [[I 1]]],[I 8,I 0,I 0,D.v (a8)]]++[[I 8,I 0,I 0,D.v (a8)]]) 0 [d31,d32,d33,d34]])):
 dd 118 [bc.cur [D.J 1 A,I f0,I i0] [D.J 1 A,I p,I a0]] (bG.vals [.agg (bP (([[I 1,I 0,I 0,D.J 1 [[I 1]]],[I 5,I 0,I 0,D.J 1 [[I 2],[I 5]]],[I 4,I (1+a),I 0,D.J 1 [[I 3]]],[I 2,I b,I 0,D.J 1 [[I 4]]],[I 7,I 0,I 0,D.J 1 [[I 1]]],[I 8,I 0,I 0,D.v (a8)]]++[[I 8,I 0,I 0,D.v (a8)]]).set 0 [d31,d32,d33,D.J 1 [[I 1],[I 6]]]) (1+e) (1+d))]):=
 h.dg
theorem akg(h:ah (CW A ck dT d d0 cc b e f q f0 i0 g i c j k l m n o p a0 a [.b (a==0) false,.b (a==1) false,.b (a==2) false,.b (a==3) false])):
 dd 118 [bc.cur [D.J 1 A,I f0,I i0] [D.J 1 A,I p,I a0]] (bG.vals [.agg [D.J 4 [[I 1,I 0,I 0,D.J 1 [[I 1]]],[I 5,I 0,I 0,D.J 1 [[I 2],[I 5]]],[I 4,I (1+c),I 0,D.J 1 [[I 3]]],[I 2,I l,I 0,D.J 1 [[I 4]]],[I 7,I 0,I 0,D.J 1 [[I 1]]],[I 8,I 0,I 0,D.v (a8)]],I (1+d),I (1+b)]]):=
 h.dg
def CM(A:ak)(a b:Int)(C:ak)(c d:Int):aG:=bp 29 [(0,bE 1000000000),(3,aI.bd (bS.one (aV 6 5 C))),(4,bf b),(5,bf a)] [(1000000000,[.gb 1000000100 1 A,aM c,aM d])]
theorem akh(h:ah [.w A p f g,.k A 138 a0 ck p f 6 g,.b (decide (e<g)) true,.w A i j d,.k A 138 p f i j 2 d,.v (o+d),.r 130 [ag (o+d),ag 0,ag 2] [ag a],.w A k l b,.w A m n c,.k A 138 i j k l 12 b,.k A 138 k l m n 40 c,.g C [(bA 0 a 0 b c)] 40,.h [(bA 0 a 0 b c)],.u e]):
 aY (av f119 0) (CM A e o C a0 ck) .normal (CM A (e+1) a (C++[(bA 0 a 0 b c)]) m n):=
 h.aR [5,0,4,3] [1000000000]
def M1(A C:ak)(a b:Int):aG:=bp 29 [(0,bE 1000000000),(3,aI.bd (bS.one (aV 6 5 C)))] [(1000000000,[.gb 1000000100 1 A,aM a,aM b])]
theorem aki(h:ah [.w A c a b,.k A 138 e f c a 6 b,.b (decide (d<b)) false]):
 aY (av f119 0) (CM A d g C e f) (.exit 0) (M1 A C c a):=
 h.aR [3,0] [1000000000]
theorem akj(h:ah [.l [] [5,0,4,3] [1000000000] (av f119 0) (CM A 0 0 [] a b) (.exit 0) (M1 A C c d)]):
 dd 119 [bc.cur [D.J 1 A,I a,I b] [D.J 1 A,I c,I d]] (bG.vals [aS 5 C]):=
 h.dg
def M3(A:ak)(a c d b:Int):aG:=bp 27 [(0,bE 1000000000),(2,bE 2),(3,bE 3),(4,bE 1000000000),(5,.bd (.one (.J (.own 5) 1 [[I 1],[I 1],[I 1],[I 2],[I 3],[I 3],[I 3],[I 4],[I 4],[I 5],[I 6],[I 6],[I 7]]))),(6,bf a),(7,bE 1000000000),(8,bf b),(9,aI.bd (bS.agg [aM a,aM b,aM 0])),(10,bE 3),(11,bf a),(12,.bd (.one (.cg (a==4)))),(13,.bd (.one (.v (Value.bool true)))),(14,.bd (.one (.v (Value.tuple #[])))),(15,.bd (.one (.v (Value.tuple #[])))),(16,.bd (.one (.v (Value.tuple #[])))),(17,.bd (.one (.v (Value.bool true))))] [(3,[aM a,aM b,aM 0]),(2,[aM 0,aM 0,aM 0]),(1000000000,[.gb 1000000100 1 A,aM c,aM d])]
def M4(P:Program)(W:Array Oper)(A:ak)(e f g a b c d:Int):aG:=
 CO P W [[],[],[],[],[.hd [some [D.J 1 A,I b,I c],none] (bG.vals [ag d])],[],[],[],[]] (M3 A e f g a)
theorem aju{A:ak}{g c d a e f b:Int}
  (h:c8 [aC .i64 (a+1),dC prog 138 [bc.cur [D.J 1 A,I c,I d] [D.J 1 A,I e,I f],bc.ro (ag 2)] (bG.vals [ag b]),aC .i64 (a+1+b),(3:Int)≠0]):
  nr prog (kk f242 3) (M3 A g c d a) (M4 prog (kk f242 3) A g c d a e f b):=
 .EB [0,0,1,0,1,1,1,0,0] h
def Nu(A:ak)(a b c d e f g i:Int)(l:List O):List O:=.w A a b c::.w A d e f::.p (dC prog 140 [bc.cur [D.J 1 A,I g,I i] [D.J 1 A,I a,I b],bc.ro (.one (.J 1 [[I 1],[I 1],[I 1],[I 2],[I 3],[I 3],[I 3],[I 4],[I 4],[I 5],[I 6],[I 6],[I 7]]))] (bG.vals [ag c]))::.k A 138 a b d e 3 f::l
theorem ajv(h:ah (Nu A i j b c d a k l [.b (b==4) true,.a (.z' (M4 prog (kk f242 3) A b c d a e f g)),.p (nr prog (kk f242 3) (M3 A b c d a) (M4 prog (kk f242 3) A b c d a e f g))])):
 dd 242 [bc.cur [D.J 1 A,I k,I l] [D.J 1 A,I e,I f]] (bG.vals [.agg [I b,I a,I ((a+1+g).tmod 3)]]):=
 h.dg
def M5(A:ak)(a c d b:Int):aG:=bp 27 [(0,bE 1000000000),(2,bE 2),(3,bE 3),(4,bE 1000000000),(5,.bd (.one (.J (.own 5) 1 [[I 1],[I 1],[I 1],[I 2],[I 3],[I 3],[I 3],[I 4],[I 4],[I 5],[I 6],[I 6],[I 7]]))),(6,bf a),(7,bE 1000000000),(8,bf b),(9,aI.bd (bS.agg [aM a,aM b,aM 0])),(10,bE 3),(11,bf a),(12,.bd (.one (.cg (a==4)))),(13,.bd (.one (.v (Value.bool false)))),(14,bE 3),(15,bf a),(16,.bd (.one (.cg (a==5)))),(17,.bd (.one (.cg (a==5))))] [(3,[aM a,aM b,aM 0]),(2,[aM 0,aM 0,aM 0]),(1000000000,[.gb 1000000100 1 A,aM c,aM d])]
def M6(P:Program)(W:Array Oper)(A:ak)(e f g a b c d:Int):aG:=
 CO P W [[],[],[],[],[.hd [some [D.J 1 A,I b,I c],none] (bG.vals [ag d])],[],[],[],[]] (M5 A e f g a)
theorem ajw{A:ak}{g c d a e f b:Int}
  (h:c8 [aC .i64 (a+1),dC prog 138 [bc.cur [D.J 1 A,I c,I d] [D.J 1 A,I e,I f],bc.ro (ag 2)] (bG.vals [ag b]),aC .i64 (a+1+b),(3:Int)≠0]):
  nr prog (kk f242 3) (M5 A g c d a) (M6 prog (kk f242 3) A g c d a e f b):=
 .EB [0,0,1,0,1,1,1,0,0] h
theorem ajx(h:ah (Nu A i j a c d b k l [.b (a==4) false,.b (a==5) true,.a (.z' (M6 prog (kk f242 3) A a c d b e f g)),.p (nr prog (kk f242 3) (M5 A a c d b) (M6 prog (kk f242 3) A a c d b e f g))])):
 dd 242 [bc.cur [D.J 1 A,I k,I l] [D.J 1 A,I e,I f]] (bG.vals [.agg [I a,I b,I ((b+1+g).tmod 3)]]):=
 h.dg
theorem ajy(h:ah (Nu A c d a e f b g i [.b (a==4) false,.b (a==5) false])):
 dd 242 [bc.cur [D.J 1 A,I g,I i] [D.J 1 A,I e,I f]] (bG.vals [.agg [I a,I b,I 0]]):=
 h.dg
def Cd(A:ak)(a b:Int)(C:ak)(c d:Int):aG:=bp 22 [(0,bE 1000000000),(1,bf a),(5,aI.bd (bS.one (aV 7 3 C))),(6,bf b)] [(1000000000,[.gb 1000000100 1 A,aM c,aM d])]
theorem ajz(h:ah [.w A k f g,.u d,.k A 138 l m k f (d+1) g,.b (decide (e<g)) true,.a (.hd [some [D.J 1 A,I i,I j]] (bG.vals [.agg [I a,I b,I c]])),.p (dC prog 242 [bc.cur [D.J 1 A,I k,I f] [D.J 1 A,I i,I j]] (bG.vals [.agg [I a,I b,I c]])),.g C [[I a,I b,I c]] 24,.h [[I a,I b,I c]],.u e]):
 aY (av f120 0) (Cd A d e C l m) .normal (Cd A d (e+1) (C++[[I a,I b,I c]]) i j):=
 h.aR [6,0,1,5] [1000000000]
def M7(A C:ak)(a b:Int):aG:=bp 22 [(0,bE 1000000000),(5,aI.bd (bS.one (aV 7 3 C)))] [(1000000000,[.gb 1000000100 1 A,aM a,aM b])]
theorem ajA(h:ah [.w A d a b,.u c,.k A 138 f g d a (c+1) b,.b (decide (e<b)) false]):
 aY (av f120 0) (Cd A c e C f g) (.exit 0) (M7 A C d a):=
 h.aR [5,0] [1000000000]
theorem ajB(h:ah [.l [] [6,0,1,5] [1000000000] (av f120 0) (Cd A c 0 [] a b) (.exit 0) (M7 A C d e)]):
 dd 120 [bc.cur [D.J 1 A,I a,I b] [D.J 1 A,I d,I e],bc.ro (ag c)] (bG.vals [aS 3 C]):=
 h.dg
