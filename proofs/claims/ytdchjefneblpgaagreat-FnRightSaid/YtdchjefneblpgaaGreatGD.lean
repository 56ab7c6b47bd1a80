import Derived.Test.YtdchjefneblpgaaGreatGE
set_option linter.unusedVariables false
set_option linter.unusedSimpArgs false
namespace Go.Proofs.YtdchjefneblpgaaGreat
open Go.Sx Go.RowKit Go.Proofs.Tryz
variable {a b c d e f g i j k l m n o p a0 ch de d0 cd f0 i0 : Int} {A C E F : ah} {q : Bool}
def AX(A:ah)(a b:Int):aD:=ba 32 [(0,.aR (.one (.e5 1000000100 1 A))),(3,aY b),(4,aY a)] []
theorem axD(h:af [.f A a true,.b (decide (a<4000)) true,.v (b*131),.x A a [D.v (Value.int IntKind.u8 c)],.a (.pF (aY d)),.v c,.v (b*131+c),.v (b*131+c+7),.p (nx prog BinOp.and 3 (Operand.tmp 26) (Operand.const (Value.int IntKind.i64 1073741823)) (Value.int IntKind.i64 (b*131+c+7)) (Value.int IntKind.i64 1073741823) (Value.int IntKind.i64 d)),.u a]):
 aT (ap f117 0) (AX A a b) .normal (AX A (a+1) d):=
 h.aQ [4,0,3] []
def Hg(A:ah)(a:Int):aD:=ba 32 [(0,.aR (.one (.e5 1000000100 1 A))),(3,aY a)] []
theorem axE(h:af [.f A a true,.b (decide (a<4000)) false]):
 aT (ap f117 0) (AX A a b) (.exit 0) (Hg A b):=
 h.aQ [0,3] []
theorem axF(h:af [.f A a false]):
 aT (ap f117 0) (AX A a b) (.exit 0) (Hg A b):=
 h.aQ [0,3] []
theorem axG(h:af [.v (94701+(A.length:Int)),.l [] [4,0,3] [] (ap f117 0) (AX A 0 (94701+(A.length:Int))) (.exit 0) (Hg A a)]):
 cW 117 [a7.ro (aE 1 A)] (bi.iZ [some 0,none,none] [D.J 1 A,I 0,I a]):=
 h.cX
def aas(a b c d e:Int)(l:List O):List O:=.a .wr::.a .wr::.a (.pF (aY a))::.a (.pF (aY b))::.a (.pF (aY c))::.a (.pF (aY d))::.p (nx prog BinOp.shr 3 (Operand.tmp 16) (Operand.const (Value.int IntKind.u64 33)) (Value.int IntKind.i64 (IntKind.i64.wrap (IntKind.i64.wrap (e*6364136223846793005)+1442695040888963407))) (Value.int IntKind.u64 33) (Value.int IntKind.i64 a))::.p (nx prog BinOp.shr 3 (Operand.tmp 21) (Operand.const (Value.int IntKind.u64 45)) (Value.int IntKind.i64 (IntKind.i64.wrap (IntKind.i64.wrap (e*6364136223846793005)+1442695040888963407))) (Value.int IntKind.u64 45) (Value.int IntKind.i64 b))::.p (nx prog BinOp.xor 3 (Operand.tmp 17) (Operand.tmp 22) (Value.int IntKind.i64 a) (Value.int IntKind.i64 b) (Value.int IntKind.i64 c))::.p (nx prog BinOp.and 3 (Operand.tmp 23) (Operand.const (Value.int IntKind.i64 255)) (Value.int IntKind.i64 c) (Value.int IntKind.i64 255) (Value.int IntKind.i64 d))::l
theorem axH(h:af (aas c d e f b [.i A a [D.v (Value.int IntKind.u8 i)],.a .wr,.a .wr,.a (.pF (aY g)),.p (nx prog BinOp.and 3 (Operand.tmp 47) (Operand.const (Value.int IntKind.i64 255)) (Value.int IntKind.i64 (IntKind.i64.wrap (f+IntKind.i64.wrap i))) (Value.int IntKind.i64 255) (Value.int IntKind.i64 g)),.u a])):
 cW 253 [a7.cur [D.J 1 A,I a,I b] [D.J 1 A,I (a+1),I (IntKind.i64.wrap (IntKind.i64.wrap (b*6364136223846793005)+1442695040888963407))]] (bi.vals [ag g]):=
 h.cX
theorem axI(h:af (aas c d e f a [.f A b false])):
 cW 253 [a7.cur [D.J 1 A,I b,I a] [D.J 1 A,I b,I (IntKind.i64.wrap (IntKind.i64.wrap (a*6364136223846793005)+1442695040888963407))]] (bi.vals [ag f]):=
 h.cX
theorem axJ(h:af [.b (decide (a<=0)) false,.b (decide (a<=256)) true,.a (.e3 [some [D.J 1 A,I b,I c]] (bi.vals [ag d])),.p (cH prog 253 [a7.cur [D.J 1 A,I e,I f] [D.J 1 A,I b,I c]] (bi.vals [ag d])),.p (a≠0)]):
 cW 138 [a7.cur [D.J 1 A,I e,I f] [D.J 1 A,I b,I c],a7.ro (ag a)] (bi.vals [ag (d.tmod a)]):=
 h.cX
theorem axK(h:af [.b (decide (d<=0)) false,.b (decide (d<=256)) false,.a (.e3 [some [D.J 1 A,I l,I m]] (bi.vals [ag b])),.a (.e3 [some [D.J 1 A,I n,I f]] (bi.vals [ag a])),.a (.e3 [some [D.J 1 A,I g,I i]] (bi.vals [ag c])),.a (.e3 [some [D.J 1 A,I j,I k]] (bi.vals [ag e])),.p (cH prog 253 [a7.cur [D.J 1 A,I o,I p] [D.J 1 A,I l,I m]] (bi.vals [ag b])),.p (cH prog 253 [a7.cur [D.J 1 A,I l,I m] [D.J 1 A,I n,I f]] (bi.vals [ag a])),.p (cH prog 253 [a7.cur [D.J 1 A,I n,I f] [D.J 1 A,I g,I i]] (bi.vals [ag c])),.p (cH prog 253 [a7.cur [D.J 1 A,I g,I i] [D.J 1 A,I j,I k]] (bi.vals [ag e])),.v (b*16777216),.v (a*65536),.v (b*16777216+a*65536),.v (c*256),.v (b*16777216+a*65536+c*256),.v (b*16777216+a*65536+c*256+e),.p (d≠0)]):
 cW 138 [a7.cur [D.J 1 A,I o,I p] [D.J 1 A,I j,I k],a7.ro (ag d)] (bi.vals [ag ((b*16777216+a*65536+c*256+e).tmod d)]):=
 h.cX
theorem axL(h:af [.w A a b c,.k A 138 d e a b f c]):
 cW 136 [a7.cur [D.J 1 A,I d,I e] [D.J 1 A,I a,I b],a7.ro (ag f)] (bi.vals [ak (c==0)]):=
 h.cX
theorem axM(h:af [.w A a b c,.k A 138 d e a b (C.length:Int) c,.x C c [I f]]):
 cW 140 [a7.cur [D.J 1 A,I d,I e] [D.J 1 A,I a,I b],a7.ro (aE 1 C)] (bi.vals [ag f]):=
 h.cX
def aat(A:ah)(a b c d e f g i:Int)(q:Bool)(j k:Int)(l:List O):List O:=.w A a b c::.w A d e f::.y A g i q::.k A 138 j k a b 3 c::.v (1+c)::.k A 138 a b d e 3 f::.v (1+f)::.m A 136 d e g i 3 q::l
def Ew(A:ah)(a b c d e f g i:Int)(q:Bool)(j k m n o p eB eO c1 d1 e1 f1 g1 i1:Int)(l:List O):List O:=aat A a b c d e f g i q j k (.b q true::.w A m n o::.w A p eB eO::.w A c1 d1 e1::.w A f1 g1 i1::.k A 138 g i m n 3 o::.v (1+o)::.k A 138 m n p eB 4 eO::.k A 138 p eB c1 d1 3 e1::.v (1+e1)::.k A 138 c1 d1 f1 g1 6 i1::l)
theorem axN{A:ah}{f0 i0 ch de e d0 cd c f g:Int}{q:Bool}{i j a k l b m n d o p a0:Int}{d31 d32 d33 d34:D}(h:af (Ew A ch de e d0 cd c f g q f0 i0 i j a k l b m n d o p a0 [.b (a0==0) true,.p ((0:Int)<=3),.p (3<(↑[[I 1,I 0,I 0,D.J 1 [[I 1]]],[I 6,I 0,I 0,D.J 1 [[I 2],[I 5]]],[I 4,I (1+a),I 0,D.J 1 [[I 3]]],[I 2,I b,I 0,D.J 1 [[I 4]]],[I 7,I 0,I 0,D.J 1 [[I 1]]],[I 8,I 0,I 0,D.v (aS)]].length:Int)),.e [[I 1,I 0,I 0,D.J 1 [[I 1]]],[I 6,I 0,I 0,D.J 1 [[I 2],[I 5]]],[I 4,I (1+a),I 0,D.J 1 [[I 3]]],[I 2,I b,I 0,D.J 1 [[I 4]]],[I 7,I 0,I 0,D.J 1 [[I 1]]],[I 8,I 0,I 0,D.v (aS)]] 3 [d31,d32,d33,d34]])):
 cW 118 [a7.cur [D.J 1 A,I f0,I i0] [D.J 1 A,I o,I p]] (bi.vals [.agg (bg ([[I 1,I 0,I 0,D.J 1 [[I 1]]],[I 6,I 0,I 0,D.J 1 [[I 2],[I 5]]],[I 4,I (1+a),I 0,D.J 1 [[I 3]]],[I 2,I b,I 0,D.J 1 [[I 4]]],[I 7,I 0,I 0,D.J 1 [[I 1]]],[I 8,I 0,I 0,D.v (aS)]].set 3 [I 3,I (1+d),I 0,D.J 1 [[I 4]]]) (1+e) (1+c))]):=
 h.cX
theorem axe{A:ah}{f0 i0 ch de e d0 cd c f g:Int}{q:Bool}{i j a k l b m n o p a0 d:Int}{d31 d32 d33 d34:D}(h:af (Ew A ch de e d0 cd c f g q f0 i0 i j a k l b m n o p a0 d [.b (d==0) false,.b (d==1) true,.p ((0:Int)<=4),.p (4<(↑[[I 1,I 0,I 0,D.J 1 [[I 1]]],[I 6,I 0,I 0,D.J 1 [[I 2],[I 5]]],[I 4,I (1+a),I 0,D.J 1 [[I 3]]],[I 2,I b,I 0,D.J 1 [[I 4]]],[I 7,I 0,I 0,D.J 1 [[I 1]]],[I 8,I 0,I 0,D.v (aS)]].length:Int)),.e [[I 1,I 0,I 0,D.J 1 [[I 1]]],[I 6,I 0,I 0,D.J 1 [[I 2],[I 5]]],[I 4,I (1+a),I 0,D.J 1 [[I 3]]],[I 2,I b,I 0,D.J 1 [[I 4]]],[I 7,I 0,I 0,D.J 1 [[I 1]]],[I 8,I 0,I 0,D.v (aS)]] 4 [d31,d32,d33,d34]])):
 cW 118 [a7.cur [D.J 1 A,I f0,I i0] [D.J 1 A,I p,I a0]] (bi.vals [.agg (bg ([[I 1,I 0,I 0,D.J 1 [[I 1]]],[I 6,I 0,I 0,D.J 1 [[I 2],[I 5]]],[I 4,I (1+a),I 0,D.J 1 [[I 3]]],[I 2,I b,I 0,D.J 1 [[I 4]]],[I 7,I 0,I 0,D.J 1 [[I 1]]],[I 8,I 0,I 0,D.v (aS)]].set 4 [I 8,I 0,I 0,D.v (aS)]) (1+e) (1+c))]):=
 h.cX
theorem axf{A:ah}{f0 i0 ch de e d0 cd d f g:Int}{q:Bool}{i j a k l b m n o p a0 c:Int}{d31 d32 d33 d34:D}(h:af (Ew A ch de e d0 cd d f g q f0 i0 i j a k l b m n o p a0 c [.b (c==0) false,.b (c==1) false,.b (c==2) true,.p ((0:Int)<=2),.p (2<(↑[[I 1,I 0,I 0,D.J 1 [[I 1]]],[I 6,I 0,I 0,D.J 1 [[I 2],[I 5]]],[I 4,I (1+a),I 0,D.J 1 [[I 3]]],[I 2,I b,I 0,D.J 1 [[I 4]]],[I 7,I 0,I 0,D.J 1 [[I 1]]],[I 8,I 0,I 0,D.v (aS)]].length:Int)),.e [[I 1,I 0,I 0,D.J 1 [[I 1]]],[I 6,I 0,I 0,D.J 1 [[I 2],[I 5]]],[I 4,I (1+a),I 0,D.J 1 [[I 3]]],[I 2,I b,I 0,D.J 1 [[I 4]]],[I 7,I 0,I 0,D.J 1 [[I 1]]],[I 8,I 0,I 0,D.v (aS)]] 2 [d31,d32,d33,d34]])):
 cW 118 [a7.cur [D.J 1 A,I f0,I i0] [D.J 1 A,I p,I a0]] (bi.vals [.agg (bg ([[I 1,I 0,I 0,D.J 1 [[I 1]]],[I 6,I 0,I 0,D.J 1 [[I 2],[I 5]]],[I 4,I (1+a),I 0,D.J 1 [[I 3]]],[I 2,I b,I 0,D.J 1 [[I 4]]],[I 7,I 0,I 0,D.J 1 [[I 1]]],[I 8,I 0,I 0,D.v (aS)]].set 2 [d31,d32,d33,D.J 1 [[I 3],[I 4]]]) (1+e) (1+d))]):=
 h.cX
theorem axg{A:ah}{f0 i0 ch de e d0 cd d f g:Int}{q:Bool}{i j a k l b m n o p a0 c:Int}{d31 d32 d33 d34:D}(h:af (Ew A ch de e d0 cd d f g q f0 i0 i j a k l b m n o p a0 c [.b (c==0) false,.b (c==1) false,.b (c==2) false,.b (c==3) true,.a .wr,.p (([[I 1,I 0,I 0,D.J 1 [[I 1]]],[I 6,I 0,I 0,D.J 1 [[I 2],[I 5]]],[I 4,I (1+a),I 0,D.J 1 [[I 3]]],[I 2,I b,I 0,D.J 1 [[I 4]]],[I 7,I 0,I 0,D.J 1 [[I 1]]],[I 8,I 0,I 0,D.v (aS)]].length+[[I 8,I 0,I 0,D.v (aS)]].length)*48<=140737488355328),.p ([[I 1,I 0,I 0,D.J 1 [[I 1]]],[I 6,I 0,I 0,D.J 1 [[I 2],[I 5]]],[I 4,I (1+a),I 0,D.J 1 [[I 3]]],[I 2,I b,I 0,D.J 1 [[I 4]]],[I 7,I 0,I 0,D.J 1 [[I 1]]],[I 8,I 0,I 0,D.v (aS)]].length+[[I 8,I 0,I 0,D.v (aS)]].length<=9223372036854775807),.p ((0:Int)<=0),.p (0<(↑([[I 1,I 0,I 0,D.J 1 [[I 1]]],[I 6,I 0,I 0,D.J 1 [[I 2],[I 5]]],[I 4,I (1+a),I 0,D.J 1 [[I 3]]],[I 2,I b,I 0,D.J 1 [[I 4]]],[I 7,I 0,I 0,D.J 1 [[I 1]]],[I 8,I 0,I 0,D.v (aS)]]++[[I 8,I 0,I 0,D.v (aS)]]).length:Int)),.e ([[I 1,I 0,I 0,D.J 1 [[I 1]]],[I 6,I 0,I 0,D.J 1 [[I 2],[I 5]]],[I 4,I (1+a),I 0,D.J 1 [[I 3]]],[I 2,I b,I 0,D.J 1 [[I 4]]],[I 7,I 0,I 0,D.J 1 [[I 1]]],[I 8,I 0,I 0,D.v (aS)]]++[[I 8,I 0,I 0,D.v (aS)]]) 0 [d31,d32,d33,d34]])):
 cW 118 [a7.cur [D.J 1 A,I f0,I i0] [D.J 1 A,I p,I a0]] (bi.vals [.agg (bg (([[I 1,I 0,I 0,D.J 1 [[I 1]]],[I 6,I 0,I 0,D.J 1 [[I 2],[I 5]]],[I 4,I (1+a),I 0,D.J 1 [[I 3]]],[I 2,I b,I 0,D.J 1 [[I 4]]],[I 7,I 0,I 0,D.J 1 [[I 1]]],[I 8,I 0,I 0,D.v (aS)]]++[[I 8,I 0,I 0,D.v (aS)]]).set 0 [d31,d32,d33,D.J 1 [[I 1],[I 6]]]) (1+e) (1+d))]):=
 h.cX
theorem axh(h:af (Ew A ch de d d0 cd b e f q f0 i0 g i c j k l m n o p a0 a [.b (a==0) false,.b (a==1) false,.b (a==2) false,.b (a==3) false])):
 cW 118 [a7.cur [D.J 1 A,I f0,I i0] [D.J 1 A,I p,I a0]] (bi.vals [.agg [D.J 4 [[I 1,I 0,I 0,D.J 1 [[I 1]]],[I 6,I 0,I 0,D.J 1 [[I 2],[I 5]]],[I 4,I (1+c),I 0,D.J 1 [[I 3]]],[I 2,I l,I 0,D.J 1 [[I 4]]],[I 7,I 0,I 0,D.J 1 [[I 1]]],[I 8,I 0,I 0,D.v (aS)]],I (1+d),I (1+b)]]):=
 h.cX
def Ex(A:ah)(a b c d e f g i:Int)(q:Bool)(j k m n o p eB eO c1 d1 e1 f1 g1 i1:Int)(l:List O):List O:=aat A a b c d e f g i q j k (.b q false::.w A m n o::.w A p eB eO::.w A c1 d1 e1::.w A f1 g1 i1::.k A 138 g i m n 3 o::.v (1+o)::.k A 138 m n p eB 4 eO::.k A 138 p eB c1 d1 3 e1::.v (1+e1)::.k A 138 c1 d1 f1 g1 6 i1::l)
theorem axi{A:ah}{f0 i0 ch de e d0 cd c f g:Int}{q:Bool}{i j a k l b m n d o p a0:Int}{d31 d32 d33 d34:D}(h:af (Ex A ch de e d0 cd c f g q f0 i0 i j a k l b m n d o p a0 [.b (a0==0) true,.p ((0:Int)<=3),.p (3<(↑[[I 1,I 0,I 0,D.J 1 [[I 1]]],[I 5,I 0,I 0,D.J 1 [[I 2],[I 5]]],[I 4,I (1+a),I 0,D.J 1 [[I 3]]],[I 2,I b,I 0,D.J 1 [[I 4]]],[I 7,I 0,I 0,D.J 1 [[I 1]]],[I 8,I 0,I 0,D.v (aS)]].length:Int)),.e [[I 1,I 0,I 0,D.J 1 [[I 1]]],[I 5,I 0,I 0,D.J 1 [[I 2],[I 5]]],[I 4,I (1+a),I 0,D.J 1 [[I 3]]],[I 2,I b,I 0,D.J 1 [[I 4]]],[I 7,I 0,I 0,D.J 1 [[I 1]]],[I 8,I 0,I 0,D.v (aS)]] 3 [d31,d32,d33,d34]])):
 cW 118 [a7.cur [D.J 1 A,I f0,I i0] [D.J 1 A,I o,I p]] (bi.vals [.agg (bg ([[I 1,I 0,I 0,D.J 1 [[I 1]]],[I 5,I 0,I 0,D.J 1 [[I 2],[I 5]]],[I 4,I (1+a),I 0,D.J 1 [[I 3]]],[I 2,I b,I 0,D.J 1 [[I 4]]],[I 7,I 0,I 0,D.J 1 [[I 1]]],[I 8,I 0,I 0,D.v (aS)]].set 3 [I 3,I (1+d),I 0,D.J 1 [[I 4]]]) (1+e) (1+c))]):=
 h.cX
theorem axj{A:ah}{f0 i0 ch de e d0 cd c f g:Int}{q:Bool}{i j a k l b m n o p a0 d:Int}{d31 d32 d33 d34:D}(h:af (Ex A ch de e d0 cd c f g q f0 i0 i j a k l b m n o p a0 d [.b (d==0) false,.b (d==1) true,.p ((0:Int)<=4),.p (4<(↑[[I 1,I 0,I 0,D.J 1 [[I 1]]],[I 5,I 0,I 0,D.J 1 [[I 2],[I 5]]],[I 4,I (1+a),I 0,D.J 1 [[I 3]]],[I 2,I b,I 0,D.J 1 [[I 4]]],[I 7,I 0,I 0,D.J 1 [[I 1]]],[I 8,I 0,I 0,D.v (aS)]].length:Int)),.e [[I 1,I 0,I 0,D.J 1 [[I 1]]],[I 5,I 0,I 0,D.J 1 [[I 2],[I 5]]],[I 4,I (1+a),I 0,D.J 1 [[I 3]]],[I 2,I b,I 0,D.J 1 [[I 4]]],[I 7,I 0,I 0,D.J 1 [[I 1]]],[I 8,I 0,I 0,D.v (aS)]] 4 [d31,d32,d33,d34]])):
 cW 118 [a7.cur [D.J 1 A,I f0,I i0] [D.J 1 A,I p,I a0]] (bi.vals [.agg (bg ([[I 1,I 0,I 0,D.J 1 [[I 1]]],[I 5,I 0,I 0,D.J 1 [[I 2],[I 5]]],[I 4,I (1+a),I 0,D.J 1 [[I 3]]],[I 2,I b,I 0,D.J 1 [[I 4]]],[I 7,I 0,I 0,D.J 1 [[I 1]]],[I 8,I 0,I 0,D.v (aS)]].set 4 [I 8,I 0,I 0,D.v (aS)]) (1+e) (1+c))]):=
 h.cX
theorem axk{A:ah}{f0 i0 ch de e d0 cd d f g:Int}{q:Bool}{i j a k l b m n o p a0 c:Int}{d31 d32 d33 d34:D}(h:af (Ex A ch de e d0 cd d f g q f0 i0 i j a k l b m n o p a0 c [.b (c==0) false,.b (c==1) false,.b (c==2) true,.p ((0:Int)<=2),.p (2<(↑[[I 1,I 0,I 0,D.J 1 [[I 1]]],[I 5,I 0,I 0,D.J 1 [[I 2],[I 5]]],[I 4,I (1+a),I 0,D.J 1 [[I 3]]],[I 2,I b,I 0,D.J 1 [[I 4]]],[I 7,I 0,I 0,D.J 1 [[I 1]]],[I 8,I 0,I 0,D.v (aS)]].length:Int)),.e [[I 1,I 0,I 0,D.J 1 [[I 1]]],[I 5,I 0,I 0,D.J 1 [[I 2],[I 5]]],[I 4,I (1+a),I 0,D.J 1 [[I 3]]],[I 2,I b,I 0,D.J 1 [[I 4]]],[I 7,I 0,I 0,D.J 1 [[I 1]]],[I 8,I 0,I 0,D.v (aS)]] 2 [d31,d32,d33,d34]])):
 cW 118 [a7.cur [D.J 1 A,I f0,I i0] [D.J 1 A,I p,I a0]] (bi.vals [.agg (bg ([[I 1,I 0,I 0,D.J 1 [[I 1]]],[I 5,I 0,I 0,D.J 1 [[I 2],[I 5]]],[I 4,I (1+a),I 0,D.J 1 [[I 3]]],[I 2,I b,I 0,D.J 1 [[I 4]]],[I 7,I 0,I 0,D.J 1 [[I 1]]],[I 8,I 0,I 0,D.v (aS)]].set 2 [d31,d32,d33,D.J 1 [[I 3],[I 4]]]) (1+e) (1+d))]):=
 h.cX
theorem axl{A:ah}{f0 i0 ch de e d0 cd d f g:Int}{q:Bool}{i j a k l b m n o p a0 c:Int}{d31 d32 d33 d34:D}(h:af (Ex A ch de e d0 cd d f g q f0 i0 i j a k l b m n o p a0 c [.b (c==0) false,.b (c==1) false,.b (c==2) false,.b (c==3) true,.a .wr,.p (([[I 1,I 0,I 0,D.J 1 [[I 1]]],[I 5,I 0,I 0,D.J 1 [[I 2],[I 5]]],[I 4,I (1+a),I 0,D.J 1 [[I 3]]],[I 2,I b,I 0,D.J 1 [[I 4]]],[I 7,I 0,I 0,D.J 1 [[I 1]]],[I 8,I 0,I 0,D.v (aS)]].length+[[I 8,I 0,I 0,D.v (aS)]].length)*48<=140737488355328),.p ([[I 1,I 0,I 0,D.J 1 [[I 1]]],[I 5,I 0,I 0,D.J 1 [[I 2],[I 5]]],[I 4,I (1+a),I 0,D.J 1 [[I 3]]],[I 2,I b,I 0,D.J 1 [[I 4]]],[I 7,I 0,I 0,D.J 1 [[I 1]]],[I 8,I 0,I 0,D.v (aS)]].length+[[I 8,I 0,I 0,D.v (aS)]].length<=9223372036854775807),.p ((0:Int)<=0),.p (0<(↑([[I 1,I 0,I 0,D.J 1 [[I 1]]],[I 5,I 0,I 0,D.J 1 [[I 2],[I 5]]],[I 4,I (1+a),I 0,D.J 1 [[I 3]]],[I 2,I b,I 0,D.J 1 [[I 4]]],[I 7,I 0,I 0,D.J 1 [[I 1]]],[I 8,I 0,I 0,D.v (aS)]]++[[I 8,I 0,I 0,D.v (aS)]]).length:Int)),.e ([[I 1,I 0,I 0,D.J 1 [[I 1]]],[I 5,I 0,I 0,D.J 1 [[I 2],[I 5]]],[I 4,I (1+a),I 0,D.J 1 [[I 3]]],[I 2,I b,I 0,D.J 1 [[I 4]]],[I 7,I 0,I 0,D.J 1 [[I 1]]],[I 8,I 0,I 0,D.v (aS)]]++[[I 8,I 0,I 0,D.v (aS)]]) 0 [d31,d32,d33,d34]])):
 cW 118 [a7.cur [D.J 1 A,I f0,I i0] [D.J 1 A,I p,I a0]] (bi.vals [.agg (bg (([[I 1,I 0,I 0,D.J 1 [[I 1]]],[I 5,I 0,I 0,D.J 1 [[I 2],[I 5]]],[I 4,I (1+a),I 0,D.J 1 [[I 3]]],[I 2,I b,I 0,D.J 1 [[I 4]]],[I 7,I 0,I 0,D.J 1 [[I 1]]],[I 8,I 0,I 0,D.v (aS)]]++[[I 8,I 0,I 0,D.v (aS)]]).set 0 [d31,d32,d33,D.J 1 [[I 1],[I 6]]]) (1+e) (1+d))]):=
 h.cX
theorem axm(h:af (Ex A ch de d d0 cd b e f q f0 i0 g i c j k l m n o p a0 a [.b (a==0) false,.b (a==1) false,.b (a==2) false,.b (a==3) false])):
 cW 118 [a7.cur [D.J 1 A,I f0,I i0] [D.J 1 A,I p,I a0]] (bi.vals [.agg [D.J 4 [[I 1,I 0,I 0,D.J 1 [[I 1]]],[I 5,I 0,I 0,D.J 1 [[I 2],[I 5]]],[I 4,I (1+c),I 0,D.J 1 [[I 3]]],[I 2,I l,I 0,D.J 1 [[I 4]]],[I 7,I 0,I 0,D.J 1 [[I 1]]],[I 8,I 0,I 0,D.v (aS)]],I (1+d),I (1+b)]]):=
 h.cX
def UW(C A:ah)(b c d e f a:Int):aD:=ba 75 [(0,a1 1000000000),(2,a1 2),(3,a1 3),(4,aY d),(5,a1 1000000000),(6,aH.aR (bm.agg [aK 70000 4 A,az b,az c])),(7,a1 1000000000),(8,a1 3),(9,aH.aR (bm.one (aK 70000 4 A))),(10,aY (A.length:Int)),(11,aY d),(12,a1 1000000000),(13,aY a),(14,.aR (.one (.bR (a==0)))),(15,.aR (.one (.bR (a==0))))] [(3,[aK 70000 4 A,az b,az c]),(2,[.v (aS),az 0,az 0]),(1000000000,[.e5 1000000100 1 C,az e,az f])]
def Ob(E A:ah)(f g a e i j c d b:Int)(C:ah):aD:=ba 75 [(0,a1 1000000000),(2,a1 2),(3,a1 3),(4,aY a),(5,a1 1000000000),(6,aH.aR (bm.agg [aK 70000 4 (A.set a.toNat (bj c d b C)),az f,az g])),(7,a1 1000000000),(8,a1 3),(9,aH.aR (bm.one (aK 70000 4 (A.set a.toNat (bj c d b C))))),(10,aY (A.length:Int)),(11,aY a),(12,a1 1000000000),(13,aY e),(14,.aR (.one (.bR (e==0)))),(15,.aR (.one (.bR (e==0)))),(16,a1 3),(17,aH.aR (bm.one (aK 70000 4 (A.set a.toNat (bj c d b C))))),(18,aY a),(19,a1 1000000000),(20,aH.aR (bm.agg [az c,az d,az b,.cu])),(21,.aR (.one (.ep (Tag.own 70000) 4 (A.set a.toNat (bj c d b C)) a.toNat 0)))] [(3,[aK 70000 4 (A.set a.toNat (bj c d b C)),az f,az g]),(2,[.v (aS),az 0,az 0]),(1000000000,[.e5 1000000100 1 E,az i,az j])]
theorem axn{A C:ah}{n o a g i m b c d e f:Int}{E:ah}{j k l:Int}{F:ah}
  (h:c8 [cH prog 252 [a7.cur [D.J 1 A,I g,I i] [D.J 1 A,I b,I c]] (bi.vals [.agg (bj d e f E)]),0<=a,a<(C.length:Int),C[a.toNat]?=some (bj j k l F)]):
  h7 prog (fv f137 5) (UW A C n o a g i m) (Ob A C n o a m b c d e f E):=
 .of [[],[],[],[],[.e3 [some [D.J 1 A,I b,I c]] (bi.vals [.agg (bj d e f E)])],[],[.el (bj j k l F)]] [[],[],[],[],[cH prog 252 [a7.cur [D.J 1 A,I g,I i] [D.J 1 A,I b,I c]] (bi.vals [.agg (bj d e f E)])],[0<=a,a<(C.length:Int)],[C[a.toNat]?=some (bj j k l F)]] (by kernel_rfl) (by kernel_rfl) (by kernel_rfl) h
def Qv(A:ah)(a b:Int)(C:ah)(c d e f g i j k m n:Int)(l:List O):List O:=.a (.e3 [some [D.J 1 A,I a,I b]] (bi.vals [.agg (bg C c d)]))::.w A e f g::.w A i j k::.p (cH prog 118 [a7.cur [D.J 1 A,I m,I n] [D.J 1 A,I a,I b]] (bi.vals [.agg (bg C c d)]))::.k A 138 a b e f (C.length:Int) g::.k A 138 e f i j 12 k::l
theorem ayO(h:af (Qv A o p C c d e f a g i b a0 ch [.b (b==0) true,.a (.pZ (Ob A C c d a b j k l m n E)),.p (h7 prog (fv f137 5) (UW A C c d a g i b) (Ob A C c d a b j k l m n E))])):
 cW 137 [a7.cur [D.J 1 A,I a0,I ch] [D.J 1 A,I j,I k]] (bi.vals [.agg (bg (C.set a.toNat (bj l m n E)) c d)]):=
 h.cX
theorem ayP(h:af (Qv A j k C p l b c n d e a m o [.b (a==0) false,.b (a==1) true,.w A f g i,.p (cH prog 140 [a7.cur [D.J 1 A,I d,I e] [D.J 1 A,I f,I g],a7.ro (.one (.J 1 [[I 0],[I 4],[I 5],[I (-1)]]))] (bi.vals [ag i]))])):
 cW 137 [a7.cur [D.J 1 A,I m,I o] [D.J 1 A,I f,I g]] (bi.vals [.agg (bg C i l)]):=
 h.cX
def Ey(A:ah)(a b:Int)(C:ah)(c d e f g i j k m n:Int)(l:List O):List O:=Qv A a b C c d e f g i j k m n (.b (k==0) false::.b (k==1) false::l)
theorem ayQ(h:af (Ey A j k C l p b c n d e a m o [.b (a==2) true,.w A f g i,.p (cH prog 140 [a7.cur [D.J 1 A,I d,I e] [D.J 1 A,I f,I g],a7.ro (.one (.J 1 [[I 0],[I 4],[I 5],[I (-1)]]))] (bi.vals [ag i]))])):
 cW 137 [a7.cur [D.J 1 A,I m,I o] [D.J 1 A,I f,I g]] (bi.vals [.agg (bg C l i)]):=
 h.cX
def UX(C A:ah)(b c d e f a:Int):aD:=ba 75 [(0,a1 1000000000),(2,a1 2),(3,a1 3),(4,aY d),(5,a1 1000000000),(6,aH.aR (bm.agg [aK 70000 4 A,az b,az c])),(7,a1 1000000000),(8,a1 3),(9,aH.aR (bm.one (aK 70000 4 A))),(10,aY (A.length:Int)),(11,aY d),(12,a1 1000000000),(13,aY a),(14,.aR (.one (.bR (a==0)))),(15,.aR (.one (.bR (a==0)))),(22,.aR (.one (.bR (a==1)))),(23,.aR (.one (.bR (a==1)))),(28,.aR (.one (.bR (a==2)))),(29,.aR (.one (.bR (a==2)))),(34,.aR (.one (.bR (a==3)))),(35,.aR (.one (.bR (a==3))))] [(3,[aK 70000 4 A,az b,az c]),(2,[.v (aS),az 0,az 0]),(1000000000,[.e5 1000000100 1 C,az e,az f])]
def Oc(E A:ah)(g i a f:Int)(C:ah)(j k b c d e:Int):aD:=ba 75 [(0,a1 1000000000),(2,a1 2),(3,a1 3),(4,aY a),(5,a1 1000000000),(6,aH.aR (bm.agg [.J (.own 70000) 4 (A.set a.toNat (bj c d e (C++[[I (b-1)]]))),az g,az i])),(7,a1 1000000000),(8,a1 3),(9,.aR (.one (.J (.own 70000) 4 (A.set a.toNat (bj c d e (C++[[I (b-1)]])))))),(10,aY (A.length:Int)),(11,aY a),(12,a1 1000000000),(13,aY f),(14,.aR (.one (.bR (f==0)))),(15,.aR (.one (.bR (f==0)))),(22,.aR (.one (.bR (f==1)))),(23,.aR (.one (.bR (f==1)))),(28,.aR (.one (.bR (f==2)))),(29,.aR (.one (.bR (f==2)))),(34,.aR (.one (.bR (f==3)))),(35,.aR (.one (.bR (f==3)))),(36,a1 3),(37,.aR (.one (.J (.own 70000) 4 (A.set a.toNat (bj c d e (C++[[I (b-1)]])))))),(38,aY a),(39,a1 3),(40,.aR (.one (.J (.own 70000) 4 (A.set a.toNat (bj c d e (C++[[I (b-1)]])))))),(41,aY a),(42,.aR (.one (.ep (Tag.own 70000) 4 (A.set a.toNat (bj c d e (C++[[I (b-1)]]))) a.toNat 0))),(43,.aR (.one (.ep (Tag.own 70000) 4 (A.set a.toNat (bj c d e (C++[[I (b-1)]]))) a.toNat 3))),(45,a1 1000000000),(46,aY b),(47,aY (b-1)),(48,.aR (.one (.J (.own 48) 1 [[I (b-1)]]))),(50,.aR (.one (.ep (Tag.own 70000) 4 (A.set a.toNat (bj c d e (C++[[I (b-1)]]))) a.toNat 0))),(51,.aR (.one (.ep (Tag.own 70000) 4 (A.set a.toNat (bj c d e (C++[[I (b-1)]]))) a.toNat 3)))] [(3,[.J (.own 70000) 4 (A.set a.toNat (bj c d e (C++[[I (b-1)]]))),az g,az i]),(2,[.v (aS),az 0,az 0]),(1000000000,[.e5 1000000100 1 E,az j,az k])]
theorem ayR{E C:ah}{o p a i j n k l m:Int}{A:ah}{c d b:Int}{d25 d26 d27:D}{e f g:Int}{F:ah}
  (h:c8 [0<=a,a<(C.length:Int),C[a.toNat]?=some (bj k l m A),cH prog 138 [a7.cur [D.J 1 E,I i,I j] [D.J 1 E,I c,I d],a7.ro (ag 9)] (bi.vals [ag b]),aJ .i64 (b-1),(A.length+[[I (b-1)]].length)*8<=140737488355328,A.length+[[I (b-1)]].length<=9223372036854775807,C[a.toNat]?=some [d25,d26,d27,D.J 1 A],[d25,d26,d27,D.J 1 A][3]?=some (D.J 1 A),a.toNat=a.toNat,Flat [[I (b-1)]],0<=a,a<(C.length:Int),C[a.toNat]?=some (bj e f g F),a.toNat=a.toNat]):
  h7 prog (fv f137 11) (UX E C o p a i j n) (Oc E C o p a n A c d b e f g):=
 .of [[],[],[],[],[],[],[],[],[.sub,.el (bj k l m A)],[],[.e3 [some [D.J 1 E,I c,I d],none] (bi.vals [ag b])],[],[],[.el [d25,d26,d27,D.J 1 A]],[],[],[.el (bj e f g F)]] [[],[],[],[],[],[],[0<=a,a<(C.length:Int)],[],[C[a.toNat]?=some (bj k l m A)],[],[cH prog 138 [a7.cur [D.J 1 E,I i,I j] [D.J 1 E,I c,I d],a7.ro (ag 9)] (bi.vals [ag b])],[aJ .i64 (b-1)],[],[(A.length+[[I (b-1)]].length)*8<=140737488355328,A.length+[[I (b-1)]].length<=9223372036854775807,C[a.toNat]?=some [d25,d26,d27,D.J 1 A],[d25,d26,d27,D.J 1 A][3]?=some (D.J 1 A),a.toNat=a.toNat,Flat [[I (b-1)]]],[0<=a,a<(C.length:Int)],[],[C[a.toNat]?=some (bj e f g F),a.toNat=a.toNat]] (by kernel_rfl) (by kernel_rfl) (by kernel_rfl) h
theorem ayS(h:af (Ey A p a0 C c d e f b g i a ch de [.b (a==2) false,.b (a==3) true,.a (.pZ (Oc A C c d b a E j k l m n o)),.p (h7 prog (fv f137 11) (UX A C c d b g i a) (Oc A C c d b a E j k l m n o))])):
 cW 137 [a7.cur [D.J 1 A,I ch,I de] [D.J 1 A,I j,I k]] (bi.vals [.agg [D.J 4 (C.set b.toNat (bj m n o (E++[[I (l-1)]]))),I c,I d]]):=
 h.cX
def Da(A C:ah)(a b c d e f:Int):aD:=ba 75 [(0,a1 1000000000),(2,a1 2),(3,a1 3)] [(3,[aK 70000 4 C,az a,az b]),(2,[.v (aS),az c,az d]),(1000000000,[.e5 1000000100 1 A,az e,az f])]
def Hh(A C:ah)(a b c d e f:Int):aD:=ba 75 [(0,a1 1000000000),(2,a1 2),(3,a1 3)] [(3,[aK 70000 4 C,az a,az b]),(2,[.v (aS),az c,az d]),(1000000000,[.e5 1000000100 1 A,az e,az f])]
def Db(P:Program)(W:Array Oper)(A C:ah)(a b c d e f g i j:Int):aD:=
 yQ P W [[],[],[],[],[.e3 [some [D.J 1 A,I g,I i],none] (bi.vals [ag j])],[],[]] (Hh A C a b c d e f)
theorem UY{A C:ah}{d e f g a b i j c:Int}
  (h:c8 [cH prog 138 [a7.cur [D.J 1 A,I a,I b] [D.J 1 A,I i,I j],a7.ro (ag 2)] (bi.vals [ag c]),aJ .i64 (8+c)]):
  h7 prog (fv f137 13) (Hh A C d e f g a b) (Db prog (fv f137 13) A C d e f g a b i j c):=
 .zQ [0,0,0,0,1,1,0] h
theorem ayT(h:af [.a (.pZ (Db prog (fv f137 13) C A a b c d e f g i j)),.p (h7 prog (fv f137 13) (Hh C A a b c d e f) (Db prog (fv f137 13) C A a b c d e f g i j)),.b (decide ((A.length:Int)<8+j)) true,.a .wr,.g A [[I 8,I 0,I 0,D.v (aS)]] 48]):
 aT (ap f137 0) (Da C A a b c d e f) .normal (Da C (A++[[I 8,I 0,I 0,D.v (aS)]]) a b c d g i):=
 h.aQ [3,0,2] [3,2,1000000000]
def Od(A C:ah)(a b c d e f:Int):aD:=ba 75 [(0,a1 1000000000),(2,a1 2),(3,a1 3)] [(3,[aK 70000 4 C,az a,az b]),(2,[.v (aS),az c,az d]),(1000000000,[.e5 1000000100 1 A,az e,az f])]
theorem ayU(h:af [.a (.pZ (Db prog (fv f137 13) C A a b c d e f g i j)),.p (h7 prog (fv f137 13) (Hh C A a b c d e f) (Db prog (fv f137 13) C A a b c d e f g i j)),.b (decide ((A.length:Int)<8+j)) false]):
 aT (ap f137 0) (Da C A a b c d e f) (.exit 1) (Od C A a b c d g i):=
 h.aQ [3,2,0] [3,2,1000000000]
theorem ayV(h:af (Ey A f g C i j b c l d e a k o [.b (a==2) false,.b (a==3) false,.b (a==4) true,.l [] [3,0,2] [3,2,1000000000] (ap f137 0) (Da A C i j 0 0 d e) (.exit 1) (Od A E m n ch de p a0)])):
 cW 137 [a7.cur [D.J 1 A,I k,I o] [D.J 1 A,I p,I a0]] (bi.vals [.agg (bg E m n)]):=
 h.cX
theorem ayW(h:af (Ey A g i C j k c d b e f a l m [.b (a==2) false,.b (a==3) false,.b (a==4) false,.b (a==5) true,.a .own,.p ((0:Int)<=none.getD 0),.p (none.getD 0<=(some b).getD (C.length:Int)),.p ((some b).getD (C.length:Int)<=(C.length:Int))])):
 cW 137 [a7.cur [D.J 1 A,I l,I m] [D.J 1 A,I e,I f]] (bi.vals [.agg [D.J 4 (List.take (((some b).getD (C.length:Int)).toNat-0) (List.drop 0 C)),I j,I k]]):=
 h.cX
theorem ayX(h:af (Ey A f g C i j b c l d e a k m [.b (a==2) false,.b (a==3) false,.b (a==4) false,.b (a==5) false])):
 cW 137 [a7.cur [D.J 1 A,I k,I m] [D.J 1 A,I d,I e]] (bi.vals [.agg (bg C i j)]):=
 h.cX
def Dc(A:ah)(a b:Int)(C:ah)(c d:Int):aD:=ba 29 [(0,a1 1000000000),(3,aH.aR (bm.one (aK 6 5 C))),(4,aY b),(5,aY a)] [(1000000000,[.e5 1000000100 1 A,az c,az d])]
theorem ayY(h:af [.w A p f g,.k A 138 a0 ch p f 6 g,.b (decide (e<g)) true,.w A i j d,.k A 138 p f i j 2 d,.v (o+d),.r 130 [ag (o+d),ag 0,ag 2] [ag a],.w A k l b,.w A m n c,.k A 138 i j k l 12 b,.k A 138 k l m n 40 c,.g C [(bz 0 a 0 b c)] 40,.h [(bz 0 a 0 b c)],.u e]):
 aT (ap f119 0) (Dc A e o C a0 ch) .normal (Dc A (e+1) a (C++[(bz 0 a 0 b c)]) m n):=
 h.aQ [5,0,4,3] [1000000000]
def Oe(A C:ah)(a b:Int):aD:=ba 29 [(0,a1 1000000000),(3,aH.aR (bm.one (aK 6 5 C)))] [(1000000000,[.e5 1000000100 1 A,az a,az b])]
theorem ayZ(h:af [.w A c a b,.k A 138 e f c a 6 b,.b (decide (d<b)) false]):
 aT (ap f119 0) (Dc A d g C e f) (.exit 0) (Oe A C c a):=
 h.aQ [3,0] [1000000000]
theorem ay0(h:af [.l [] [5,0,4,3] [1000000000] (ap f119 0) (Dc A 0 0 [] a b) (.exit 0) (Oe A C c d)]):
 cW 119 [a7.cur [D.J 1 A,I a,I b] [D.J 1 A,I c,I d]] (bi.vals [aE 5 C]):=
 h.cX
def Of(A:ah)(a c d b:Int):aD:=ba 27 [(0,a1 1000000000),(2,a1 2),(3,a1 3),(4,a1 1000000000),(5,.aR (.one (.J (.own 5) 1 [[I 1],[I 1],[I 1],[I 2],[I 3],[I 3],[I 3],[I 4],[I 4],[I 5],[I 6],[I 6],[I 7]]))),(6,aY a),(7,a1 1000000000),(8,aY b),(9,aH.aR (bm.agg [az a,az b,az 0])),(10,a1 3),(11,aY a),(12,.aR (.one (.bR (a==4)))),(13,.aR (.one (.v (Value.bool true)))),(14,.aR (.one (.v (Value.tuple #[])))),(15,.aR (.one (.v (Value.tuple #[])))),(16,.aR (.one (.v (Value.tuple #[])))),(17,.aR (.one (.v (Value.bool true))))] [(3,[az a,az b,az 0]),(2,[az 0,az 0,az 0]),(1000000000,[.e5 1000000100 1 A,az c,az d])]
def Og(P:Program)(W:Array Oper)(A:ah)(e f g a b c d:Int):aD:=
 yQ P W [[],[],[],[],[.e3 [some [D.J 1 A,I b,I c],none] (bi.vals [ag d])],[],[],[],[]] (Of A e f g a)
theorem ay1{A:ah}{g c d a e f b:Int}
  (h:c8 [aJ .i64 (a+1),cH prog 138 [a7.cur [D.J 1 A,I c,I d] [D.J 1 A,I e,I f],a7.ro (ag 2)] (bi.vals [ag b]),aJ .i64 (a+1+b),(3:Int)≠0]):
  h7 prog (fv f242 3) (Of A g c d a) (Og prog (fv f242 3) A g c d a e f b):=
 .zQ [0,0,1,0,1,1,1,0,0] h
def Qu(A:ah)(a b c d e f g i:Int)(l:List O):List O:=.w A a b c::.w A d e f::.p (cH prog 140 [a7.cur [D.J 1 A,I g,I i] [D.J 1 A,I a,I b],a7.ro (.one (.J 1 [[I 1],[I 1],[I 1],[I 2],[I 3],[I 3],[I 3],[I 4],[I 4],[I 5],[I 6],[I 6],[I 7]]))] (bi.vals [ag c]))::.k A 138 a b d e 3 f::l
theorem ay2(h:af (Qu A i j b c d a k l [.b (b==4) true,.a (.pZ (Og prog (fv f242 3) A b c d a e f g)),.p (h7 prog (fv f242 3) (Of A b c d a) (Og prog (fv f242 3) A b c d a e f g))])):
 cW 242 [a7.cur [D.J 1 A,I k,I l] [D.J 1 A,I e,I f]] (bi.vals [.agg [I b,I a,I ((a+1+g).tmod 3)]]):=
 h.cX
def Oh(A:ah)(a c d b:Int):aD:=ba 27 [(0,a1 1000000000),(2,a1 2),(3,a1 3),(4,a1 1000000000),(5,.aR (.one (.J (.own 5) 1 [[I 1],[I 1],[I 1],[I 2],[I 3],[I 3],[I 3],[I 4],[I 4],[I 5],[I 6],[I 6],[I 7]]))),(6,aY a),(7,a1 1000000000),(8,aY b),(9,aH.aR (bm.agg [az a,az b,az 0])),(10,a1 3),(11,aY a),(12,.aR (.one (.bR (a==4)))),(13,.aR (.one (.v (Value.bool false)))),(14,a1 3),(15,aY a),(16,.aR (.one (.bR (a==5)))),(17,.aR (.one (.bR (a==5))))] [(3,[az a,az b,az 0]),(2,[az 0,az 0,az 0]),(1000000000,[.e5 1000000100 1 A,az c,az d])]
def Oi(P:Program)(W:Array Oper)(A:ah)(e f g a b c d:Int):aD:=
 yQ P W [[],[],[],[],[.e3 [some [D.J 1 A,I b,I c],none] (bi.vals [ag d])],[],[],[],[]] (Oh A e f g a)
theorem ay3{A:ah}{g c d a e f b:Int}
  (h:c8 [aJ .i64 (a+1),cH prog 138 [a7.cur [D.J 1 A,I c,I d] [D.J 1 A,I e,I f],a7.ro (ag 2)] (bi.vals [ag b]),aJ .i64 (a+1+b),(3:Int)≠0]):
  h7 prog (fv f242 3) (Oh A g c d a) (Oi prog (fv f242 3) A g c d a e f b):=
 .zQ [0,0,1,0,1,1,1,0,0] h
theorem ay4(h:af (Qu A i j a c d b k l [.b (a==4) false,.b (a==5) true,.a (.pZ (Oi prog (fv f242 3) A a c d b e f g)),.p (h7 prog (fv f242 3) (Oh A a c d b) (Oi prog (fv f242 3) A a c d b e f g))])):
 cW 242 [a7.cur [D.J 1 A,I k,I l] [D.J 1 A,I e,I f]] (bi.vals [.agg [I a,I b,I ((b+1+g).tmod 3)]]):=
 h.cX
theorem ay5(h:af (Qu A c d a e f b g i [.b (a==4) false,.b (a==5) false])):
 cW 242 [a7.cur [D.J 1 A,I g,I i] [D.J 1 A,I e,I f]] (bi.vals [.agg [I a,I b,I 0]]):=
 h.cX
def Dd(A:ah)(a b:Int)(C:ah)(c d:Int):aD:=ba 22 [(0,a1 1000000000),(1,aY a),(5,aH.aR (bm.one (aK 7 3 C))),(6,aY b)] [(1000000000,[.e5 1000000100 1 A,az c,az d])]
theorem ay6(h:af [.w A k f g,.u d,.k A 138 l m k f (d+1) g,.b (decide (e<g)) true,.a (.e3 [some [D.J 1 A,I i,I j]] (bi.vals [.agg [I a,I b,I c]])),.p (cH prog 242 [a7.cur [D.J 1 A,I k,I f] [D.J 1 A,I i,I j]] (bi.vals [.agg [I a,I b,I c]])),.g C [[I a,I b,I c]] 24,.h [[I a,I b,I c]],.u e]):
 aT (ap f120 0) (Dd A d e C l m) .normal (Dd A d (e+1) (C++[[I a,I b,I c]]) i j):=
 h.aQ [6,0,1,5] [1000000000]
def Oj(A C:ah)(a b:Int):aD:=ba 22 [(0,a1 1000000000),(5,aH.aR (bm.one (aK 7 3 C)))] [(1000000000,[.e5 1000000100 1 A,az a,az b])]
theorem ay7(h:af [.w A d a b,.u c,.k A 138 f g d a (c+1) b,.b (decide (e<b)) false]):
 aT (ap f120 0) (Dd A c e C f g) (.exit 0) (Oj A C d a):=
 h.aQ [5,0] [1000000000]
theorem ay8(h:af [.l [] [6,0,1,5] [1000000000] (ap f120 0) (Dd A c 0 [] a b) (.exit 0) (Oj A C d e)]):
 cW 120 [a7.cur [D.J 1 A,I a,I b] [D.J 1 A,I d,I e],a7.ro (ag c)] (bi.vals [aE 3 C]):=
 h.cX
theorem ay9(h:af [.a (.e3 [none] (bi.iZ [some 0,none,none] [D.J 1 A,I c,I d])),.a (.e3 [some [D.J 1 A,I e,I f]] (bi.vals [.agg (bg F g i)])),.a (.e3 [some [D.J 1 A,I a,I b]] (bi.vals [aE 5 C])),.a (.e3 [some [D.J 1 A,I j,I k],none] (bi.vals [aE 3 E])),.p (cH prog 117 [a7.ro (aE 1 A)] (bi.iZ [some 0,none,none] [D.J 1 A,I c,I d])),.p (cH prog 118 [a7.cur [D.J 1 A,I c,I d] [D.J 1 A,I e,I f]] (bi.vals [.agg (bg F g i)])),.p (cH prog 119 [a7.cur [D.J 1 A,I e,I f] [D.J 1 A,I a,I b]] (bi.vals [aE 5 C])),.p (cH prog 120 [a7.cur [D.J 1 A,I a,I b] [D.J 1 A,I j,I k],a7.ro (ag 80)] (bi.vals [aE 3 E]))]):
 av 13 [aE 1 A] [.agg (bg F g i),aE 5 C,aE 3 E]:=
 h.of
