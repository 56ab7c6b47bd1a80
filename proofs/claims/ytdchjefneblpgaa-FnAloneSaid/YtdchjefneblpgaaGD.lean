import Derived.Test.YtdchjefneblpgaaGE
set_option linter.unusedVariables false
set_option linter.unusedSimpArgs false
namespace Go.Proofs.Ytdchjefneblpgaa
open Go.Sx Go.RowKit Go.Proofs.Try
variable {a b c d e f g i j k l m n o p a0 cm dH d0 b8 f0 i0 : Int} {A C E F : aE} {q : Bool}
def uv(A:aE)(a b:Int):aG:=bR 32 [(0,.aN (.one (.dL 1000000100 1 A))),(3,bB b),(4,bB a)] []
theorem abG(h:al [.f A a true,.b (decide (a<4000)) true,.v (b*131),.x A a [D.v (Value.int IntKind.u8 c)],.a (.lr (bB d)),.v c,.v (b*131+c),.v (b*131+c+7),.p (jN prog BinOp.and 3 (Operand.tmp 26) (Operand.const (Value.int IntKind.i64 1073741823)) (Value.int IntKind.i64 (b*131+c+7)) (Value.int IntKind.i64 1073741823) (Value.int IntKind.i64 d)),.u a]):
 bp (aF f40 0) (uv A a b) .normal (uv A (a+1) d):=
 h.bu [4,0,3] []
def zQ(A:aE)(a:Int):aG:=bR 32 [(0,.aN (.one (.dL 1000000100 1 A))),(3,bB a)] []
theorem aa5(h:al [.f A a true,.b (decide (a<4000)) false]):
 bp (aF f40 0) (uv A a b) (.exit 0) (zQ A b):=
 h.bu [0,3] []
theorem aa6(h:al [.f A a false]):
 bp (aF f40 0) (uv A a b) (.exit 0) (zQ A b):=
 h.bu [0,3] []
theorem aa7(h:al [.v (94701+(A.length:Int)),.l [] [4,0,3] [] (aF f40 0) (uv A 0 (94701+(A.length:Int))) (.exit 0) (zQ A a)]):
 dx 40 [ba.ro (aB 1 A)] (bd.gW [some 0,none,none] [D.aa 1 A,I 0,I a]):=
 h.dB
def Nz(a b c d e:Int)(l:List O):List O:=.a .wr::.a .wr::.a (.lr (bB a))::.a (.lr (bB b))::.a (.lr (bB c))::.a (.lr (bB d))::.p (jN prog BinOp.shr 3 (Operand.tmp 16) (Operand.const (Value.int IntKind.u64 33)) (Value.int IntKind.i64 (IntKind.i64.wrap (IntKind.i64.wrap (e*6364136223846793005)+1442695040888963407))) (Value.int IntKind.u64 33) (Value.int IntKind.i64 a))::.p (jN prog BinOp.shr 3 (Operand.tmp 21) (Operand.const (Value.int IntKind.u64 45)) (Value.int IntKind.i64 (IntKind.i64.wrap (IntKind.i64.wrap (e*6364136223846793005)+1442695040888963407))) (Value.int IntKind.u64 45) (Value.int IntKind.i64 b))::.p (jN prog BinOp.xor 3 (Operand.tmp 17) (Operand.tmp 22) (Value.int IntKind.i64 a) (Value.int IntKind.i64 b) (Value.int IntKind.i64 c))::.p (jN prog BinOp.and 3 (Operand.tmp 23) (Operand.const (Value.int IntKind.i64 255)) (Value.int IntKind.i64 c) (Value.int IntKind.i64 255) (Value.int IntKind.i64 d))::l
theorem aa8(h:al (Nz c d e f b [.i A a [D.v (Value.int IntKind.u8 i)],.a .wr,.a .wr,.a (.lr (bB g)),.p (jN prog BinOp.and 3 (Operand.tmp 47) (Operand.const (Value.int IntKind.i64 255)) (Value.int IntKind.i64 (IntKind.i64.wrap (f+IntKind.i64.wrap i))) (Value.int IntKind.i64 255) (Value.int IntKind.i64 g)),.u a])):
 dx 70 [ba.cur [D.aa 1 A,I a,I b] [D.aa 1 A,I (a+1),I (IntKind.i64.wrap (IntKind.i64.wrap (b*6364136223846793005)+1442695040888963407))]] (bd.vals [ao g]):=
 h.dB
theorem aa9(h:al (Nz c d e f a [.f A b false])):
 dx 70 [ba.cur [D.aa 1 A,I b,I a] [D.aa 1 A,I b,I (IntKind.i64.wrap (IntKind.i64.wrap (a*6364136223846793005)+1442695040888963407))]] (bd.vals [ao f]):=
 h.dB
theorem aba(h:al [.b (decide (a<=0)) false,.b (decide (a<=256)) true,.a (.eI [some [D.aa 1 A,I b,I c]] (bd.vals [ao d])),.p (cv prog 70 [ba.cur [D.aa 1 A,I e,I f] [D.aa 1 A,I b,I c]] (bd.vals [ao d])),.p (a≠0)]):
 dx 48 [ba.cur [D.aa 1 A,I e,I f] [D.aa 1 A,I b,I c],ba.ro (ao a)] (bd.vals [ao (d.tmod a)]):=
 h.dB
theorem abb(h:al [.b (decide (d<=0)) false,.b (decide (d<=256)) false,.a (.eI [some [D.aa 1 A,I l,I m]] (bd.vals [ao b])),.a (.eI [some [D.aa 1 A,I n,I f]] (bd.vals [ao a])),.a (.eI [some [D.aa 1 A,I g,I i]] (bd.vals [ao c])),.a (.eI [some [D.aa 1 A,I j,I k]] (bd.vals [ao e])),.p (cv prog 70 [ba.cur [D.aa 1 A,I o,I p] [D.aa 1 A,I l,I m]] (bd.vals [ao b])),.p (cv prog 70 [ba.cur [D.aa 1 A,I l,I m] [D.aa 1 A,I n,I f]] (bd.vals [ao a])),.p (cv prog 70 [ba.cur [D.aa 1 A,I n,I f] [D.aa 1 A,I g,I i]] (bd.vals [ao c])),.p (cv prog 70 [ba.cur [D.aa 1 A,I g,I i] [D.aa 1 A,I j,I k]] (bd.vals [ao e])),.v (b*16777216),.v (a*65536),.v (b*16777216+a*65536),.v (c*256),.v (b*16777216+a*65536+c*256),.v (b*16777216+a*65536+c*256+e),.p (d≠0)]):
 dx 48 [ba.cur [D.aa 1 A,I o,I p] [D.aa 1 A,I j,I k],ba.ro (ao d)] (bd.vals [ao ((b*16777216+a*65536+c*256+e).tmod d)]):=
 h.dB
theorem abd(h:al [.w A a b c,.k A 48 d e a b f c]):
 dx 42 [ba.cur [D.aa 1 A,I d,I e] [D.aa 1 A,I a,I b],ba.ro (ao f)] (bd.vals [au (c==0)]):=
 h.dB
theorem abe(h:al [.w A a b c,.k A 48 d e a b (C.length:Int) c,.x C c [I f]]):
 dx 66 [ba.cur [D.aa 1 A,I d,I e] [D.aa 1 A,I a,I b],ba.ro (aB 1 C)] (bd.vals [ao f]):=
 h.dB
theorem abf(h:al [.w A b c d,.w A e f a,.k A 48 g i b c 4 d,.k A 48 b c e f 5 a]):
 dx 79 [ba.cur [D.aa 1 A,I g,I i] [D.aa 1 A,I e,I f]] (bd.vals [.agg [I d,I a]]):=
 h.dB
def F8(A:aE)(a b c d e f g i j:Int)(l:List O):List O:=.a (.eI [some [D.aa 1 A,I a,I b]] (bd.vals [.agg [I c,I d]]))::.w A e f g::.p (cv prog 79 [ba.cur [D.aa 1 A,I i,I j] [D.aa 1 A,I a,I b]] (bd.vals [.agg [I c,I d]]))::.k A 48 a b e f 10 g::l
theorem acK(h:al (F8 A f g m i j a b k l [.b (b==0) true,.w A c d e,.p (cv prog 66 [ba.cur [D.aa 1 A,I j,I a] [D.aa 1 A,I c,I d],ba.ro (.one (.aa 1 [[I (-1)],[I 3],[I 4],[I 9223372036854775807]]))] (bd.vals [ao e]))])):
 dx 69 [ba.cur [D.aa 1 A,I k,I l] [D.aa 1 A,I c,I d]] (bd.vals [.agg [I e,I i]]):=
 h.dB
theorem acL(h:al (F8 A f g i m j b a k l [.b (a==0) false,.b (a==1) true,.w A c d e,.p (cv prog 66 [ba.cur [D.aa 1 A,I j,I b] [D.aa 1 A,I c,I d],ba.ro (.one (.aa 1 [[I (-1)],[I 5],[I 6],[I 7],[I (-9223372036854775808)]]))] (bd.vals [ao e]))])):
 dx 69 [ba.cur [D.aa 1 A,I k,I l] [D.aa 1 A,I c,I d]] (bd.vals [.agg [I i,I e]]):=
 h.dB
theorem acM(h:al (F8 A c d e f g b a i j [.b (a==0) false,.b (a==1) false])):
 dx 69 [ba.cur [D.aa 1 A,I i,I j] [D.aa 1 A,I g,I b]] (bd.vals [.agg [I e,I f]]):=
 h.dB
theorem acN(h:al [.w A j k l,.a (.eI [some [D.aa 1 A,I m,I n]] (bd.vals [.agg [I a,I b]])),.w A c d e,.w A f g i,.k A 48 o p j k 5 l,.p (cv prog 79 [ba.cur [D.aa 1 A,I j,I k] [D.aa 1 A,I m,I n]] (bd.vals [.agg [I a,I b]])),.k A 48 m n c d 12 e,.k A 48 c d f g 40 i]):
 dx 68 [ba.cur [D.aa 1 A,I o,I p] [D.aa 1 A,I f,I g]] (bd.vals [.agg (bx l a b e i)]):=
 h.dB
def xd(A:aE)(a b c d e f g i j k m n:Int)(l:List O):List O:=.a (.eI [some [D.aa 1 A,I a,I b]] (bd.vals [.agg (bx c d e f g)]))::.w A i j k::.p (cv prog 68 [ba.cur [D.aa 1 A,I m,I n] [D.aa 1 A,I a,I b]] (bd.vals [.agg (bx c d e f g)]))::.k A 48 a b i j 12 k::l
theorem acO(h:al (xd A i j p k l m a b c d n o [.b (d==0) true,.w A e f g,.p (cv prog 66 [ba.cur [D.aa 1 A,I b,I c] [D.aa 1 A,I e,I f],ba.ro (.one (.aa 1 [[I (-1)],[I 7],[I 8]]))] (bd.vals [ao g]))])):
 dx 47 [ba.cur [D.aa 1 A,I n,I o] [D.aa 1 A,I e,I f]] (bd.vals [.agg (bx g k l m a)]):=
 h.dB
theorem acP(h:al (xd A j k l p a0 m b c d a n o [.b (a==0) false,.b (a==1) true,.a (.eI [some [D.aa 1 A,I e,I f]] (bd.vals [.agg [I g,I i]])),.p (cv prog 69 [ba.cur [D.aa 1 A,I c,I d] [D.aa 1 A,I e,I f]] (bd.vals [.agg [I g,I i]]))])):
 dx 47 [ba.cur [D.aa 1 A,I n,I o] [D.aa 1 A,I e,I f]] (bd.vals [.agg (bx l g i m b)]):=
 h.dB
theorem acQ(h:al (xd A i j k l m p b c d a n o [.b (a==0) false,.b (a==1) false,.b (a==2) true,.w A e f g,.p (cv prog 66 [ba.cur [D.aa 1 A,I c,I d] [D.aa 1 A,I e,I f],ba.ro (.one (.aa 1 [[I (-1)],[I 99],[I 100],[I (-9223372036854775808)]]))] (bd.vals [ao g]))])):
 dx 47 [ba.cur [D.aa 1 A,I n,I o] [D.aa 1 A,I e,I f]] (bd.vals [.agg (bx k l m g b)]):=
 h.dB
theorem acR(h:al (xd A g i j k l m o b c a n p [.b (a==0) false,.b (a==1) false,.b (a==2) false,.b (a==3) true,.w A d e f,.p (cv prog 66 [ba.cur [D.aa 1 A,I b,I c] [D.aa 1 A,I d,I e],ba.ro (.one (.aa 1 [[I (-1)],[I 999],[I 1000],[I 9223372036854775807]]))] (bd.vals [ao f]))])):
 dx 47 [ba.cur [D.aa 1 A,I n,I p] [D.aa 1 A,I d,I e]] (bd.vals [.agg (bx j k l m f)]):=
 h.dB
theorem acS(h:al (xd A e f g i j k b c d a l m [.b (a==0) false,.b (a==1) false,.b (a==2) false,.b (a==3) false])):
 dx 47 [ba.cur [D.aa 1 A,I l,I m] [D.aa 1 A,I c,I d]] (bd.vals [.agg (bx g i j k b)]):=
 h.dB
def NA(A:aE)(a b c d e f g i:Int)(q:Bool)(j k:Int)(l:List O):List O:=.w A a b c::.w A d e f::.y A g i q::.k A 48 j k a b 3 c::.v (1+c)::.k A 48 a b d e 3 f::.v (1+f)::.m A 42 d e g i 3 q::l
def xb(A:aE)(a b c d e f g i:Int)(q:Bool)(j k m n o p dy fU bK d1 aK f1 g1 i1:Int)(l:List O):List O:=NA A a b c d e f g i q j k (.b q true::.w A m n o::.w A p dy fU::.w A bK d1 aK::.w A f1 g1 i1::.k A 48 g i m n 3 o::.v (1+o)::.k A 48 m n p dy 4 fU::.k A 48 p dy bK d1 3 aK::.v (1+aK)::.k A 48 bK d1 f1 g1 6 i1::l)
theorem acT{A:aE}{f0 i0 cm dH e d0 b8 c f g:Int}{q:Bool}{i j a k l b m n d o p a0:Int}{d31 d32 d33 d34:D}(h:al (xb A cm dH e d0 b8 c f g q f0 i0 i j a k l b m n d o p a0 [.b (a0==0) true,.p ((0:Int)<=3),.p (3<(↑[[I 1,I 0,I 0,D.aa 1 [[I 1]]],[I 6,I 0,I 0,D.aa 1 [[I 2],[I 5]]],[I 4,I (1+a),I 0,D.aa 1 [[I 3]]],[I 2,I b,I 0,D.aa 1 [[I 4]]],[I 7,I 0,I 0,D.aa 1 [[I 1]]],[I 8,I 0,I 0,D.v (bE)]].length:Int)),.e [[I 1,I 0,I 0,D.aa 1 [[I 1]]],[I 6,I 0,I 0,D.aa 1 [[I 2],[I 5]]],[I 4,I (1+a),I 0,D.aa 1 [[I 3]]],[I 2,I b,I 0,D.aa 1 [[I 4]]],[I 7,I 0,I 0,D.aa 1 [[I 1]]],[I 8,I 0,I 0,D.v (bE)]] 3 [d31,d32,d33,d34]])):
 dx 44 [ba.cur [D.aa 1 A,I f0,I i0] [D.aa 1 A,I o,I p]] (bd.vals [.agg (bj ([[I 1,I 0,I 0,D.aa 1 [[I 1]]],[I 6,I 0,I 0,D.aa 1 [[I 2],[I 5]]],[I 4,I (1+a),I 0,D.aa 1 [[I 3]]],[I 2,I b,I 0,D.aa 1 [[I 4]]],[I 7,I 0,I 0,D.aa 1 [[I 1]]],[I 8,I 0,I 0,D.v (bE)]].set 3 [I 3,I (1+d),I 0,D.aa 1 [[I 4]]]) (1+e) (1+c))]):=
 h.dB
theorem acU{A:aE}{f0 i0 cm dH e d0 b8 c f g:Int}{q:Bool}{i j a k l b m n o p a0 d:Int}{d31 d32 d33 d34:D}(h:al (xb A cm dH e d0 b8 c f g q f0 i0 i j a k l b m n o p a0 d [.b (d==0) false,.b (d==1) true,.p ((0:Int)<=4),.p (4<(↑[[I 1,I 0,I 0,D.aa 1 [[I 1]]],[I 6,I 0,I 0,D.aa 1 [[I 2],[I 5]]],[I 4,I (1+a),I 0,D.aa 1 [[I 3]]],[I 2,I b,I 0,D.aa 1 [[I 4]]],[I 7,I 0,I 0,D.aa 1 [[I 1]]],[I 8,I 0,I 0,D.v (bE)]].length:Int)),.e [[I 1,I 0,I 0,D.aa 1 [[I 1]]],[I 6,I 0,I 0,D.aa 1 [[I 2],[I 5]]],[I 4,I (1+a),I 0,D.aa 1 [[I 3]]],[I 2,I b,I 0,D.aa 1 [[I 4]]],[I 7,I 0,I 0,D.aa 1 [[I 1]]],[I 8,I 0,I 0,D.v (bE)]] 4 [d31,d32,d33,d34]])):
 dx 44 [ba.cur [D.aa 1 A,I f0,I i0] [D.aa 1 A,I p,I a0]] (bd.vals [.agg (bj ([[I 1,I 0,I 0,D.aa 1 [[I 1]]],[I 6,I 0,I 0,D.aa 1 [[I 2],[I 5]]],[I 4,I (1+a),I 0,D.aa 1 [[I 3]]],[I 2,I b,I 0,D.aa 1 [[I 4]]],[I 7,I 0,I 0,D.aa 1 [[I 1]]],[I 8,I 0,I 0,D.v (bE)]].set 4 [I 8,I 0,I 0,D.v (bE)]) (1+e) (1+c))]):=
 h.dB
theorem acV{A:aE}{f0 i0 cm dH e d0 b8 d f g:Int}{q:Bool}{i j a k l b m n o p a0 c:Int}{d31 d32 d33 d34:D}(h:al (xb A cm dH e d0 b8 d f g q f0 i0 i j a k l b m n o p a0 c [.b (c==0) false,.b (c==1) false,.b (c==2) true,.p ((0:Int)<=2),.p (2<(↑[[I 1,I 0,I 0,D.aa 1 [[I 1]]],[I 6,I 0,I 0,D.aa 1 [[I 2],[I 5]]],[I 4,I (1+a),I 0,D.aa 1 [[I 3]]],[I 2,I b,I 0,D.aa 1 [[I 4]]],[I 7,I 0,I 0,D.aa 1 [[I 1]]],[I 8,I 0,I 0,D.v (bE)]].length:Int)),.e [[I 1,I 0,I 0,D.aa 1 [[I 1]]],[I 6,I 0,I 0,D.aa 1 [[I 2],[I 5]]],[I 4,I (1+a),I 0,D.aa 1 [[I 3]]],[I 2,I b,I 0,D.aa 1 [[I 4]]],[I 7,I 0,I 0,D.aa 1 [[I 1]]],[I 8,I 0,I 0,D.v (bE)]] 2 [d31,d32,d33,d34]])):
 dx 44 [ba.cur [D.aa 1 A,I f0,I i0] [D.aa 1 A,I p,I a0]] (bd.vals [.agg (bj ([[I 1,I 0,I 0,D.aa 1 [[I 1]]],[I 6,I 0,I 0,D.aa 1 [[I 2],[I 5]]],[I 4,I (1+a),I 0,D.aa 1 [[I 3]]],[I 2,I b,I 0,D.aa 1 [[I 4]]],[I 7,I 0,I 0,D.aa 1 [[I 1]]],[I 8,I 0,I 0,D.v (bE)]].set 2 [d31,d32,d33,D.aa 1 [[I 3],[I 4]]]) (1+e) (1+d))]):=
 h.dB
theorem acW{A:aE}{f0 i0 cm dH e d0 b8 d f g:Int}{q:Bool}{i j a k l b m n o p a0 c:Int}{d31 d32 d33 d34:D}(h:al (xb A cm dH e d0 b8 d f g q f0 i0 i j a k l b m n o p a0 c [.b (c==0) false,.b (c==1) false,.b (c==2) false,.b (c==3) true,.a .wr,.p (([[I 1,I 0,I 0,D.aa 1 [[I 1]]],[I 6,I 0,I 0,D.aa 1 [[I 2],[I 5]]],[I 4,I (1+a),I 0,D.aa 1 [[I 3]]],[I 2,I b,I 0,D.aa 1 [[I 4]]],[I 7,I 0,I 0,D.aa 1 [[I 1]]],[I 8,I 0,I 0,D.v (bE)]].length+[[I 8,I 0,I 0,D.v (bE)]].length)*48<=140737488355328),.p ([[I 1,I 0,I 0,D.aa 1 [[I 1]]],[I 6,I 0,I 0,D.aa 1 [[I 2],[I 5]]],[I 4,I (1+a),I 0,D.aa 1 [[I 3]]],[I 2,I b,I 0,D.aa 1 [[I 4]]],[I 7,I 0,I 0,D.aa 1 [[I 1]]],[I 8,I 0,I 0,D.v (bE)]].length+[[I 8,I 0,I 0,D.v (bE)]].length<=9223372036854775807),.p ((0:Int)<=0),.p (0<(↑([[I 1,I 0,I 0,D.aa 1 [[I 1]]],[I 6,I 0,I 0,D.aa 1 [[I 2],[I 5]]],[I 4,I (1+a),I 0,D.aa 1 [[I 3]]],[I 2,I b,I 0,D.aa 1 [[I 4]]],[I 7,I 0,I 0,D.aa 1 [[I 1]]],[I 8,I 0,I 0,D.v (bE)]]++[[I 8,I 0,I 0,D.v (bE)]]).length:Int)),.e ([[I 1,I 0,I 0,D.aa 1 [[I 1]]],[I 6,I 0,I 0,D.aa 1 [[I 2],[I 5]]],[I 4,I (1+a),I 0,D.aa 1 [[I 3]]],[I 2,I b,I 0,D.aa 1 [[I 4]]],[I 7,I 0,I 0,D.aa 1 [[I 1]]],[I 8,I 0,I 0,D.v (bE)]]++[[I 8,I 0,I 0,D.v (bE)]]) 0 [d31,d32,d33,d34]])):
 dx 44 [ba.cur [D.aa 1 A,I f0,I i0] [D.aa 1 A,I p,I a0]] (bd.vals [.agg (bj (([[I 1,I 0,I 0,D.aa 1 [[I 1]]],[I 6,I 0,I 0,D.aa 1 [[I 2],[I 5]]],[I 4,I (1+a),I 0,D.aa 1 [[I 3]]],[I 2,I b,I 0,D.aa 1 [[I 4]]],[I 7,I 0,I 0,D.aa 1 [[I 1]]],[I 8,I 0,I 0,D.v (bE)]]++[[I 8,I 0,I 0,D.v (bE)]]).set 0 [d31,d32,d33,D.aa 1 [[I 1],[I 6]]]) (1+e) (1+d))]):=
 h.dB
theorem acX(h:al (xb A cm dH d d0 b8 b e f q f0 i0 g i c j k l m n o p a0 a [.b (a==0) false,.b (a==1) false,.b (a==2) false,.b (a==3) false])):
 dx 44 [ba.cur [D.aa 1 A,I f0,I i0] [D.aa 1 A,I p,I a0]] (bd.vals [.agg [D.aa 4 [[I 1,I 0,I 0,D.aa 1 [[I 1]]],[I 6,I 0,I 0,D.aa 1 [[I 2],[I 5]]],[I 4,I (1+c),I 0,D.aa 1 [[I 3]]],[I 2,I l,I 0,D.aa 1 [[I 4]]],[I 7,I 0,I 0,D.aa 1 [[I 1]]],[I 8,I 0,I 0,D.v (bE)]],I (1+d),I (1+b)]]):=
 h.dB
def xc(A:aE)(a b c d e f g i:Int)(q:Bool)(j k m n o p dy fU bK d1 aK f1 g1 i1:Int)(l:List O):List O:=NA A a b c d e f g i q j k (.b q false::.w A m n o::.w A p dy fU::.w A bK d1 aK::.w A f1 g1 i1::.k A 48 g i m n 3 o::.v (1+o)::.k A 48 m n p dy 4 fU::.k A 48 p dy bK d1 3 aK::.v (1+aK)::.k A 48 bK d1 f1 g1 6 i1::l)
theorem acY{A:aE}{f0 i0 cm dH e d0 b8 c f g:Int}{q:Bool}{i j a k l b m n d o p a0:Int}{d31 d32 d33 d34:D}(h:al (xc A cm dH e d0 b8 c f g q f0 i0 i j a k l b m n d o p a0 [.b (a0==0) true,.p ((0:Int)<=3),.p (3<(↑[[I 1,I 0,I 0,D.aa 1 [[I 1]]],[I 5,I 0,I 0,D.aa 1 [[I 2],[I 5]]],[I 4,I (1+a),I 0,D.aa 1 [[I 3]]],[I 2,I b,I 0,D.aa 1 [[I 4]]],[I 7,I 0,I 0,D.aa 1 [[I 1]]],[I 8,I 0,I 0,D.v (bE)]].length:Int)),.e [[I 1,I 0,I 0,D.aa 1 [[I 1]]],[I 5,I 0,I 0,D.aa 1 [[I 2],[I 5]]],[I 4,I (1+a),I 0,D.aa 1 [[I 3]]],[I 2,I b,I 0,D.aa 1 [[I 4]]],[I 7,I 0,I 0,D.aa 1 [[I 1]]],[I 8,I 0,I 0,D.v (bE)]] 3 [d31,d32,d33,d34]])):
 dx 44 [ba.cur [D.aa 1 A,I f0,I i0] [D.aa 1 A,I o,I p]] (bd.vals [.agg (bj ([[I 1,I 0,I 0,D.aa 1 [[I 1]]],[I 5,I 0,I 0,D.aa 1 [[I 2],[I 5]]],[I 4,I (1+a),I 0,D.aa 1 [[I 3]]],[I 2,I b,I 0,D.aa 1 [[I 4]]],[I 7,I 0,I 0,D.aa 1 [[I 1]]],[I 8,I 0,I 0,D.v (bE)]].set 3 [I 3,I (1+d),I 0,D.aa 1 [[I 4]]]) (1+e) (1+c))]):=
 h.dB
theorem acZ{A:aE}{f0 i0 cm dH e d0 b8 c f g:Int}{q:Bool}{i j a k l b m n o p a0 d:Int}{d31 d32 d33 d34:D}(h:al (xc A cm dH e d0 b8 c f g q f0 i0 i j a k l b m n o p a0 d [.b (d==0) false,.b (d==1) true,.p ((0:Int)<=4),.p (4<(↑[[I 1,I 0,I 0,D.aa 1 [[I 1]]],[I 5,I 0,I 0,D.aa 1 [[I 2],[I 5]]],[I 4,I (1+a),I 0,D.aa 1 [[I 3]]],[I 2,I b,I 0,D.aa 1 [[I 4]]],[I 7,I 0,I 0,D.aa 1 [[I 1]]],[I 8,I 0,I 0,D.v (bE)]].length:Int)),.e [[I 1,I 0,I 0,D.aa 1 [[I 1]]],[I 5,I 0,I 0,D.aa 1 [[I 2],[I 5]]],[I 4,I (1+a),I 0,D.aa 1 [[I 3]]],[I 2,I b,I 0,D.aa 1 [[I 4]]],[I 7,I 0,I 0,D.aa 1 [[I 1]]],[I 8,I 0,I 0,D.v (bE)]] 4 [d31,d32,d33,d34]])):
 dx 44 [ba.cur [D.aa 1 A,I f0,I i0] [D.aa 1 A,I p,I a0]] (bd.vals [.agg (bj ([[I 1,I 0,I 0,D.aa 1 [[I 1]]],[I 5,I 0,I 0,D.aa 1 [[I 2],[I 5]]],[I 4,I (1+a),I 0,D.aa 1 [[I 3]]],[I 2,I b,I 0,D.aa 1 [[I 4]]],[I 7,I 0,I 0,D.aa 1 [[I 1]]],[I 8,I 0,I 0,D.v (bE)]].set 4 [I 8,I 0,I 0,D.v (bE)]) (1+e) (1+c))]):=
 h.dB
theorem ac0{A:aE}{f0 i0 cm dH e d0 b8 d f g:Int}{q:Bool}{i j a k l b m n o p a0 c:Int}{d31 d32 d33 d34:D}(h:al (xc A cm dH e d0 b8 d f g q f0 i0 i j a k l b m n o p a0 c [.b (c==0) false,.b (c==1) false,.b (c==2) true,.p ((0:Int)<=2),.p (2<(↑[[I 1,I 0,I 0,D.aa 1 [[I 1]]],[I 5,I 0,I 0,D.aa 1 [[I 2],[I 5]]],[I 4,I (1+a),I 0,D.aa 1 [[I 3]]],[I 2,I b,I 0,D.aa 1 [[I 4]]],[I 7,I 0,I 0,D.aa 1 [[I 1]]],[I 8,I 0,I 0,D.v (bE)]].length:Int)),.e [[I 1,I 0,I 0,D.aa 1 [[I 1]]],[I 5,I 0,I 0,D.aa 1 [[I 2],[I 5]]],[I 4,I (1+a),I 0,D.aa 1 [[I 3]]],[I 2,I b,I 0,D.aa 1 [[I 4]]],[I 7,I 0,I 0,D.aa 1 [[I 1]]],[I 8,I 0,I 0,D.v (bE)]] 2 [d31,d32,d33,d34]])):
 dx 44 [ba.cur [D.aa 1 A,I f0,I i0] [D.aa 1 A,I p,I a0]] (bd.vals [.agg (bj ([[I 1,I 0,I 0,D.aa 1 [[I 1]]],[I 5,I 0,I 0,D.aa 1 [[I 2],[I 5]]],[I 4,I (1+a),I 0,D.aa 1 [[I 3]]],[I 2,I b,I 0,D.aa 1 [[I 4]]],[I 7,I 0,I 0,D.aa 1 [[I 1]]],[I 8,I 0,I 0,D.v (bE)]].set 2 [d31,d32,d33,D.aa 1 [[I 3],[I 4]]]) (1+e) (1+d))]):=
 h.dB
theorem ac1{A:aE}{f0 i0 cm dH e d0 b8 d f g:Int}{q:Bool}{i j a k l b m n o p a0 c:Int}{d31 d32 d33 d34:D}(h:al (xc A cm dH e d0 b8 d f g q f0 i0 i j a k l b m n o p a0 c [.b (c==0) false,.b (c==1) false,.b (c==2) false,.b (c==3) true,.a .wr,.p (([[I 1,I 0,I 0,D.aa 1 [[I 1]]],[I 5,I 0,I 0,D.aa 1 [[I 2],[I 5]]],[I 4,I (1+a),I 0,D.aa 1 [[I 3]]],[I 2,I b,I 0,D.aa 1 [[I 4]]],[I 7,I 0,I 0,D.aa 1 [[I 1]]],[I 8,I 0,I 0,D.v (bE)]].length+[[I 8,I 0,I 0,D.v (bE)]].length)*48<=140737488355328),.p ([[I 1,I 0,I 0,D.aa 1 [[I 1]]],[I 5,I 0,I 0,D.aa 1 [[I 2],[I 5]]],[I 4,I (1+a),I 0,D.aa 1 [[I 3]]],[I 2,I b,I 0,D.aa 1 [[I 4]]],[I 7,I 0,I 0,D.aa 1 [[I 1]]],[I 8,I 0,I 0,D.v (bE)]].length+[[I 8,I 0,I 0,D.v (bE)]].length<=9223372036854775807),.p ((0:Int)<=0),.p (0<(↑([[I 1,I 0,I 0,D.aa 1 [[I 1]]],[I 5,I 0,I 0,D.aa 1 [[I 2],[I 5]]],[I 4,I (1+a),I 0,D.aa 1 [[I 3]]],[I 2,I b,I 0,D.aa 1 [[I 4]]],[I 7,I 0,I 0,D.aa 1 [[I 1]]],[I 8,I 0,I 0,D.v (bE)]]++[[I 8,I 0,I 0,D.v (bE)]]).length:Int)),.e ([[I 1,I 0,I 0,D.aa 1 [[I 1]]],[I 5,I 0,I 0,D.aa 1 [[I 2],[I 5]]],[I 4,I (1+a),I 0,D.aa 1 [[I 3]]],[I 2,I b,I 0,D.aa 1 [[I 4]]],[I 7,I 0,I 0,D.aa 1 [[I 1]]],[I 8,I 0,I 0,D.v (bE)]]++[[I 8,I 0,I 0,D.v (bE)]]) 0 [d31,d32,d33,d34]])):
 dx 44 [ba.cur [D.aa 1 A,I f0,I i0] [D.aa 1 A,I p,I a0]] (bd.vals [.agg (bj (([[I 1,I 0,I 0,D.aa 1 [[I 1]]],[I 5,I 0,I 0,D.aa 1 [[I 2],[I 5]]],[I 4,I (1+a),I 0,D.aa 1 [[I 3]]],[I 2,I b,I 0,D.aa 1 [[I 4]]],[I 7,I 0,I 0,D.aa 1 [[I 1]]],[I 8,I 0,I 0,D.v (bE)]]++[[I 8,I 0,I 0,D.v (bE)]]).set 0 [d31,d32,d33,D.aa 1 [[I 1],[I 6]]]) (1+e) (1+d))]):=
 h.dB
theorem ac2(h:al (xc A cm dH d d0 b8 b e f q f0 i0 g i c j k l m n o p a0 a [.b (a==0) false,.b (a==1) false,.b (a==2) false,.b (a==3) false])):
 dx 44 [ba.cur [D.aa 1 A,I f0,I i0] [D.aa 1 A,I p,I a0]] (bd.vals [.agg [D.aa 4 [[I 1,I 0,I 0,D.aa 1 [[I 1]]],[I 5,I 0,I 0,D.aa 1 [[I 2],[I 5]]],[I 4,I (1+c),I 0,D.aa 1 [[I 3]]],[I 2,I l,I 0,D.aa 1 [[I 4]]],[I 7,I 0,I 0,D.aa 1 [[I 1]]],[I 8,I 0,I 0,D.v (bE)]],I (1+d),I (1+b)]]):=
 h.dB
def LW(C A:aE)(b c d e f a:Int):aG:=bR 75 [(0,bC 1000000000),(2,bC 2),(3,bC 3),(4,bB d),(5,bC 1000000000),(6,az.aN (bi.agg [bU 70000 4 A,aS b,aS c])),(7,bC 1000000000),(8,bC 3),(9,az.aN (bi.one (bU 70000 4 A))),(10,bB (A.length:Int)),(11,bB d),(12,bC 1000000000),(13,bB a),(14,.aN (.one (.bP (a==0)))),(15,.aN (.one (.bP (a==0))))] [(3,[bU 70000 4 A,aS b,aS c]),(2,[.v (bE),aS 0,aS 0]),(1000000000,[.dL 1000000100 1 C,aS e,aS f])]
def E6(E A:aE)(f g a e i j c d b:Int)(C:aE):aG:=bR 75 [(0,bC 1000000000),(2,bC 2),(3,bC 3),(4,bB a),(5,bC 1000000000),(6,az.aN (bi.agg [bU 70000 4 (A.set a.toNat (aX c d b C)),aS f,aS g])),(7,bC 1000000000),(8,bC 3),(9,az.aN (bi.one (bU 70000 4 (A.set a.toNat (aX c d b C))))),(10,bB (A.length:Int)),(11,bB a),(12,bC 1000000000),(13,bB e),(14,.aN (.one (.bP (e==0)))),(15,.aN (.one (.bP (e==0)))),(16,bC 3),(17,az.aN (bi.one (bU 70000 4 (A.set a.toNat (aX c d b C))))),(18,bB a),(19,bC 1000000000),(20,az.aN (bi.agg [aS c,aS d,aS b,.b5])),(21,.aN (.one (.ep (Tag.own 70000) 4 (A.set a.toNat (aX c d b C)) a.toNat 0)))] [(3,[bU 70000 4 (A.set a.toNat (aX c d b C)),aS f,aS g]),(2,[.v (bE),aS 0,aS 0]),(1000000000,[.dL 1000000100 1 E,aS i,aS j])]
theorem ac3{A C:aE}{n o a g i m b c d e f:Int}{E:aE}{j k l:Int}{F:aE}
  (h:cn [cv prog 65 [ba.cur [D.aa 1 A,I g,I i] [D.aa 1 A,I b,I c]] (bd.vals [.agg (aX d e f E)]),0<=a,a<(C.length:Int),C[a.toNat]?=some (aX j k l F)]):
  gF prog (ev f45 5) (LW A C n o a g i m) (E6 A C n o a m b c d e f E):=
 .of [[],[],[],[],[.eI [some [D.aa 1 A,I b,I c]] (bd.vals [.agg (aX d e f E)])],[],[.el (aX j k l F)]] [[],[],[],[],[cv prog 65 [ba.cur [D.aa 1 A,I g,I i] [D.aa 1 A,I b,I c]] (bd.vals [.agg (aX d e f E)])],[0<=a,a<(C.length:Int)],[C[a.toNat]?=some (aX j k l F)]] (by kernel_rfl) (by kernel_rfl) (by kernel_rfl) h
def F9(A:aE)(a b:Int)(C:aE)(c d e f g i j k m n:Int)(l:List O):List O:=.a (.eI [some [D.aa 1 A,I a,I b]] (bd.vals [.agg (bj C c d)]))::.w A e f g::.w A i j k::.p (cv prog 44 [ba.cur [D.aa 1 A,I m,I n] [D.aa 1 A,I a,I b]] (bd.vals [.agg (bj C c d)]))::.k A 48 a b e f (C.length:Int) g::.k A 48 e f i j 12 k::l
theorem ac4(h:al (F9 A o p C c d e f a g i b a0 cm [.b (b==0) true,.a (.nU (E6 A C c d a b j k l m n E)),.p (gF prog (ev f45 5) (LW A C c d a g i b) (E6 A C c d a b j k l m n E))])):
 dx 45 [ba.cur [D.aa 1 A,I a0,I cm] [D.aa 1 A,I j,I k]] (bd.vals [.agg (bj (C.set a.toNat (aX l m n E)) c d)]):=
 h.dB
theorem ac5(h:al (F9 A j k C p l b c n d e a m o [.b (a==0) false,.b (a==1) true,.w A f g i,.p (cv prog 66 [ba.cur [D.aa 1 A,I d,I e] [D.aa 1 A,I f,I g],ba.ro (.one (.aa 1 [[I 0],[I 4],[I 5],[I (-1)]]))] (bd.vals [ao i]))])):
 dx 45 [ba.cur [D.aa 1 A,I m,I o] [D.aa 1 A,I f,I g]] (bd.vals [.agg (bj C i l)]):=
 h.dB
def xe(A:aE)(a b:Int)(C:aE)(c d e f g i j k m n:Int)(l:List O):List O:=F9 A a b C c d e f g i j k m n (.b (k==0) false::.b (k==1) false::l)
theorem ac6(h:al (xe A j k C l p b c n d e a m o [.b (a==2) true,.w A f g i,.p (cv prog 66 [ba.cur [D.aa 1 A,I d,I e] [D.aa 1 A,I f,I g],ba.ro (.one (.aa 1 [[I 0],[I 4],[I 5],[I (-1)]]))] (bd.vals [ao i]))])):
 dx 45 [ba.cur [D.aa 1 A,I m,I o] [D.aa 1 A,I f,I g]] (bd.vals [.agg (bj C l i)]):=
 h.dB
def LX(C A:aE)(b c d e f a:Int):aG:=bR 75 [(0,bC 1000000000),(2,bC 2),(3,bC 3),(4,bB d),(5,bC 1000000000),(6,az.aN (bi.agg [bU 70000 4 A,aS b,aS c])),(7,bC 1000000000),(8,bC 3),(9,az.aN (bi.one (bU 70000 4 A))),(10,bB (A.length:Int)),(11,bB d),(12,bC 1000000000),(13,bB a),(14,.aN (.one (.bP (a==0)))),(15,.aN (.one (.bP (a==0)))),(22,.aN (.one (.bP (a==1)))),(23,.aN (.one (.bP (a==1)))),(28,.aN (.one (.bP (a==2)))),(29,.aN (.one (.bP (a==2)))),(34,.aN (.one (.bP (a==3)))),(35,.aN (.one (.bP (a==3))))] [(3,[bU 70000 4 A,aS b,aS c]),(2,[.v (bE),aS 0,aS 0]),(1000000000,[.dL 1000000100 1 C,aS e,aS f])]
def E7(E A:aE)(g i a f:Int)(C:aE)(j k b c d e:Int):aG:=bR 75 [(0,bC 1000000000),(2,bC 2),(3,bC 3),(4,bB a),(5,bC 1000000000),(6,az.aN (bi.agg [.aa (.own 70000) 4 (A.set a.toNat (aX c d e (C++[[I (b-1)]]))),aS g,aS i])),(7,bC 1000000000),(8,bC 3),(9,.aN (.one (.aa (.own 70000) 4 (A.set a.toNat (aX c d e (C++[[I (b-1)]])))))),(10,bB (A.length:Int)),(11,bB a),(12,bC 1000000000),(13,bB f),(14,.aN (.one (.bP (f==0)))),(15,.aN (.one (.bP (f==0)))),(22,.aN (.one (.bP (f==1)))),(23,.aN (.one (.bP (f==1)))),(28,.aN (.one (.bP (f==2)))),(29,.aN (.one (.bP (f==2)))),(34,.aN (.one (.bP (f==3)))),(35,.aN (.one (.bP (f==3)))),(36,bC 3),(37,.aN (.one (.aa (.own 70000) 4 (A.set a.toNat (aX c d e (C++[[I (b-1)]])))))),(38,bB a),(39,bC 3),(40,.aN (.one (.aa (.own 70000) 4 (A.set a.toNat (aX c d e (C++[[I (b-1)]])))))),(41,bB a),(42,.aN (.one (.ep (Tag.own 70000) 4 (A.set a.toNat (aX c d e (C++[[I (b-1)]]))) a.toNat 0))),(43,.aN (.one (.ep (Tag.own 70000) 4 (A.set a.toNat (aX c d e (C++[[I (b-1)]]))) a.toNat 3))),(45,bC 1000000000),(46,bB b),(47,bB (b-1)),(48,.aN (.one (.aa (.own 48) 1 [[I (b-1)]]))),(50,.aN (.one (.ep (Tag.own 70000) 4 (A.set a.toNat (aX c d e (C++[[I (b-1)]]))) a.toNat 0))),(51,.aN (.one (.ep (Tag.own 70000) 4 (A.set a.toNat (aX c d e (C++[[I (b-1)]]))) a.toNat 3)))] [(3,[.aa (.own 70000) 4 (A.set a.toNat (aX c d e (C++[[I (b-1)]]))),aS g,aS i]),(2,[.v (bE),aS 0,aS 0]),(1000000000,[.dL 1000000100 1 E,aS j,aS k])]
theorem ac7{E C:aE}{o p a i j n k l m:Int}{A:aE}{c d b:Int}{d25 d26 d27:D}{e f g:Int}{F:aE}
  (h:cn [0<=a,a<(C.length:Int),C[a.toNat]?=some (aX k l m A),cv prog 48 [ba.cur [D.aa 1 E,I i,I j] [D.aa 1 E,I c,I d],ba.ro (ao 9)] (bd.vals [ao b]),ap .i64 (b-1),(A.length+[[I (b-1)]].length)*8<=140737488355328,A.length+[[I (b-1)]].length<=9223372036854775807,C[a.toNat]?=some [d25,d26,d27,D.aa 1 A],[d25,d26,d27,D.aa 1 A][3]?=some (D.aa 1 A),a.toNat=a.toNat,Flat [[I (b-1)]],0<=a,a<(C.length:Int),C[a.toNat]?=some (aX e f g F),a.toNat=a.toNat]):
  gF prog (ev f45 11) (LX E C o p a i j n) (E7 E C o p a n A c d b e f g):=
 .of [[],[],[],[],[],[],[],[],[.sub,.el (aX k l m A)],[],[.eI [some [D.aa 1 E,I c,I d],none] (bd.vals [ao b])],[],[],[.el [d25,d26,d27,D.aa 1 A]],[],[],[.el (aX e f g F)]] [[],[],[],[],[],[],[0<=a,a<(C.length:Int)],[],[C[a.toNat]?=some (aX k l m A)],[],[cv prog 48 [ba.cur [D.aa 1 E,I i,I j] [D.aa 1 E,I c,I d],ba.ro (ao 9)] (bd.vals [ao b])],[ap .i64 (b-1)],[],[(A.length+[[I (b-1)]].length)*8<=140737488355328,A.length+[[I (b-1)]].length<=9223372036854775807,C[a.toNat]?=some [d25,d26,d27,D.aa 1 A],[d25,d26,d27,D.aa 1 A][3]?=some (D.aa 1 A),a.toNat=a.toNat,Flat [[I (b-1)]]],[0<=a,a<(C.length:Int)],[],[C[a.toNat]?=some (aX e f g F),a.toNat=a.toNat]] (by kernel_rfl) (by kernel_rfl) (by kernel_rfl) h
theorem ac8(h:al (xe A p a0 C c d e f b g i a cm dH [.b (a==2) false,.b (a==3) true,.a (.nU (E7 A C c d b a E j k l m n o)),.p (gF prog (ev f45 11) (LX A C c d b g i a) (E7 A C c d b a E j k l m n o))])):
 dx 45 [ba.cur [D.aa 1 A,I cm,I dH] [D.aa 1 A,I j,I k]] (bd.vals [.agg [D.aa 4 (C.set b.toNat (aX m n o (E++[[I (l-1)]]))),I c,I d]]):=
 h.dB
def wO(A C:aE)(a b c d e f:Int):aG:=bR 75 [(0,bC 1000000000),(2,bC 2),(3,bC 3)] [(3,[bU 70000 4 C,aS a,aS b]),(2,[.v (bE),aS c,aS d]),(1000000000,[.dL 1000000100 1 A,aS e,aS f])]
def zR(A C:aE)(a b c d e f:Int):aG:=bR 75 [(0,bC 1000000000),(2,bC 2),(3,bC 3)] [(3,[bU 70000 4 C,aS a,aS b]),(2,[.v (bE),aS c,aS d]),(1000000000,[.dL 1000000100 1 A,aS e,aS f])]
def we(P:Program)(W:Array Oper)(A C:aE)(a b c d e f g i j:Int):aG:=
 sS P W [[],[],[],[],[.eI [some [D.aa 1 A,I g,I i],none] (bd.vals [ao j])],[],[]] (zR A C a b c d e f)
theorem LY{A C:aE}{d e f g a b i j c:Int}
  (h:cn [cv prog 48 [ba.cur [D.aa 1 A,I a,I b] [D.aa 1 A,I i,I j],ba.ro (ao 2)] (bd.vals [ao c]),ap .i64 (8+c)]):
  gF prog (ev f45 13) (zR A C d e f g a b) (we prog (ev f45 13) A C d e f g a b i j c):=
 .tK [0,0,0,0,1,1,0] h
theorem ac9(h:al [.a (.nU (we prog (ev f45 13) C A a b c d e f g i j)),.p (gF prog (ev f45 13) (zR C A a b c d e f) (we prog (ev f45 13) C A a b c d e f g i j)),.b (decide ((A.length:Int)<8+j)) true,.a .wr,.g A [[I 8,I 0,I 0,D.v (bE)]] 48]):
 bp (aF f45 0) (wO C A a b c d e f) .normal (wO C (A++[[I 8,I 0,I 0,D.v (bE)]]) a b c d g i):=
 h.bu [3,0,2] [3,2,1000000000]
def E8(A C:aE)(a b c d e f:Int):aG:=bR 75 [(0,bC 1000000000),(2,bC 2),(3,bC 3)] [(3,[bU 70000 4 C,aS a,aS b]),(2,[.v (bE),aS c,aS d]),(1000000000,[.dL 1000000100 1 A,aS e,aS f])]
theorem aci(h:al [.a (.nU (we prog (ev f45 13) C A a b c d e f g i j)),.p (gF prog (ev f45 13) (zR C A a b c d e f) (we prog (ev f45 13) C A a b c d e f g i j)),.b (decide ((A.length:Int)<8+j)) false]):
 bp (aF f45 0) (wO C A a b c d e f) (.exit 1) (E8 C A a b c d g i):=
 h.bu [3,2,0] [3,2,1000000000]
theorem acj(h:al (xe A f g C i j b c l d e a k o [.b (a==2) false,.b (a==3) false,.b (a==4) true,.l [] [3,0,2] [3,2,1000000000] (aF f45 0) (wO A C i j 0 0 d e) (.exit 1) (E8 A E m n cm dH p a0)])):
 dx 45 [ba.cur [D.aa 1 A,I k,I o] [D.aa 1 A,I p,I a0]] (bd.vals [.agg (bj E m n)]):=
 h.dB
theorem ack(h:al (xe A g i C j k c d b e f a l m [.b (a==2) false,.b (a==3) false,.b (a==4) false,.b (a==5) true,.a .own,.p ((0:Int)<=none.getD 0),.p (none.getD 0<=(some b).getD (C.length:Int)),.p ((some b).getD (C.length:Int)<=(C.length:Int))])):
 dx 45 [ba.cur [D.aa 1 A,I l,I m] [D.aa 1 A,I e,I f]] (bd.vals [.agg [D.aa 4 (List.take (((some b).getD (C.length:Int)).toNat-0) (List.drop 0 C)),I j,I k]]):=
 h.dB
theorem acm(h:al (xe A f g C i j b c l d e a k m [.b (a==2) false,.b (a==3) false,.b (a==4) false,.b (a==5) false])):
 dx 45 [ba.cur [D.aa 1 A,I k,I m] [D.aa 1 A,I d,I e]] (bd.vals [.agg (bj C i j)]):=
 h.dB
def wg(A:aE)(a b:Int)(C:aE)(c d:Int):aG:=bR 29 [(0,bC 1000000000),(3,az.aN (bi.one (bU 6 5 C))),(4,bB b),(5,bB a)] [(1000000000,[.dL 1000000100 1 A,aS c,aS d])]
theorem acn(h:al [.w A p f g,.k A 48 a0 cm p f 6 g,.b (decide (e<g)) true,.w A i j d,.k A 48 p f i j 2 d,.v (o+d),.r 67 [ao (o+d),ao 0,ao 2] [ao a],.w A k l b,.w A m n c,.k A 48 i j k l 12 b,.k A 48 k l m n 40 c,.g C [(bx 0 a 0 b c)] 40,.h [(bx 0 a 0 b c)],.u e]):
 bp (aF f46 0) (wg A e o C a0 cm) .normal (wg A (e+1) a (C++[(bx 0 a 0 b c)]) m n):=
 h.bu [5,0,4,3] [1000000000]
def E9(A C:aE)(a b:Int):aG:=bR 29 [(0,bC 1000000000),(3,az.aN (bi.one (bU 6 5 C)))] [(1000000000,[.dL 1000000100 1 A,aS a,aS b])]
theorem aco(h:al [.w A c a b,.k A 48 e f c a 6 b,.b (decide (d<b)) false]):
 bp (aF f46 0) (wg A d g C e f) (.exit 0) (E9 A C c a):=
 h.bu [3,0] [1000000000]
theorem acp(h:al [.l [] [5,0,4,3] [1000000000] (aF f46 0) (wg A 0 0 [] a b) (.exit 0) (E9 A C c d)]):
 dx 46 [ba.cur [D.aa 1 A,I a,I b] [D.aa 1 A,I c,I d]] (bd.vals [aB 5 C]):=
 h.dB
