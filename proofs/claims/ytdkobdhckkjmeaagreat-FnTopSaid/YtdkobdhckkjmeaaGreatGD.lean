import Derived.Test.YtdkobdhckkjmeaaGreatRows
import Derived.Test.YtdkobdhckkjmeaaGreatGE
namespace Go.Proofs.YtdkobdhckkjmeaaGreat
open Go.Sx Go.RowKit Go.Proofs.Tryz
variable {a b c d e f g i j k l m n o p a0 b0 c0 d0 e0 f0 i0 : Int} {A C E F : LL} {q : Bool}
def y01(a b c d e:Int)(l:List O):List O:=.a .wr::.a .wr::.a (.pv (vI a))::.a (.pv (vI b))::.a (.pv (vI c))::.a (.pv (vI d))::.p (qbJ prog BinOp.shr 3 (Operand.tmp 16) (Operand.const (Value.int IntKind.u64 33)) (Value.int IntKind.i64 (IntKind.i64.wrap (IntKind.i64.wrap (e*6364136223846793005)+1442695040888963407))) (Value.int IntKind.u64 33) (Value.int IntKind.i64 a))::.p (qbJ prog BinOp.shr 3 (Operand.tmp 21) (Operand.const (Value.int IntKind.u64 45)) (Value.int IntKind.i64 (IntKind.i64.wrap (IntKind.i64.wrap (e*6364136223846793005)+1442695040888963407))) (Value.int IntKind.u64 45) (Value.int IntKind.i64 b))::.p (qbJ prog BinOp.xor 3 (Operand.tmp 17) (Operand.tmp 22) (Value.int IntKind.i64 a) (Value.int IntKind.i64 b) (Value.int IntKind.i64 c))::.p (qbJ prog BinOp.and 3 (Operand.tmp 23) (Operand.const (Value.int IntKind.i64 255)) (Value.int IntKind.i64 c) (Value.int IntKind.i64 255) (Value.int IntKind.i64 d))::l
def y02(A:LL)(a b c:Int)(l:List O):List O:=.a (.resR [some [D.sl 1 A,I a,I b],none] (RR.vals [cI c]))::l
def y03(A:LL)(a b c d e f:Int)(l:List O):List O:=y02 A a b c (.a (.resR [some [D.sl 1 A,I d,I e],none] (RR.vals [cI f]))::l)
def y04(A:LL)(a b c d e f g i:Int)(q:Bool)(j k:Int)(l:List O):List O:=y03 A a b c d e f (.a (.resR [some [D.sl 1 A,I g,I i],none] (RR.vals [cB q]))::.p (RetR prog 139 [RA.cur [D.sl 1 A,I j,I k] [D.sl 1 A,I a,I b],RA.ro (cI 3)] (RR.vals [cI c]))::.v (1+c)::.p (RetR prog 139 [RA.cur [D.sl 1 A,I a,I b] [D.sl 1 A,I d,I e],RA.ro (cI 3)] (RR.vals [cI f]))::.v (1+f)::.p (RetR prog 137 [RA.cur [D.sl 1 A,I d,I e] [D.sl 1 A,I g,I i],RA.ro (cI 3)] (RR.vals [cB q]))::l)
def y05(A:LL)(a b c d e f g i:Int)(q:Bool)(j k m n o p a1 b1 c1 d1 e1 f1 g1 i1:Int)(l:List O):List O:=y04 A a b c d e f g i q j k (.b q true::.a (.resR [some [D.sl 1 A,I m,I n],none] (RR.vals [cI o]))::.a (.resR [some [D.sl 1 A,I p,I a1],none] (RR.vals [cI b1]))::.a (.resR [some [D.sl 1 A,I c1,I d1],none] (RR.vals [cI e1]))::.a (.resR [some [D.sl 1 A,I f1,I g1],none] (RR.vals [cI i1]))::.p (RetR prog 139 [RA.cur [D.sl 1 A,I g,I i] [D.sl 1 A,I m,I n],RA.ro (cI 3)] (RR.vals [cI o]))::.v (1+o)::.p (RetR prog 139 [RA.cur [D.sl 1 A,I m,I n] [D.sl 1 A,I p,I a1],RA.ro (cI 4)] (RR.vals [cI b1]))::.p (RetR prog 139 [RA.cur [D.sl 1 A,I p,I a1] [D.sl 1 A,I c1,I d1],RA.ro (cI 3)] (RR.vals [cI e1]))::.v (1+e1)::.p (RetR prog 139 [RA.cur [D.sl 1 A,I c1,I d1] [D.sl 1 A,I f1,I g1],RA.ro (cI 6)] (RR.vals [cI i1]))::l)
def y06(A:LL)(a b c d e f g i:Int)(q:Bool)(j k m n o p a1 b1 c1 d1 e1 f1 g1 i1:Int)(l:List O):List O:=y04 A a b c d e f g i q j k (.b q false::.a (.resR [some [D.sl 1 A,I m,I n],none] (RR.vals [cI o]))::.a (.resR [some [D.sl 1 A,I p,I a1],none] (RR.vals [cI b1]))::.a (.resR [some [D.sl 1 A,I c1,I d1],none] (RR.vals [cI e1]))::.a (.resR [some [D.sl 1 A,I f1,I g1],none] (RR.vals [cI i1]))::.p (RetR prog 139 [RA.cur [D.sl 1 A,I g,I i] [D.sl 1 A,I m,I n],RA.ro (cI 3)] (RR.vals [cI o]))::.v (1+o)::.p (RetR prog 139 [RA.cur [D.sl 1 A,I m,I n] [D.sl 1 A,I p,I a1],RA.ro (cI 4)] (RR.vals [cI b1]))::.p (RetR prog 139 [RA.cur [D.sl 1 A,I p,I a1] [D.sl 1 A,I c1,I d1],RA.ro (cI 3)] (RR.vals [cI e1]))::.v (1+e1)::.p (RetR prog 139 [RA.cur [D.sl 1 A,I c1,I d1] [D.sl 1 A,I f1,I g1],RA.ro (cI 6)] (RR.vals [cI i1]))::l)
def y07(A:LL)(a b c d e f g i:Int)(l:List O):List O:=y03 A a b c d e f (.p (RetR prog 141 [RA.cur [D.sl 1 A,I g,I i] [D.sl 1 A,I a,I b],RA.ro (.one (.sl 1 [[I 1],[I 1],[I 1],[I 2],[I 3],[I 3],[I 3],[I 4],[I 4],[I 5],[I 6],[I 6],[I 7]]))] (RR.vals [cI c]))::.p (RetR prog 139 [RA.cur [D.sl 1 A,I a,I b] [D.sl 1 A,I d,I e],RA.ro (cI 3)] (RR.vals [cI f]))::l)
def y08(A:LL)(a b c d e:Int)(l:List O):List O:=y02 A a b c (.p (RetR prog 139 [RA.cur [D.sl 1 A,I d,I e] [D.sl 1 A,I a,I b],RA.ro (cI 6)] (RR.vals [cI c]))::l)
def y09(A:LL)(a b c d e f:Int)(l:List O):List O:=y02 A a b c (.u d::.p (RetR prog 139 [RA.cur [D.sl 1 A,I e,I f] [D.sl 1 A,I a,I b],RA.ro (cI (d+1))] (RR.vals [cI c]))::l)
def qgR(A:LL)(a b:Int):St:=
 { env:=envOf 32 [(0,.al (.one (.sv 1000000100 1 A))),(3,vI b),(4,vI a)],boxes:=[] }
theorem qMv(h:Oo [.f A a true,.b (decide (a<4000)) true,.v (b*131),.x A a [D.v (Value.int IntKind.u8 c)],.a (.pv (vI d)),.v c,.v (b*131+c),.v (b*131+c+7),.p (qbJ prog BinOp.and 3 (Operand.tmp 26) (Operand.const (Value.int IntKind.i64 1073741823)) (Value.int IntKind.i64 (b*131+c+7)) (Value.int IntKind.i64 1073741823) (Value.int IntKind.i64 d)),.u a]):
Tp (qaa f117 0) (qgR A a b) .normal (qgR A (a+1) d):=
h.lp [4,0,3] []
def qkj(A:LL)(a:Int):St:=
 { env:=envOf 32 [(0,.al (.one (.sv 1000000100 1 A))),(3,vI a)],boxes:=[] }
theorem qMw(h:Oo [.f A a true,.b (decide (a<4000)) false]):
Tp (qaa f117 0) (qgR A a b) (.exit 0) (qkj A b):=
h.lp [0,3] []
theorem qMx(h:Oo [.f A a false]):
Tp (qaa f117 0) (qgR A a b) (.exit 0) (qkj A b):=
h.lp [0,3] []
theorem qMy(h:Oo [.v (94701+(A.length:Int)),.l [] [4,0,3] [] (qaa f117 0) (qgR A 0 (94701+(A.length:Int))) (.exit 0) (qkj A a)]):
Rr 117 [RA.ro (cS 1 A)] (RR.newp [some 0,none,none] [D.sl 1 A,I 0,I a]):=
h.ofR
theorem qMz(h:Oo (y01 c d e f b [.i A a [D.v (Value.int IntKind.u8 i)],.a .wr,.a .wr,.a (.pv (vI g)),.p (qbJ prog BinOp.and 3 (Operand.tmp 47) (Operand.const (Value.int IntKind.i64 255)) (Value.int IntKind.i64 (IntKind.i64.wrap (f+IntKind.i64.wrap i))) (Value.int IntKind.i64 255) (Value.int IntKind.i64 g)),.u a])):
Rr 253 [RA.cur [D.sl 1 A,I a,I b] [D.sl 1 A,I (a+1),I (IntKind.i64.wrap (IntKind.i64.wrap (b*6364136223846793005)+1442695040888963407))]] (RR.vals [cI g]):=
h.ofR
theorem qMA(h:Oo (y01 c d e f a [.f A b false])):
Rr 253 [RA.cur [D.sl 1 A,I b,I a] [D.sl 1 A,I b,I (IntKind.i64.wrap (IntKind.i64.wrap (a*6364136223846793005)+1442695040888963407))]] (RR.vals [cI f]):=
h.ofR
theorem qMB(h:Oo [.b (decide (a≤0)) false,.b (decide (a≤256)) true,.a (.resR [some [D.sl 1 A,I b,I c]] (RR.vals [cI d])),.p (RetR prog 253 [RA.cur [D.sl 1 A,I e,I f] [D.sl 1 A,I b,I c]] (RR.vals [cI d])),.p (a≠0)]):
Rr 139 [RA.cur [D.sl 1 A,I e,I f] [D.sl 1 A,I b,I c],RA.ro (cI a)] (RR.vals [cI (d.tmod a)]):=
h.ofR
theorem qMC(h:Oo [.b (decide (d≤0)) false,.b (decide (d≤256)) false,.a (.resR [some [D.sl 1 A,I l,I m]] (RR.vals [cI b])),.a (.resR [some [D.sl 1 A,I n,I f]] (RR.vals [cI a])),.a (.resR [some [D.sl 1 A,I g,I i]] (RR.vals [cI c])),.a (.resR [some [D.sl 1 A,I j,I k]] (RR.vals [cI e])),.p (RetR prog 253 [RA.cur [D.sl 1 A,I o,I p] [D.sl 1 A,I l,I m]] (RR.vals [cI b])),.p (RetR prog 253 [RA.cur [D.sl 1 A,I l,I m] [D.sl 1 A,I n,I f]] (RR.vals [cI a])),.p (RetR prog 253 [RA.cur [D.sl 1 A,I n,I f] [D.sl 1 A,I g,I i]] (RR.vals [cI c])),.p (RetR prog 253 [RA.cur [D.sl 1 A,I g,I i] [D.sl 1 A,I j,I k]] (RR.vals [cI e])),.v (b*16777216),.v (a*65536),.v (b*16777216+a*65536),.v (c*256),.v (b*16777216+a*65536+c*256),.v (b*16777216+a*65536+c*256+e),.p (d≠0)]):
Rr 139 [RA.cur [D.sl 1 A,I o,I p] [D.sl 1 A,I j,I k],RA.ro (cI d)] (RR.vals [cI ((b*16777216+a*65536+c*256+e).tmod d)]):=
h.ofR
theorem qMD(h:Oo (y02 A a b c [.p (RetR prog 139 [RA.cur [D.sl 1 A,I d,I e] [D.sl 1 A,I a,I b],RA.ro (cI f)] (RR.vals [cI c]))])):
Rr 137 [RA.cur [D.sl 1 A,I d,I e] [D.sl 1 A,I a,I b],RA.ro (cI f)] (RR.vals [cB (c==0)]):=
h.ofR
theorem qME(h:Oo (y02 A a b c [.p (RetR prog 139 [RA.cur [D.sl 1 A,I d,I e] [D.sl 1 A,I a,I b],RA.ro (cI (C.length:Int))] (RR.vals [cI c])),.x C c [I f]])):
Rr 141 [RA.cur [D.sl 1 A,I d,I e] [D.sl 1 A,I a,I b],RA.ro (cS 1 C)] (RR.vals [cI f]):=
h.ofR
theorem qMF(A:LL)(f0 i0 b0 c0 e d0 e0 c f g:Int)(q:Bool)(i j a k l b m n d o p a0:Int)(d31 d32 d33 d34:D)(h:Oo (y05 A b0 c0 e d0 e0 c f g q f0 i0 i j a k l b m n d o p a0 [.b (a0==0) true,.p ((0:Int)≤3),.p (3<(↑[[I 1,I 0,I 0,D.sl 1 [[I 1]]],[I 6,I 0,I 0,D.sl 1 [[I 2],[I 5]]],[I 4,I (1+a),I 0,D.sl 1 [[I 3]]],[I 2,I b,I 0,D.sl 1 [[I 4]]],[I 7,I 0,I 0,D.sl 1 [[I 1]]],[I 8,I 0,I 0,D.v (sn)]].length:Int)),.e [[I 1,I 0,I 0,D.sl 1 [[I 1]]],[I 6,I 0,I 0,D.sl 1 [[I 2],[I 5]]],[I 4,I (1+a),I 0,D.sl 1 [[I 3]]],[I 2,I b,I 0,D.sl 1 [[I 4]]],[I 7,I 0,I 0,D.sl 1 [[I 1]]],[I 8,I 0,I 0,D.v (sn)]] 3 [d31,d32,d33,d34]])):
Rr 118 [RA.cur [D.sl 1 A,I f0,I i0] [D.sl 1 A,I o,I p]] (RR.vals [.agg (gr ([[I 1,I 0,I 0,D.sl 1 [[I 1]]],[I 6,I 0,I 0,D.sl 1 [[I 2],[I 5]]],[I 4,I (1+a),I 0,D.sl 1 [[I 3]]],[I 2,I b,I 0,D.sl 1 [[I 4]]],[I 7,I 0,I 0,D.sl 1 [[I 1]]],[I 8,I 0,I 0,D.v (sn)]].set 3 [I 3,I (1+d),I 0,D.sl 1 [[I 4]]]) (1+e) (1+c))]):=
h.ofR
theorem qMG(A:LL)(f0 i0 b0 c0 e d0 e0 c f g:Int)(q:Bool)(i j a k l b m n o p a0 d:Int)(d31 d32 d33 d34:D)(h:Oo (y05 A b0 c0 e d0 e0 c f g q f0 i0 i j a k l b m n o p a0 d [.b (d==0) false,.b (d==1) true,.p ((0:Int)≤4),.p (4<(↑[[I 1,I 0,I 0,D.sl 1 [[I 1]]],[I 6,I 0,I 0,D.sl 1 [[I 2],[I 5]]],[I 4,I (1+a),I 0,D.sl 1 [[I 3]]],[I 2,I b,I 0,D.sl 1 [[I 4]]],[I 7,I 0,I 0,D.sl 1 [[I 1]]],[I 8,I 0,I 0,D.v (sn)]].length:Int)),.e [[I 1,I 0,I 0,D.sl 1 [[I 1]]],[I 6,I 0,I 0,D.sl 1 [[I 2],[I 5]]],[I 4,I (1+a),I 0,D.sl 1 [[I 3]]],[I 2,I b,I 0,D.sl 1 [[I 4]]],[I 7,I 0,I 0,D.sl 1 [[I 1]]],[I 8,I 0,I 0,D.v (sn)]] 4 [d31,d32,d33,d34]])):
Rr 118 [RA.cur [D.sl 1 A,I f0,I i0] [D.sl 1 A,I p,I a0]] (RR.vals [.agg (gr ([[I 1,I 0,I 0,D.sl 1 [[I 1]]],[I 6,I 0,I 0,D.sl 1 [[I 2],[I 5]]],[I 4,I (1+a),I 0,D.sl 1 [[I 3]]],[I 2,I b,I 0,D.sl 1 [[I 4]]],[I 7,I 0,I 0,D.sl 1 [[I 1]]],[I 8,I 0,I 0,D.v (sn)]].set 4 [I 8,I 0,I 0,D.v (sn)]) (1+e) (1+c))]):=
h.ofR
theorem qMH(A:LL)(f0 i0 b0 c0 e d0 e0 d f g:Int)(q:Bool)(i j a k l b m n o p a0 c:Int)(d31 d32 d33 d34:D)(h:Oo (y05 A b0 c0 e d0 e0 d f g q f0 i0 i j a k l b m n o p a0 c [.b (c==0) false,.b (c==1) false,.b (c==2) true,.p ((0:Int)≤2),.p (2<(↑[[I 1,I 0,I 0,D.sl 1 [[I 1]]],[I 6,I 0,I 0,D.sl 1 [[I 2],[I 5]]],[I 4,I (1+a),I 0,D.sl 1 [[I 3]]],[I 2,I b,I 0,D.sl 1 [[I 4]]],[I 7,I 0,I 0,D.sl 1 [[I 1]]],[I 8,I 0,I 0,D.v (sn)]].length:Int)),.e [[I 1,I 0,I 0,D.sl 1 [[I 1]]],[I 6,I 0,I 0,D.sl 1 [[I 2],[I 5]]],[I 4,I (1+a),I 0,D.sl 1 [[I 3]]],[I 2,I b,I 0,D.sl 1 [[I 4]]],[I 7,I 0,I 0,D.sl 1 [[I 1]]],[I 8,I 0,I 0,D.v (sn)]] 2 [d31,d32,d33,d34]])):
Rr 118 [RA.cur [D.sl 1 A,I f0,I i0] [D.sl 1 A,I p,I a0]] (RR.vals [.agg (gr ([[I 1,I 0,I 0,D.sl 1 [[I 1]]],[I 6,I 0,I 0,D.sl 1 [[I 2],[I 5]]],[I 4,I (1+a),I 0,D.sl 1 [[I 3]]],[I 2,I b,I 0,D.sl 1 [[I 4]]],[I 7,I 0,I 0,D.sl 1 [[I 1]]],[I 8,I 0,I 0,D.v (sn)]].set 2 [d31,d32,d33,D.sl 1 [[I 3],[I 4]]]) (1+e) (1+d))]):=
h.ofR
theorem qMI(A:LL)(f0 i0 b0 c0 e d0 e0 d f g:Int)(q:Bool)(i j a k l b m n o p a0 c:Int)(d31 d32 d33 d34:D)(h:Oo (y05 A b0 c0 e d0 e0 d f g q f0 i0 i j a k l b m n o p a0 c [.b (c==0) false,.b (c==1) false,.b (c==2) false,.b (c==3) true,.a .wr,.p (([[I 1,I 0,I 0,D.sl 1 [[I 1]]],[I 6,I 0,I 0,D.sl 1 [[I 2],[I 5]]],[I 4,I (1+a),I 0,D.sl 1 [[I 3]]],[I 2,I b,I 0,D.sl 1 [[I 4]]],[I 7,I 0,I 0,D.sl 1 [[I 1]]],[I 8,I 0,I 0,D.v (sn)]].length+[[I 8,I 0,I 0,D.v (sn)]].length)*48≤140737488355328),.p ([[I 1,I 0,I 0,D.sl 1 [[I 1]]],[I 6,I 0,I 0,D.sl 1 [[I 2],[I 5]]],[I 4,I (1+a),I 0,D.sl 1 [[I 3]]],[I 2,I b,I 0,D.sl 1 [[I 4]]],[I 7,I 0,I 0,D.sl 1 [[I 1]]],[I 8,I 0,I 0,D.v (sn)]].length+[[I 8,I 0,I 0,D.v (sn)]].length≤9223372036854775807),.p ((0:Int)≤0),.p (0<(↑([[I 1,I 0,I 0,D.sl 1 [[I 1]]],[I 6,I 0,I 0,D.sl 1 [[I 2],[I 5]]],[I 4,I (1+a),I 0,D.sl 1 [[I 3]]],[I 2,I b,I 0,D.sl 1 [[I 4]]],[I 7,I 0,I 0,D.sl 1 [[I 1]]],[I 8,I 0,I 0,D.v (sn)]]++[[I 8,I 0,I 0,D.v (sn)]]).length:Int)),.e ([[I 1,I 0,I 0,D.sl 1 [[I 1]]],[I 6,I 0,I 0,D.sl 1 [[I 2],[I 5]]],[I 4,I (1+a),I 0,D.sl 1 [[I 3]]],[I 2,I b,I 0,D.sl 1 [[I 4]]],[I 7,I 0,I 0,D.sl 1 [[I 1]]],[I 8,I 0,I 0,D.v (sn)]]++[[I 8,I 0,I 0,D.v (sn)]]) 0 [d31,d32,d33,d34]])):
Rr 118 [RA.cur [D.sl 1 A,I f0,I i0] [D.sl 1 A,I p,I a0]] (RR.vals [.agg (gr (([[I 1,I 0,I 0,D.sl 1 [[I 1]]],[I 6,I 0,I 0,D.sl 1 [[I 2],[I 5]]],[I 4,I (1+a),I 0,D.sl 1 [[I 3]]],[I 2,I b,I 0,D.sl 1 [[I 4]]],[I 7,I 0,I 0,D.sl 1 [[I 1]]],[I 8,I 0,I 0,D.v (sn)]]++[[I 8,I 0,I 0,D.v (sn)]]).set 0 [d31,d32,d33,D.sl 1 [[I 1],[I 6]]]) (1+e) (1+d))]):=
h.ofR
theorem qMJ(h:Oo (y05 A b0 c0 d d0 e0 b e f q f0 i0 g i c j k l m n o p a0 a [.b (a==0) false,.b (a==1) false,.b (a==2) false,.b (a==3) false])):
Rr 118 [RA.cur [D.sl 1 A,I f0,I i0] [D.sl 1 A,I p,I a0]] (RR.vals [.agg [D.sl 4 [[I 1,I 0,I 0,D.sl 1 [[I 1]]],[I 6,I 0,I 0,D.sl 1 [[I 2],[I 5]]],[I 4,I (1+c),I 0,D.sl 1 [[I 3]]],[I 2,I l,I 0,D.sl 1 [[I 4]]],[I 7,I 0,I 0,D.sl 1 [[I 1]]],[I 8,I 0,I 0,D.v (sn)]],I (1+d),I (1+b)]]):=
h.ofR
theorem qMK(A:LL)(f0 i0 b0 c0 e d0 e0 c f g:Int)(q:Bool)(i j a k l b m n d o p a0:Int)(d31 d32 d33 d34:D)(h:Oo (y06 A b0 c0 e d0 e0 c f g q f0 i0 i j a k l b m n d o p a0 [.b (a0==0) true,.p ((0:Int)≤3),.p (3<(↑[[I 1,I 0,I 0,D.sl 1 [[I 1]]],[I 5,I 0,I 0,D.sl 1 [[I 2],[I 5]]],[I 4,I (1+a),I 0,D.sl 1 [[I 3]]],[I 2,I b,I 0,D.sl 1 [[I 4]]],[I 7,I 0,I 0,D.sl 1 [[I 1]]],[I 8,I 0,I 0,D.v (sn)]].length:Int)),.e [[I 1,I 0,I 0,D.sl 1 [[I 1]]],[I 5,I 0,I 0,D.sl 1 [[I 2],[I 5]]],[I 4,I (1+a),I 0,D.sl 1 [[I 3]]],[I 2,I b,I 0,D.sl 1 [[I 4]]],[I 7,I 0,I 0,D.sl 1 [[I 1]]],[I 8,I 0,I 0,D.v (sn)]] 3 [d31,d32,d33,d34]])):
Rr 118 [RA.cur [D.sl 1 A,I f0,I i0] [D.sl 1 A,I o,I p]] (RR.vals [.agg (gr ([[I 1,I 0,I 0,D.sl 1 [[I 1]]],[I 5,I 0,I 0,D.sl 1 [[I 2],[I 5]]],[I 4,I (1+a),I 0,D.sl 1 [[I 3]]],[I 2,I b,I 0,D.sl 1 [[I 4]]],[I 7,I 0,I 0,D.sl 1 [[I 1]]],[I 8,I 0,I 0,D.v (sn)]].set 3 [I 3,I (1+d),I 0,D.sl 1 [[I 4]]]) (1+e) (1+c))]):=
h.ofR
theorem qML(A:LL)(f0 i0 b0 c0 e d0 e0 c f g:Int)(q:Bool)(i j a k l b m n o p a0 d:Int)(d31 d32 d33 d34:D)(h:Oo (y06 A b0 c0 e d0 e0 c f g q f0 i0 i j a k l b m n o p a0 d [.b (d==0) false,.b (d==1) true,.p ((0:Int)≤4),.p (4<(↑[[I 1,I 0,I 0,D.sl 1 [[I 1]]],[I 5,I 0,I 0,D.sl 1 [[I 2],[I 5]]],[I 4,I (1+a),I 0,D.sl 1 [[I 3]]],[I 2,I b,I 0,D.sl 1 [[I 4]]],[I 7,I 0,I 0,D.sl 1 [[I 1]]],[I 8,I 0,I 0,D.v (sn)]].length:Int)),.e [[I 1,I 0,I 0,D.sl 1 [[I 1]]],[I 5,I 0,I 0,D.sl 1 [[I 2],[I 5]]],[I 4,I (1+a),I 0,D.sl 1 [[I 3]]],[I 2,I b,I 0,D.sl 1 [[I 4]]],[I 7,I 0,I 0,D.sl 1 [[I 1]]],[I 8,I 0,I 0,D.v (sn)]] 4 [d31,d32,d33,d34]])):
Rr 118 [RA.cur [D.sl 1 A,I f0,I i0] [D.sl 1 A,I p,I a0]] (RR.vals [.agg (gr ([[I 1,I 0,I 0,D.sl 1 [[I 1]]],[I 5,I 0,I 0,D.sl 1 [[I 2],[I 5]]],[I 4,I (1+a),I 0,D.sl 1 [[I 3]]],[I 2,I b,I 0,D.sl 1 [[I 4]]],[I 7,I 0,I 0,D.sl 1 [[I 1]]],[I 8,I 0,I 0,D.v (sn)]].set 4 [I 8,I 0,I 0,D.v (sn)]) (1+e) (1+c))]):=
h.ofR
theorem qMM(A:LL)(f0 i0 b0 c0 e d0 e0 d f g:Int)(q:Bool)(i j a k l b m n o p a0 c:Int)(d31 d32 d33 d34:D)(h:Oo (y06 A b0 c0 e d0 e0 d f g q f0 i0 i j a k l b m n o p a0 c [.b (c==0) false,.b (c==1) false,.b (c==2) true,.p ((0:Int)≤2),.p (2<(↑[[I 1,I 0,I 0,D.sl 1 [[I 1]]],[I 5,I 0,I 0,D.sl 1 [[I 2],[I 5]]],[I 4,I (1+a),I 0,D.sl 1 [[I 3]]],[I 2,I b,I 0,D.sl 1 [[I 4]]],[I 7,I 0,I 0,D.sl 1 [[I 1]]],[I 8,I 0,I 0,D.v (sn)]].length:Int)),.e [[I 1,I 0,I 0,D.sl 1 [[I 1]]],[I 5,I 0,I 0,D.sl 1 [[I 2],[I 5]]],[I 4,I (1+a),I 0,D.sl 1 [[I 3]]],[I 2,I b,I 0,D.sl 1 [[I 4]]],[I 7,I 0,I 0,D.sl 1 [[I 1]]],[I 8,I 0,I 0,D.v (sn)]] 2 [d31,d32,d33,d34]])):
Rr 118 [RA.cur [D.sl 1 A,I f0,I i0] [D.sl 1 A,I p,I a0]] (RR.vals [.agg (gr ([[I 1,I 0,I 0,D.sl 1 [[I 1]]],[I 5,I 0,I 0,D.sl 1 [[I 2],[I 5]]],[I 4,I (1+a),I 0,D.sl 1 [[I 3]]],[I 2,I b,I 0,D.sl 1 [[I 4]]],[I 7,I 0,I 0,D.sl 1 [[I 1]]],[I 8,I 0,I 0,D.v (sn)]].set 2 [d31,d32,d33,D.sl 1 [[I 3],[I 4]]]) (1+e) (1+d))]):=
h.ofR
theorem qMN(A:LL)(f0 i0 b0 c0 e d0 e0 d f g:Int)(q:Bool)(i j a k l b m n o p a0 c:Int)(d31 d32 d33 d34:D)(h:Oo (y06 A b0 c0 e d0 e0 d f g q f0 i0 i j a k l b m n o p a0 c [.b (c==0) false,.b (c==1) false,.b (c==2) false,.b (c==3) true,.a .wr,.p (([[I 1,I 0,I 0,D.sl 1 [[I 1]]],[I 5,I 0,I 0,D.sl 1 [[I 2],[I 5]]],[I 4,I (1+a),I 0,D.sl 1 [[I 3]]],[I 2,I b,I 0,D.sl 1 [[I 4]]],[I 7,I 0,I 0,D.sl 1 [[I 1]]],[I 8,I 0,I 0,D.v (sn)]].length+[[I 8,I 0,I 0,D.v (sn)]].length)*48≤140737488355328),.p ([[I 1,I 0,I 0,D.sl 1 [[I 1]]],[I 5,I 0,I 0,D.sl 1 [[I 2],[I 5]]],[I 4,I (1+a),I 0,D.sl 1 [[I 3]]],[I 2,I b,I 0,D.sl 1 [[I 4]]],[I 7,I 0,I 0,D.sl 1 [[I 1]]],[I 8,I 0,I 0,D.v (sn)]].length+[[I 8,I 0,I 0,D.v (sn)]].length≤9223372036854775807),.p ((0:Int)≤0),.p (0<(↑([[I 1,I 0,I 0,D.sl 1 [[I 1]]],[I 5,I 0,I 0,D.sl 1 [[I 2],[I 5]]],[I 4,I (1+a),I 0,D.sl 1 [[I 3]]],[I 2,I b,I 0,D.sl 1 [[I 4]]],[I 7,I 0,I 0,D.sl 1 [[I 1]]],[I 8,I 0,I 0,D.v (sn)]]++[[I 8,I 0,I 0,D.v (sn)]]).length:Int)),.e ([[I 1,I 0,I 0,D.sl 1 [[I 1]]],[I 5,I 0,I 0,D.sl 1 [[I 2],[I 5]]],[I 4,I (1+a),I 0,D.sl 1 [[I 3]]],[I 2,I b,I 0,D.sl 1 [[I 4]]],[I 7,I 0,I 0,D.sl 1 [[I 1]]],[I 8,I 0,I 0,D.v (sn)]]++[[I 8,I 0,I 0,D.v (sn)]]) 0 [d31,d32,d33,d34]])):
Rr 118 [RA.cur [D.sl 1 A,I f0,I i0] [D.sl 1 A,I p,I a0]] (RR.vals [.agg (gr (([[I 1,I 0,I 0,D.sl 1 [[I 1]]],[I 5,I 0,I 0,D.sl 1 [[I 2],[I 5]]],[I 4,I (1+a),I 0,D.sl 1 [[I 3]]],[I 2,I b,I 0,D.sl 1 [[I 4]]],[I 7,I 0,I 0,D.sl 1 [[I 1]]],[I 8,I 0,I 0,D.v (sn)]]++[[I 8,I 0,I 0,D.v (sn)]]).set 0 [d31,d32,d33,D.sl 1 [[I 1],[I 6]]]) (1+e) (1+d))]):=
h.ofR
theorem qMO(h:Oo (y06 A b0 c0 d d0 e0 b e f q f0 i0 g i c j k l m n o p a0 a [.b (a==0) false,.b (a==1) false,.b (a==2) false,.b (a==3) false])):
Rr 118 [RA.cur [D.sl 1 A,I f0,I i0] [D.sl 1 A,I p,I a0]] (RR.vals [.agg [D.sl 4 [[I 1,I 0,I 0,D.sl 1 [[I 1]]],[I 5,I 0,I 0,D.sl 1 [[I 2],[I 5]]],[I 4,I (1+c),I 0,D.sl 1 [[I 3]]],[I 2,I l,I 0,D.sl 1 [[I 4]]],[I 7,I 0,I 0,D.sl 1 [[I 1]]],[I 8,I 0,I 0,D.v (sn)]],I (1+d),I (1+b)]]):=
h.ofR
def qil(A:LL)(a b:Int)(C:LL)(c d:Int):St:=
 { env:=envOf 29 [(0,vP 1000000000),(3,PV.al (AL.one (lO 6 5 C))),(4,vI b),(5,vI a)],boxes:=[(1000000000,[.sv 1000000100 1 A,lI c,lI d])] }
theorem qMP(h:Oo (y08 A p f g a0 b0 [.b (decide (e<g)) true,.a (.resR [some [D.sl 1 A,I i,I j],none] (RR.vals [cI d])),.p (RetR prog 139 [RA.cur [D.sl 1 A,I p,I f] [D.sl 1 A,I i,I j],RA.ro (cI 2)] (RR.vals [cI d])),.v (o+d),.r 130 [cI (o+d),cI 0,cI 2] [cI a],.a (.resR [some [D.sl 1 A,I k,I l],none] (RR.vals [cI b])),.a (.resR [some [D.sl 1 A,I m,I n],none] (RR.vals [cI c])),.p (RetR prog 139 [RA.cur [D.sl 1 A,I i,I j] [D.sl 1 A,I k,I l],RA.ro (cI 12)] (RR.vals [cI b])),.p (RetR prog 139 [RA.cur [D.sl 1 A,I k,I l] [D.sl 1 A,I m,I n],RA.ro (cI 40)] (RR.vals [cI c])),.g C [(ri 0 a 0 b c)] 40,.h [(ri 0 a 0 b c)],.u e])):
Tp (qaa f119 0) (qil A e o C a0 b0) .normal (qil A (e+1) a (C++[(ri 0 a 0 b c)]) m n):=
h.lp [5,0,4,3] [1000000000]
def qnl(A C:LL)(a b:Int):St:=
 { env:=envOf 29 [(0,vP 1000000000),(3,PV.al (AL.one (lO 6 5 C)))],boxes:=[(1000000000,[.sv 1000000100 1 A,lI a,lI b])] }
theorem qMQ(h:Oo (y08 A c a b e f [.b (decide (d<b)) false])):
Tp (qaa f119 0) (qil A d g C e f) (.exit 0) (qnl A C c a):=
h.lp [3,0] [1000000000]
theorem qMR(h:Oo [.l [] [5,0,4,3] [1000000000] (qaa f119 0) (qil A 0 0 [] a b) (.exit 0) (qnl A C c d)]):
Rr 119 [RA.cur [D.sl 1 A,I a,I b] [D.sl 1 A,I c,I d]] (RR.vals [cS 5 C]):=
h.ofR
def qs3(A:LL)(a c d b:Int):St:=
 { env:=envOf 27 [(0,vP 1000000000),(2,vP 2),(3,vP 3),(4,vP 1000000000),(5,.al (.one (.sl (.own 5) 1 [[I 1],[I 1],[I 1],[I 2],[I 3],[I 3],[I 3],[I 4],[I 4],[I 5],[I 6],[I 6],[I 7]]))),(6,vI a),(7,vP 1000000000),(8,vI b),(9,PV.al (AL.agg [lI a,lI b,lI 0])),(10,vP 3),(11,vI a),(12,.al (.one (.sb (a==4)))),(13,.al (.one (.v (Value.bool true)))),(14,.al (.one (.v (Value.tuple #[])))),(15,.al (.one (.v (Value.tuple #[])))),(16,.al (.one (.v (Value.tuple #[])))),(17,.al (.one (.v (Value.bool true))))],boxes:=[(3,[lI a,lI b,lI 0]),(2,[lI 0,lI 0,lI 0]),(1000000000,[.sv 1000000100 1 A,lI c,lI d])] }
def qnm(A:LL)(b a d e c:Int):St:=
 { env:=envOf 27 [(0,vP 1000000000),(2,vP 2),(3,vP 3),(4,vP 1000000000),(5,.al (.one (.sl (.own 5) 1 [[I 1],[I 1],[I 1],[I 2],[I 3],[I 3],[I 3],[I 4],[I 4],[I 5],[I 6],[I 6],[I 7]]))),(6,vI b),(7,vP 1000000000),(8,vI a),(9,PV.al (AL.agg [lI b,lI a,lI 0])),(10,vP 3),(11,vI b),(12,.al (.one (.sb (b==4)))),(13,.al (.one (.v (Value.bool true)))),(14,.al (.one (.v (Value.tuple #[])))),(15,.al (.one (.v (Value.tuple #[])))),(16,.al (.one (.v (Value.tuple #[])))),(17,.al (.one (.v (Value.bool true)))),(18,.al (.one (.ptr 3 1))),(19,vI a),(20,vI (a+1)),(21,vP 1000000000),(22,vI c),(23,vI (a+1+c)),(24,vI ((a+1+c).tmod 3)),(25,.al (.one (.ptr 3 2)))],boxes:=[(3,[lI b,lI a,lI ((a+1+c).tmod 3)]),(2,[lI 0,lI 0,lI 0]),(1000000000,[.sv 1000000100 1 A,lI d,lI e])] }
theorem qMS(A:LL)(g e f a c d b:Int)
  (h:Obs [inInt .i64 (a+1),RetR prog 139 [RA.cur [D.sl 1 A,I e,I f] [D.sl 1 A,I c,I d],RA.ro (cI 2)] (RR.vals [cI b]),inInt .i64 (a+1+b),(3:Int)≠0]):
  RegOk prog (regOf f242 3) (qs3 A g e f a) (qnm A g a c d b):=
 .of [[],[],[],[],[.resR [some [D.sl 1 A,I c,I d],none] (RR.vals [cI b])],[],[],[],[]] [[],[],[inInt .i64 (a+1)],[],[RetR prog 139 [RA.cur [D.sl 1 A,I e,I f] [D.sl 1 A,I c,I d],RA.ro (cI 2)] (RR.vals [cI b])],[inInt .i64 (a+1+b)],[(3:Int)≠0],[],[]] (by kernel_rfl) (by kernel_rfl) (by kernel_rfl) h
theorem qMT(h:Oo (y07 A f g b i j a k l [.b (b==4) true,.a (.reg (qnm A b a c d e)),.p (RegOk prog (regOf f242 3) (qs3 A b i j a) (qnm A b a c d e))])):
Rr 242 [RA.cur [D.sl 1 A,I k,I l] [D.sl 1 A,I c,I d]] (RR.vals [.agg [I b,I a,I ((a+1+e).tmod 3)]]):=
h.ofR
def qs4(A:LL)(a c d b:Int):St:=
 { env:=envOf 27 [(0,vP 1000000000),(2,vP 2),(3,vP 3),(4,vP 1000000000),(5,.al (.one (.sl (.own 5) 1 [[I 1],[I 1],[I 1],[I 2],[I 3],[I 3],[I 3],[I 4],[I 4],[I 5],[I 6],[I 6],[I 7]]))),(6,vI a),(7,vP 1000000000),(8,vI b),(9,PV.al (AL.agg [lI a,lI b,lI 0])),(10,vP 3),(11,vI a),(12,.al (.one (.sb (a==4)))),(13,.al (.one (.v (Value.bool false)))),(14,vP 3),(15,vI a),(16,.al (.one (.sb (a==5)))),(17,.al (.one (.sb (a==5))))],boxes:=[(3,[lI a,lI b,lI 0]),(2,[lI 0,lI 0,lI 0]),(1000000000,[.sv 1000000100 1 A,lI c,lI d])] }
def qnn(A:LL)(a b d e c:Int):St:=
 { env:=envOf 27 [(0,vP 1000000000),(2,vP 2),(3,vP 3),(4,vP 1000000000),(5,.al (.one (.sl (.own 5) 1 [[I 1],[I 1],[I 1],[I 2],[I 3],[I 3],[I 3],[I 4],[I 4],[I 5],[I 6],[I 6],[I 7]]))),(6,vI a),(7,vP 1000000000),(8,vI b),(9,PV.al (AL.agg [lI a,lI b,lI 0])),(10,vP 3),(11,vI a),(12,.al (.one (.sb (a==4)))),(13,.al (.one (.v (Value.bool false)))),(14,vP 3),(15,vI a),(16,.al (.one (.sb (a==5)))),(17,.al (.one (.sb (a==5)))),(18,.al (.one (.ptr 3 1))),(19,vI b),(20,vI (b+1)),(21,vP 1000000000),(22,vI c),(23,vI (b+1+c)),(24,vI ((b+1+c).tmod 3)),(25,.al (.one (.ptr 3 2)))],boxes:=[(3,[lI a,lI b,lI ((b+1+c).tmod 3)]),(2,[lI 0,lI 0,lI 0]),(1000000000,[.sv 1000000100 1 A,lI d,lI e])] }
theorem qMU(A:LL)(g e f a c d b:Int)
  (h:Obs [inInt .i64 (a+1),RetR prog 139 [RA.cur [D.sl 1 A,I e,I f] [D.sl 1 A,I c,I d],RA.ro (cI 2)] (RR.vals [cI b]),inInt .i64 (a+1+b),(3:Int)≠0]):
  RegOk prog (regOf f242 3) (qs4 A g e f a) (qnn A g a c d b):=
 .of [[],[],[],[],[.resR [some [D.sl 1 A,I c,I d],none] (RR.vals [cI b])],[],[],[],[]] [[],[],[inInt .i64 (a+1)],[],[RetR prog 139 [RA.cur [D.sl 1 A,I e,I f] [D.sl 1 A,I c,I d],RA.ro (cI 2)] (RR.vals [cI b])],[inInt .i64 (a+1+b)],[(3:Int)≠0],[],[]] (by kernel_rfl) (by kernel_rfl) (by kernel_rfl) h
theorem qMV(h:Oo (y07 A f g a i j b k l [.b (a==4) false,.b (a==5) true,.a (.reg (qnn A a b c d e)),.p (RegOk prog (regOf f242 3) (qs4 A a i j b) (qnn A a b c d e))])):
Rr 242 [RA.cur [D.sl 1 A,I k,I l] [D.sl 1 A,I c,I d]] (RR.vals [.agg [I a,I b,I ((b+1+e).tmod 3)]]):=
h.ofR
theorem qMW(h:Oo (y07 A c d a e f b g i [.b (a==4) false,.b (a==5) false])):
Rr 242 [RA.cur [D.sl 1 A,I g,I i] [D.sl 1 A,I e,I f]] (RR.vals [.agg [I a,I b,I 0]]):=
h.ofR
def qim(A:LL)(a b:Int)(C:LL)(c d:Int):St:=
 { env:=envOf 22 [(0,vP 1000000000),(1,vI a),(5,PV.al (AL.one (lO 7 3 C))),(6,vI b)],boxes:=[(1000000000,[.sv 1000000100 1 A,lI c,lI d])] }
theorem qMX(h:Oo (y09 A k f g d l m [.b (decide (e<g)) true,.a (.resR [some [D.sl 1 A,I i,I j]] (RR.vals [.agg [I a,I b,I c]])),.p (RetR prog 242 [RA.cur [D.sl 1 A,I k,I f] [D.sl 1 A,I i,I j]] (RR.vals [.agg [I a,I b,I c]])),.g C [[I a,I b,I c]] 24,.h [[I a,I b,I c]],.u e])):
Tp (qaa f120 0) (qim A d e C l m) .normal (qim A d (e+1) (C++[[I a,I b,I c]]) i j):=
h.lp [6,0,1,5] [1000000000]
def qno(A C:LL)(a b:Int):St:=
 { env:=envOf 22 [(0,vP 1000000000),(5,PV.al (AL.one (lO 7 3 C)))],boxes:=[(1000000000,[.sv 1000000100 1 A,lI a,lI b])] }
theorem qMY(h:Oo (y09 A d a b c f g [.b (decide (e<b)) false])):
Tp (qaa f120 0) (qim A c e C f g) (.exit 0) (qno A C d a):=
h.lp [5,0] [1000000000]
theorem qMZ(h:Oo [.l [] [6,0,1,5] [1000000000] (qaa f120 0) (qim A c 0 [] a b) (.exit 0) (qno A C d e)]):
Rr 120 [RA.cur [D.sl 1 A,I a,I b] [D.sl 1 A,I d,I e],RA.ro (cI c)] (RR.vals [cS 3 C]):=
h.ofR
theorem qM0(h:Oo [.a (.resR [none] (RR.newp [some 0,none,none] [D.sl 1 A,I c,I d])),.a (.resR [some [D.sl 1 A,I e,I f]] (RR.vals [.agg (gr F g i)])),.a (.resR [some [D.sl 1 A,I a,I b]] (RR.vals [cS 5 C])),.a (.resR [some [D.sl 1 A,I j,I k],none] (RR.vals [cS 3 E])),.p (RetR prog 117 [RA.ro (cS 1 A)] (RR.newp [some 0,none,none] [D.sl 1 A,I c,I d])),.p (RetR prog 118 [RA.cur [D.sl 1 A,I c,I d] [D.sl 1 A,I e,I f]] (RR.vals [.agg (gr F g i)])),.p (RetR prog 119 [RA.cur [D.sl 1 A,I e,I f] [D.sl 1 A,I a,I b]] (RR.vals [cS 5 C])),.p (RetR prog 120 [RA.cur [D.sl 1 A,I a,I b] [D.sl 1 A,I j,I k],RA.ro (cI 80)] (RR.vals [cS 3 E]))]):
Rt 16 [cS 1 A] [.agg (gr F g i),cS 5 C,cS 3 E]:=
h.of
end Go.Proofs.YtdkobdhckkjmeaaGreat
