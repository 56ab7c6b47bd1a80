import Derived.Test.YtdchjefneblpgaaGE
set_option linter.unusedVariables false
set_option linter.unusedSimpArgs false
namespace Go.Proofs.Ytdchjefneblpgaa
open Go.Sx Go.RowKit Go.Proofs.Try
variable {a b c d e f g i j k l m n o p a0 cm dH d0 : Int} {A C : aE}
def q9(A:aE)(a c d e:Int)(C:aE)(f g i j b:Int):aG:=bR 55 [(0,bC 1000000000),(2,bC 2),(3,bC 3),(4,bB a)] [(3,[aS c,aS d,aS e,bU 52 1 C]),(2,[aS f,aS g,aS i,.v (bE)]),(1000000000,[.dL 1000000100 1 A,aS j,aS b])]
def MY(A:aE)(a d e f:Int)(C:aE)(g i j k c b:Int):aG:=bR 55 [(0,bC 1000000000),(2,bC 2),(3,bC 3),(4,bB a),(37,bB a),(38,bC 1000000000),(39,bB b),(40,.aN (.one (.bP (decide (a<b)))))] [(3,[aS d,aS e,aS f,bU 52 1 C]),(2,[aS g,aS i,aS j,.v (bE)]),(1000000000,[.dL 1000000100 1 A,aS k,aS c])]
def Fa(C:aE)(a f g i:Int)(A:aE)(j k l c d e b:Int):aG:=bR 55 [(0,bC 1000000000),(2,bC 2),(3,bC 3),(4,bB a),(37,bB a),(38,bC 1000000000),(39,bB c),(40,.aN (.one (.bP (decide (a<c))))),(43,.aN (.one (.ptr 3 3))),(44,.aN (.one (.aa (Tag.ro 52) 1 A))),(45,bB a),(46,bB (a*2)),(47,bB (1+a*2)),(48,bC 1000000000),(49,bB b),(50,bB (1+a*2+b)),(51,.aN (.one (.aa (.own 51) 1 [[I (1+a*2+b)]]))),(52,az.aN (bi.one (bU 52 1 (A++[[I (1+a*2+b)]])))),(53,.aN (.one (.ptr 3 3)))] [(3,[aS f,aS g,aS i,bU 52 1 (A++[[I (1+a*2+b)]])]),(2,[aS j,aS k,aS l,.v (bE)]),(1000000000,[.dL 1000000100 1 C,aS d,aS e])]
theorem acx{A:aE}{a g i j:Int}{C:aE}{k l m e f n c d b:Int}
  (h:cn [ap .i64 (a*2),ap .i64 (1+a*2),cv prog 48 [ba.cur [D.aa 1 A,I e,I f] [D.aa 1 A,I c,I d],ba.ro (ao 2)] (bd.vals [ao b]),ap .i64 (1+a*2+b),(C.length+[[I (1+a*2+b)]].length)*8<=140737488355328,C.length+[[I (1+a*2+b)]].length<=9223372036854775807,Flat [[I (1+a*2+b)]]]):
  gF prog (ev f78 14) (MY A a g i j C k l m e f n) (Fa A a g i j C k l m n c d b):=
 .of [[],[],[],[],[],[],[.eI [some [D.aa 1 A,I c,I d],none] (bd.vals [ao b])],[],[],[],[],[]] [[],[],[],[ap .i64 (a*2)],[ap .i64 (1+a*2)],[],[cv prog 48 [ba.cur [D.aa 1 A,I e,I f] [D.aa 1 A,I c,I d],ba.ro (ao 2)] (bd.vals [ao b])],[ap .i64 (1+a*2+b)],[],[(C.length+[[I (1+a*2+b)]].length)*8<=140737488355328,C.length+[[I (1+a*2+b)]].length<=9223372036854775807,Flat [[I (1+a*2+b)]]],[],[]] (by kernel_rfl) (by kernel_rfl) (by kernel_rfl) h
theorem acy(h:al [.w A j k b,.k A 48 o p j k 3 b,.b (decide (a<b)) true,.a (.nU (Fa A a c d e C f g i b l m n)),.p (gF prog (ev f78 14) (MY A a c d e C f g i j k b) (Fa A a c d e C f g i b l m n)),.u a]):
 bp (aF f78 0) (q9 A a c d e C f g i o p) .normal (q9 A (a+1) c d e (C++[[I (1+a*2+n)]]) f g i l m):=
 h.bu [4,0,3,2] [3,2,1000000000]
def uy(A:aE)(a b c:Int)(C:aE)(d e f g i:Int):aG:=bR 55 [(0,bC 1000000000),(2,bC 2),(3,bC 3)] [(3,[aS a,aS b,aS c,bU 52 1 C]),(2,[aS d,aS e,aS f,.v (bE)]),(1000000000,[.dL 1000000100 1 A,aS g,aS i])]
theorem acz(h:al [.w A a b c,.k A 48 l m a b 3 c,.b (decide (d<c)) false]):
 bp (aF f78 0) (q9 A d e f g C i j k l m) (.exit 1) (uy A e f g C i j k a b):=
 h.bu [3,2,0] [3,2,1000000000]
def w4(A:aE)(a b c d e:Int)(l:List O):List O:=.w A a b c::.k A 48 d e a b 8 c::.v (1+c)::l
theorem acA(h:al (w4 A c d a g n [.b (1+a==2) true,.w A e f b,.p (cv prog 66 [ba.cur [D.aa 1 A,I c,I d] [D.aa 1 A,I e,I f],ba.ro (.one (.aa 1 [[I 0],[I 1],[I 3],[I 10],[I 999]]))] (bd.vals [ao b])),.b (1+a != 8) true,.l [(4000003,52,1)] [4,0,3,2] [3,2,1000000000] (aF f78 0) (q9 A 0 (1+a) b 0 [] 0 0 0 e f) (.exit 1) (uy A i j k C o p a0 l m)])):
 dx 78 [ba.cur [D.aa 1 A,I g,I n] [D.aa 1 A,I l,I m]] (bd.vals [.agg (aX i j k C)]):=
 h.dB
theorem acB(h:al (w4 A f g a k o [.b (1+a==2) false,.b (1+a==3) true,.w A i j b,.w A c d e,.k A 48 f g i j 4 b,.v (1+b),.k A 48 i j c d (1+b) e,.b (1+a != 8) true,.l [(4000003,52,1)] [4,0,3,2] [3,2,1000000000] (aF f78 0) (q9 A 0 (1+a) (1+b) e [] 0 0 0 c d) (.exit 1) (uy A l m n C cm dH d0 p a0)])):
 dx 78 [ba.cur [D.aa 1 A,I k,I o] [D.aa 1 A,I p,I a0]] (bd.vals [.agg (aX l m n C)]):=
 h.dB
theorem acC(h:al (w4 A c d a g n [.b (1+a==2) false,.b (1+a==3) false,.b (1+a==4) true,.w A e f b,.p (cv prog 66 [ba.cur [D.aa 1 A,I c,I d] [D.aa 1 A,I e,I f],ba.ro (.one (.aa 1 [[I 0],[I 1],[I 2],[I 3],[I 50],[I 99]]))] (bd.vals [ao b])),.b (1+a != 8) true,.l [(4000003,52,1)] [4,0,3,2] [3,2,1000000000] (aF f78 0) (q9 A 0 (1+a) b 0 [] 0 0 0 e f) (.exit 1) (uy A i j k C o p a0 l m)])):
 dx 78 [ba.cur [D.aa 1 A,I g,I n] [D.aa 1 A,I l,I m]] (bd.vals [.agg (aX i j k C)]):=
 h.dB
theorem acD(h:al (w4 A b c a d g [.b (1+a==2) false,.b (1+a==3) false,.b (1+a==4) false,.b (1+a != 8) true,.l [(4000003,52,1)] [4,0,3,2] [3,2,1000000000] (aF f78 0) (q9 A 0 (1+a) 0 0 [] 0 0 0 b c) (.exit 1) (uy A i j k C l m n e f)])):
 dx 78 [ba.cur [D.aa 1 A,I d,I g] [D.aa 1 A,I e,I f]] (bd.vals [.agg (aX i j k C)]):=
 h.dB
theorem acE(h:al (w4 A b c a d e [.b (1+a==2) false,.b (1+a==3) false,.b (1+a==4) false,.b (1+a != 8) false])):
 dx 78 [ba.cur [D.aa 1 A,I d,I e] [D.aa 1 A,I b,I c]] (bd.vals [.agg (aX (1+a) 0 0 [])]):=
 h.dB
def w5(A:aE)(a b c d e:Int)(C:aE)(f g i j k:Int)(l:List O):List O:=.a (.eI [some [D.aa 1 A,I a,I b]] (bd.vals [.agg (aX c d e C)]))::.w A f g i::.p (cv prog 78 [ba.cur [D.aa 1 A,I j,I k] [D.aa 1 A,I a,I b]] (bd.vals [.agg (aX c d e C)]))::.k A 48 a b f g 12 i::l
theorem acF(h:al (w5 A g i n j k C b c d l m [.b (d==0) true,.w A e f a,.k A 48 b c e f 11 a,.v (a-1)])):
 dx 65 [ba.cur [D.aa 1 A,I l,I m] [D.aa 1 A,I e,I f]] (bd.vals [.agg (aX (a-1) j k C)]):=
 h.dB
theorem acG(h:al (w5 A g i j n k C b c a l m [.b (a==0) false,.b (a==1) true,.w A d e f,.p (cv prog 66 [ba.cur [D.aa 1 A,I b,I c] [D.aa 1 A,I d,I e],ba.ro (.one (.aa 1 [[I (-1)],[I 0],[I 1000],[I 100],[I 11]]))] (bd.vals [ao f]))])):
 dx 65 [ba.cur [D.aa 1 A,I l,I m] [D.aa 1 A,I d,I e]] (bd.vals [.agg (aX j f k C)]):=
 h.dB
theorem acH(h:al (w5 A g i j k n C b c a l m [.b (a==0) false,.b (a==1) false,.b (a==2) true,.w A d e f,.p (cv prog 66 [ba.cur [D.aa 1 A,I b,I c] [D.aa 1 A,I d,I e],ba.ro (.one (.aa 1 [[I (-1)],[I 1],[I 3]]))] (bd.vals [ao f]))])):
 dx 65 [ba.cur [D.aa 1 A,I l,I m] [D.aa 1 A,I d,I e]] (bd.vals [.agg (aX j k f C)]):=
 h.dB
def Fb(C:aE)(b c d:Int)(A:aE)(e f a:Int):aG:=bR 37 [(0,bC 1000000000),(2,bC 2),(3,bC 3),(4,bC 1000000000),(5,az.aN (bi.agg [aS b,aS c,aS d,bU 60003 1 A])),(6,bC 1000000000),(7,bB a),(8,.aN (.one (.bP (a==0)))),(9,.aN (.one (.bP (a==0)))),(14,.aN (.one (.bP (a==1)))),(15,.aN (.one (.bP (a==1)))),(20,.aN (.one (.bP (a==2)))),(21,.aN (.one (.bP (a==2)))),(26,.aN (.one (.bP (a==3)))),(27,.aN (.one (.bP (a==3))))] [(3,[aS b,aS c,aS d,bU 60003 1 A]),(2,[aS 0,aS 0,aS 0,.v (bE)]),(1000000000,[.dL 1000000100 1 C,aS e,aS f])]
def Fc(P:Program)(W:Array Oper)(A:aE)(g i j:Int)(C:aE)(a b c d e f:Int):aG:=
 sS P W [[],[],[],[],[.eI [some [D.aa 1 A,I d,I e],none] (bd.vals [ao f])],[],[],[],[]] (Fb A g i j C a b c)
theorem acI{A:aE}{g i j:Int}{C:aE}{b c d e f a:Int}
  (h:cn [cv prog 66 [ba.cur [D.aa 1 A,I b,I c] [D.aa 1 A,I e,I f],ba.ro (.one (.aa 1 [[I 1],[I 7],[I 8],[I (-1)]]))] (bd.vals [ao a]),(C.length+[[I a]].length)*8<=140737488355328,C.length+[[I a]].length<=9223372036854775807,Flat [[I a]]]):
  gF prog (ev f65 10) (Fb A g i j C b c d) (Fc prog (ev f65 10) A g i j C b c d e f a):=
 .tK [0,0,0,0,1,0,3,0,0] h
theorem acJ(h:al (w5 A k l b c d C e f a m n [.b (a==0) false,.b (a==1) false,.b (a==2) false,.b (a==3) true,.a (.nU (Fc prog (ev f65 10) A b c d C e f a g i j)),.p (gF prog (ev f65 10) (Fb A b c d C e f a) (Fc prog (ev f65 10) A b c d C e f a g i j))])):
 dx 65 [ba.cur [D.aa 1 A,I m,I n] [D.aa 1 A,I g,I i]] (bd.vals [.agg (aX b c d (C++[[I j]]))]):=
 h.dB
theorem ab7(h:al (w5 A d e f g i C b c a j k [.b (a==0) false,.b (a==1) false,.b (a==2) false,.b (a==3) false])):
 dx 65 [ba.cur [D.aa 1 A,I j,I k] [D.aa 1 A,I b,I c]] (bd.vals [.agg (aX f g i C)]):=
 h.dB
