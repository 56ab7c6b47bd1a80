import Derived.Test.YtdanpadojemjeaaGreatRows
import Derived.Test.YtdanpadojemjeaaGreatGE
namespace Go.Proofs.YtdanpadojemjeaaGreat
open Go.Sx Go.RowKit
variable {a b c d e f g i j k l m n o : Int} {A C E F G : LL} {q r s t u v w : Bool}
theorem qF1(h:Oo [.r 222 [.agg (gr A a b),cI c] [.agg (nd i m j C),cB q],.r 238 [.agg [I d,I e]] [.agg [I k,I l],cB r],.b q true,.r 163 [.agg (gr A a b)] [cB s],.b s true,.r 164 [.agg (ri c d e f g)] [cB t],.b t true,.b (i==7) true,.b (decide ((C.length:Int)>0)) true]):
 Rt 211 [.agg (gr A a b),.agg (ri c d e f g)] [.one (B !r)]:=
 h.of
theorem qF2(h:Oo [.r 222 [.agg (gr A a b),cI c] [.agg (nd i m j C),cB q],.r 238 [.agg [I d,I e]] [.agg [I k,I l],cB t],.b q true,.r 163 [.agg (gr A a b)] [cB r],.b r true,.r 164 [.agg (ri c d e f g)] [cB s],.b s true,.b (i==7) true,.b (decide ((C.length:Int)>0)) false]):
 Rt 211 [.agg (gr A a b),.agg (ri c d e f g)] [cB false]:=
 h.of
theorem qF3(h:Oo [.r 222 [.agg (gr A a b),cI c] [.agg (nd i m j C),cB q],.r 238 [.agg [I d,I e]] [.agg [I k,I l],cB t],.b q true,.r 163 [.agg (gr A a b)] [cB r],.b r true,.r 164 [.agg (ri c d e f g)] [cB s],.b s true,.b (i==7) false]):
 Rt 211 [.agg (gr A a b),.agg (ri c d e f g)] [cB false]:=
 h.of
theorem qF4(h:Oo [.r 222 [.agg (gr A a b),cI c] [.agg (nd l m i C),cB q],.r 238 [.agg [I d,I e]] [.agg [I j,I k],cB t],.b q true,.r 163 [.agg (gr A a b)] [cB r],.b r true,.r 164 [.agg (ri c d e f g)] [cB s],.b s false]):
 Rt 211 [.agg (gr A a b),.agg (ri c d e f g)] [cB false]:=
 h.of
theorem qF5(h:Oo [.r 222 [.agg (gr A a b),cI c] [.agg (nd l m f C),cB q],.r 238 [.agg [I d,I e]] [.agg [I g,I i],cB s],.b q true,.r 163 [.agg (gr A a b)] [cB r],.b r false]):
 Rt 211 [.agg (gr A a b),.agg (ri c d e j k)] [cB false]:=
 h.of
theorem qF6(h:Oo [.r 222 [.agg (gr A a b),cI c] [.agg (nd l m f C),cB q],.r 238 [.agg [I d,I e]] [.agg [I g,I i],cB r],.b q false]):
 Rt 211 [.agg (gr A a b),.agg (ri c d e j k)] [cB false]:=
 h.of
theorem qF7(h:Oo [.g ([]:LL) A 32,.h A,.r 222 [.agg (gr C a b),cI c] [.agg (nd k d e E),cB q],.n q true]):
 Rt 210 [.agg (gr C a b),cS 4 A,.agg (ri c f g i j)] [cS 4 ([]++A),cS 5 [],cB false]:=
 h.of
theorem qF8(h:Oo [.g ([]:LL) A 32,.h A,.r 222 [.agg (gr C a b),cI c] [.agg (nd k d e E),cB q],.n q false,.r 163 [.agg (gr C a b)] [cB r],.n r true]):
 Rt 210 [.agg (gr C a b),cS 4 A,.agg (ri c f g i j)] [cS 4 ([]++A),cS 5 [],cB false]:=
 h.of
theorem qF9(h:Oo [.g ([]:LL) A 32,.h A,.r 222 [.agg (gr C a b),cI c] [.agg (nd k i j E),cB q],.n q false,.r 163 [.agg (gr C a b)] [cB r],.n r false,.r 164 [.agg (ri c d e f g)] [cB s],.n s true]):
 Rt 210 [.agg (gr C a b),cS 4 A,.agg (ri c d e f g)] [cS 4 ([]++A),cS 5 [],cB false]:=
 h.of
theorem qGa(h:Oo [.g ([]:LL) A 32,.h A,.r 222 [.agg (gr C a b),cI c] [.agg (nd f g i E),cB q],.n q false,.r 163 [.agg (gr C a b)] [cB r],.n r false,.r 164 [.agg (ri c j k d e)] [cB s],.n s false,.r 235 [.agg (nd f g i E),cI d,cI e] [cI l,cI m,cB t],.n t true,.b (f != 8) true]):
 Rt 210 [.agg (gr C a b),cS 4 A,.agg (ri c j k d e)] [cS 4 ([]++A),cS 5 [],cB true]:=
 h.of
theorem qGb(h:Oo [.g ([]:LL) A 32,.h A,.r 222 [.agg (gr C e f),cI b] [.agg (nd a i j E),cB q],.n q false,.r 163 [.agg (gr C e f)] [cB r],.n r false,.r 164 [.agg (ri b g k c d)] [cB s],.n s false,.r 235 [.agg (nd a i j E),cI c,cI d] [cI l,cI m,cB t],.n t true,.b (a != 8) false,.r 236 [cI a] [cB u],.b u true,.r 237 [cI a,cS 4 A,.agg [I b,I g,I c,I d]] [cS 4 F,cB v],.n v true]):
 Rt 210 [.agg (gr C e f),cS 4 A,.agg (ri b g k c d)] [cS 4 F,cS 5 [],cB true]:=
 h.of
theorem qGc(h:Oo [.g ([]:LL) A 32,.h A,.r 222 [.agg (gr C f g),cI b] [.agg (nd a j k E),cB q],.n q false,.r 163 [.agg (gr C f g)] [cB r],.n r false,.r 164 [.agg (ri b c i d e)] [cB s],.n s false,.r 235 [.agg (nd a j k E),cI d,cI e] [cI l,cI m,cB t],.n t true,.b (a != 8) false,.r 236 [cI a] [cB u],.b u true,.r 237 [cI a,cS 4 A,.agg [I b,I c,I d,I e]] [cS 4 F,cB v],.n v false,.b (a==7) true,.r 238 [.agg [I c,I i]] [.agg [I n,I o],cB w],.n w true]):
 Rt 210 [.agg (gr C f g),cS 4 A,.agg (ri b c i d e)] [cS 4 F,cS 5 [],cB true]:=
 h.of
def qe7(a b c:Int)(C:LL)(d e:Int)(E:LL)(f g i:Int)(A:LL):St:=
 { env:=envOf 127 [(9,PV.al (AL.one (lO 840000 4 E))),(10,PV.al (AL.one (lO 25 5 A))),(11,vP 11),(13,vI d),(14,vI e),(18,vP 18),(21,vI i)],boxes:=[(18,[lI f,lI g]),(11,[lI a,lI b,lI c,lO 310003 1 C])] }
theorem qGd(h:Oo [.b (decide (a<(A.length:Int))) true,.p (0≤a),.p (a<(A.length:Int)),.e A a.toNat [I f],.g C [(ri f d e b c)] 40,.h [(ri f d e b c)],.u a]):
 Tp (qaa Tryz.f210 0) (qe7 j g i A b c E d e a C) .normal (qe7 j g i A b c E d e (a+1) (C++[(ri f d e b c)])):=
 h.lp [21,11,10,18,13,14,9] [18,11]
def qd5(A C:LL):St:=
 { env:=envOf 127 [(9,PV.al (AL.one (lO 840000 4 A))),(10,PV.al (AL.one (lO 25 5 C)))],boxes:=[] }
theorem qGe(h:Oo [.b (decide (a<(A.length:Int))) false]):
 Tp (qaa Tryz.f210 0) (qe7 i b c A d e C f g a E) (.exit 0) (qd5 C E):=
 h.lp [9,10] []
theorem qGf(h:Oo [.g ([]:LL) C 32,.h C,.r 222 [.agg (gr E f j),cI b] [.agg (nd a g i F),cB q],.n q false,.r 163 [.agg (gr E f j)] [cB r],.n r false,.r 164 [.agg (ri b c k d e)] [cB s],.n s false,.r 235 [.agg (nd a g i F),cI d,cI e] [cI l,cI m,cB t],.n t true,.b (a != 8) false,.r 236 [cI a] [cB u],.b u true,.r 237 [cI a,cS 4 C,.agg [I b,I c,I d,I e]] [cS 4 A,cB v],.n v false,.b (a==7) true,.r 238 [.agg [I c,I k]] [.agg [I n,I o],cB w],.n w false,.l [] [21,11,10,18,13,14,9] [18,11] (qaa Tryz.f210 0) (qe7 a g i F l m A n o 0 []) (.exit 0) (qd5 A G)]):
 Rt 210 [.agg (gr E f j),cS 4 C,.agg (ri b c k d e)] [cS 4 A,cS 5 G,cB true]:=
 h.of
def qe8(a b c d e:Int)(C:LL)(f g:Int)(E:LL)(i:Int)(A:LL):St:=
 { env:=envOf 127 [(9,PV.al (AL.one (lO 840000 4 E))),(10,PV.al (AL.one (lO 25 5 A))),(11,vP 11),(13,vI f),(14,vI g),(18,vP 18),(21,vI i)],boxes:=[(18,[lI a,lI b]),(11,[lI c,lI d,lI e,lO 310003 1 C])] }
theorem qGg(h:Oo [.b (decide (a<(A.length:Int))) true,.p (0≤a),.p (a<(A.length:Int)),.e A a.toNat [I f],.g C [(ri f d e b c)] 40,.h [(ri f d e b c)],.u a]):
 Tp (qaa Tryz.f210 0) (qe8 d e j g i A b c E a C) .normal (qe8 d e j g i A b c E (a+1) (C++[(ri f d e b c)])):=
 h.lp [21,11,10,18,13,14,9] [18,11]
theorem qGh(h:Oo [.b (decide (a<(A.length:Int))) false]):
 Tp (qaa Tryz.f210 0) (qe8 f g i b c A d e C a E) (.exit 0) (qd5 C E):=
 h.lp [9,10] []
theorem qGi(h:Oo [.g ([]:LL) C 32,.h C,.r 222 [.agg (gr E f j),cI b] [.agg (nd a g i F),cB q],.n q false,.r 163 [.agg (gr E f j)] [cB r],.n r false,.r 164 [.agg (ri b c k d e)] [cB s],.n s false,.r 235 [.agg (nd a g i F),cI d,cI e] [cI l,cI m,cB t],.n t true,.b (a != 8) false,.r 236 [cI a] [cB u],.b u true,.r 237 [cI a,cS 4 C,.agg [I b,I c,I d,I e]] [cS 4 A,cB v],.n v false,.b (a==7) false,.l [] [21,11,10,18,13,14,9] [18,11] (qaa Tryz.f210 0) (qe8 c k a g i F l m A 0 []) (.exit 0) (qd5 A G)]):
 Rt 210 [.agg (gr E f j),cS 4 C,.agg (ri b c k d e)] [cS 4 A,cS 5 G,cB true]:=
 h.of
theorem qGj(h:Oo [.g ([]:LL) A 32,.h A,.r 222 [.agg (gr C b c),cI d] [.agg (nd a j k E),cB q],.n q false,.r 163 [.agg (gr C b c)] [cB r],.n r false,.r 164 [.agg (ri d e f g i)] [cB s],.n s false,.r 235 [.agg (nd a j k E),cI g,cI i] [cI l,cI m,cB t],.n t true,.b (a != 8) false,.r 236 [cI a] [cB u],.b u false,.b (a==7) true,.r 238 [.agg [I e,I f]] [.agg [I n,I o],cB v],.n v true]):
 Rt 210 [.agg (gr C b c),cS 4 A,.agg (ri d e f g i)] [cS 4 ([]++A),cS 5 [],cB true]:=
 h.of
def qe9(A:LL)(a b c:Int)(E:LL)(d e f g i:Int)(C:LL):St:=
 { env:=envOf 127 [(9,PV.al (AL.one (lO 22 4 ([]++A)))),(10,PV.al (AL.one (lO 25 5 C))),(11,vP 11),(13,vI d),(14,vI e),(18,vP 18),(21,vI i)],boxes:=[(18,[lI f,lI g]),(11,[lI a,lI b,lI c,lO 310003 1 E])] }
theorem qGk(h:Oo [.b (decide (a<(A.length:Int))) true,.p (0≤a),.p (a<(A.length:Int)),.e A a.toNat [I f],.g C [(ri f d e b c)] 40,.h [(ri f d e b c)],.u a]):
 Tp (qaa Tryz.f210 0) (qe9 E j g i A b c d e a C) .normal (qe9 E j g i A b c d e (a+1) (C++[(ri f d e b c)])):=
 h.lp [21,11,10,18,13,14,9] [18,11]
def qd6(A C:LL):St:=
 { env:=envOf 127 [(9,PV.al (AL.one (lO 22 4 ([]++A)))),(10,PV.al (AL.one (lO 25 5 C)))],boxes:=[] }
theorem qGl(h:Oo [.b (decide (a<(A.length:Int))) false]):
 Tp (qaa Tryz.f210 0) (qe9 E i b c A d e f g a C) (.exit 0) (qd6 E C):=
 h.lp [9,10] []
theorem qGm(h:Oo [.g ([]:LL) A 32,.h A,.r 222 [.agg (gr C b e),cI f] [.agg (nd a c d E),cB q],.n q false,.r 163 [.agg (gr C b e)] [cB r],.n r false,.r 164 [.agg (ri f g i j k)] [cB s],.n s false,.r 235 [.agg (nd a c d E),cI j,cI k] [cI l,cI m,cB t],.n t true,.b (a != 8) false,.r 236 [cI a] [cB u],.b u false,.b (a==7) true,.r 238 [.agg [I g,I i]] [.agg [I n,I o],cB v],.n v false,.l [] [21,11,10,18,13,14,9] [18,11] (qaa Tryz.f210 0) (qe9 A a c d E l m n o 0 []) (.exit 0) (qd6 A F)]):
 Rt 210 [.agg (gr C b e),cS 4 A,.agg (ri f g i j k)] [cS 4 ([]++A),cS 5 F,cB true]:=
 h.of
def qfa(A:LL)(a b c d e:Int)(E:LL)(f g i:Int)(C:LL):St:=
 { env:=envOf 127 [(9,PV.al (AL.one (lO 22 4 ([]++A)))),(10,PV.al (AL.one (lO 25 5 C))),(11,vP 11),(13,vI f),(14,vI g),(18,vP 18),(21,vI i)],boxes:=[(18,[lI a,lI b]),(11,[lI c,lI d,lI e,lO 310003 1 E])] }
theorem qGn(h:Oo [.b (decide (a<(A.length:Int))) true,.p (0≤a),.p (a<(A.length:Int)),.e A a.toNat [I f],.g C [(ri f d e b c)] 40,.h [(ri f d e b c)],.u a]):
 Tp (qaa Tryz.f210 0) (qfa E d e j g i A b c a C) .normal (qfa E d e j g i A b c (a+1) (C++[(ri f d e b c)])):=
 h.lp [21,11,10,18,13,14,9] [18,11]
theorem qGo(h:Oo [.b (decide (a<(A.length:Int))) false]):
 Tp (qaa Tryz.f210 0) (qfa E f g i b c A d e a C) (.exit 0) (qd6 E C):=
 h.lp [9,10] []
theorem qGp(h:Oo [.g ([]:LL) A 32,.h A,.r 222 [.agg (gr C b e),cI f] [.agg (nd a c d E),cB q],.n q false,.r 163 [.agg (gr C b e)] [cB r],.n r false,.r 164 [.agg (ri f g i j k)] [cB s],.n s false,.r 235 [.agg (nd a c d E),cI j,cI k] [cI l,cI m,cB t],.n t true,.b (a != 8) false,.r 236 [cI a] [cB u],.b u false,.b (a==7) false,.l [] [21,11,10,18,13,14,9] [18,11] (qaa Tryz.f210 0) (qfa A g i a c d E l m 0 []) (.exit 0) (qd6 A F)]):
 Rt 210 [.agg (gr C b e),cS 4 A,.agg (ri f g i j k)] [cS 4 ([]++A),cS 5 F,cB true]:=
 h.of
theorem qGq(h:Oo [.g ([]:LL) A 32,.h A,.r 222 [.agg (gr C e f),cI a] [.agg (nd d i j E),cB q],.n q false,.r 163 [.agg (gr C e f)] [cB r],.n r false,.r 164 [.agg (ri a g k b c)] [cB s],.n s false,.r 235 [.agg (nd d i j E),cI b,cI c] [cI l,cI m,cB t],.n t false,.r 236 [cI d] [cB u],.b u true,.r 237 [cI d,cS 4 A,.agg [I a,I g,I b,I c]] [cS 4 F,cB v],.n v true]):
 Rt 210 [.agg (gr C e f),cS 4 A,.agg (ri a g k b c)] [cS 4 F,cS 5 [],cB true]:=
 h.of
theorem qGr(h:Oo [.g ([]:LL) A 32,.h A,.r 222 [.agg (gr C f g),cI b] [.agg (nd a j k E),cB q],.n q false,.r 163 [.agg (gr C f g)] [cB r],.n r false,.r 164 [.agg (ri b c i d e)] [cB s],.n s false,.r 235 [.agg (nd a j k E),cI d,cI e] [cI l,cI m,cB t],.n t false,.r 236 [cI a] [cB u],.b u true,.r 237 [cI a,cS 4 A,.agg [I b,I c,I d,I e]] [cS 4 F,cB v],.n v false,.b (a==7) true,.r 238 [.agg [I c,I i]] [.agg [I n,I o],cB w],.n w true]):
 Rt 210 [.agg (gr C f g),cS 4 A,.agg (ri b c i d e)] [cS 4 F,cS 5 [],cB true]:=
 h.of
theorem qGs(h:Oo [.g ([]:LL) C 32,.h C,.r 222 [.agg (gr E f j),cI b] [.agg (nd a g i F),cB q],.n q false,.r 163 [.agg (gr E f j)] [cB r],.n r false,.r 164 [.agg (ri b c k d e)] [cB s],.n s false,.r 235 [.agg (nd a g i F),cI d,cI e] [cI l,cI m,cB t],.n t false,.r 236 [cI a] [cB u],.b u true,.r 237 [cI a,cS 4 C,.agg [I b,I c,I d,I e]] [cS 4 A,cB v],.n v false,.b (a==7) true,.r 238 [.agg [I c,I k]] [.agg [I n,I o],cB w],.n w false,.l [] [21,11,10,18,13,14,9] [18,11] (qaa Tryz.f210 0) (qe7 a g i F l m A n o 0 []) (.exit 0) (qd5 A G)]):
 Rt 210 [.agg (gr E f j),cS 4 C,.agg (ri b c k d e)] [cS 4 A,cS 5 G,cB true]:=
 h.of
theorem qGt(h:Oo [.g ([]:LL) C 32,.h C,.r 222 [.agg (gr E f j),cI b] [.agg (nd a g i F),cB q],.n q false,.r 163 [.agg (gr E f j)] [cB r],.n r false,.r 164 [.agg (ri b c k d e)] [cB s],.n s false,.r 235 [.agg (nd a g i F),cI d,cI e] [cI l,cI m,cB t],.n t false,.r 236 [cI a] [cB u],.b u true,.r 237 [cI a,cS 4 C,.agg [I b,I c,I d,I e]] [cS 4 A,cB v],.n v false,.b (a==7) false,.l [] [21,11,10,18,13,14,9] [18,11] (qaa Tryz.f210 0) (qe8 c k a g i F l m A 0 []) (.exit 0) (qd5 A G)]):
 Rt 210 [.agg (gr E f j),cS 4 C,.agg (ri b c k d e)] [cS 4 A,cS 5 G,cB true]:=
 h.of
theorem qGu(h:Oo [.g ([]:LL) A 32,.h A,.r 222 [.agg (gr C b c),cI d] [.agg (nd a j k E),cB q],.n q false,.r 163 [.agg (gr C b c)] [cB r],.n r false,.r 164 [.agg (ri d e f g i)] [cB s],.n s false,.r 235 [.agg (nd a j k E),cI g,cI i] [cI l,cI m,cB t],.n t false,.r 236 [cI a] [cB u],.b u false,.b (a==7) true,.r 238 [.agg [I e,I f]] [.agg [I n,I o],cB v],.n v true]):
 Rt 210 [.agg (gr C b c),cS 4 A,.agg (ri d e f g i)] [cS 4 ([]++A),cS 5 [],cB true]:=
 h.of
theorem qGv(h:Oo [.g ([]:LL) A 32,.h A,.r 222 [.agg (gr C b e),cI f] [.agg (nd a c d E),cB q],.n q false,.r 163 [.agg (gr C b e)] [cB r],.n r false,.r 164 [.agg (ri f g i j k)] [cB s],.n s false,.r 235 [.agg (nd a c d E),cI j,cI k] [cI l,cI m,cB t],.n t false,.r 236 [cI a] [cB u],.b u false,.b (a==7) true,.r 238 [.agg [I g,I i]] [.agg [I n,I o],cB v],.n v false,.l [] [21,11,10,18,13,14,9] [18,11] (qaa Tryz.f210 0) (qe9 A a c d E l m n o 0 []) (.exit 0) (qd6 A F)]):
 Rt 210 [.agg (gr C b e),cS 4 A,.agg (ri f g i j k)] [cS 4 ([]++A),cS 5 F,cB true]:=
 h.of
theorem qGw(h:Oo [.g ([]:LL) A 32,.h A,.r 222 [.agg (gr C b e),cI f] [.agg (nd a c d E),cB q],.n q false,.r 163 [.agg (gr C b e)] [cB r],.n r false,.r 164 [.agg (ri f g i j k)] [cB s],.n s false,.r 235 [.agg (nd a c d E),cI j,cI k] [cI l,cI m,cB t],.n t false,.r 236 [cI a] [cB u],.b u false,.b (a==7) false,.l [] [21,11,10,18,13,14,9] [18,11] (qaa Tryz.f210 0) (qfa A g i a c d E l m 0 []) (.exit 0) (qd6 A F)]):
 Rt 210 [.agg (gr C b e),cS 4 A,.agg (ri f g i j k)] [cS 4 ([]++A),cS 5 F,cB true]:=
 h.of
theorem qpq(h:Oo [.r 122 [.agg (gr A a b)] [cB q],.n q true,.r 196 [cS 4 E] [cS 4 C]]):
 Rt 218 [.agg (gr A a b),cS 4 E,.agg (ri c d e f g)] [cS 4 C,cS 5 [],cB false]:=
 h.of
theorem qpr(h:Oo [.r 122 [.agg (gr A a b)] [cB r],.n r false,.r 173 [.agg (ri c d e f g)] [cB q],.n q true,.r 196 [cS 4 E] [cS 4 C]]):
 Rt 218 [.agg (gr A a b),cS 4 E,.agg (ri c d e f g)] [cS 4 C,cS 5 [],cB false]:=
 h.of
theorem qGx(h:Oo [.r 122 [.agg (gr A a b)] [cB s],.n s false,.r 173 [.agg (ri c d e f g)] [cB q],.n q false,.r 200 [.agg (gr A a b),cI c] [cB r],.n r true,.r 196 [cS 4 E] [cS 4 C]]):
 Rt 218 [.agg (gr A a b),cS 4 E,.agg (ri c d e f g)] [cS 4 C,cS 5 [],cB false]:=
 h.of
theorem qGy(h:Oo [.r 122 [.agg (gr A b d)] [cB t],.n t false,.r 173 [.agg (ri a j k e f)] [cB q],.n q false,.r 200 [.agg (gr A b d),cI a] [cB r],.n r false,.p (0≤a),.p (a<(A.length:Int)),.e A a.toNat (nd c g i C),.r 239 [.agg (nd c g i C),cI e,cI f] [cI l,cI m,cB s],.n s true,.b (c != 8) true,.r 196 [cS 4 F] [cS 4 E]]):
 Rt 218 [.agg (gr A b d),cS 4 F,.agg (ri a j k e f)] [cS 4 E,cS 5 [],cB true]:=
 h.of
theorem qGz(h:Oo [.r 122 [.agg (gr A e f)] [cB u],.n u false,.r 173 [.agg (ri a g k c d)] [cB q],.n q false,.r 200 [.agg (gr A e f),cI a] [cB r],.n r false,.p (0≤a),.p (a<(A.length:Int)),.e A a.toNat (nd b i j C),.r 239 [.agg (nd b i j C),cI c,cI d] [cI l,cI m,cB s],.n s true,.b (b != 8) false,.r 240 [cI b,cS 4 F,.agg [I a,I g,I c,I d]] [cS 4 E,cB t],.n t true]):
 Rt 218 [.agg (gr A e f),cS 4 F,.agg (ri a g k c d)] [cS 4 E,cS 5 [],cB true]:=
 h.of
def qdl(A:LL)(a b:Int)(C:LL)(c d:Int)(q:Bool)(e:Int)(E:LL):St:=
 { env:=envOf 111 [(10,vI a),(11,vI b),(13,PV.al (AL.one (lO 760000 4 C))),(14,vP 14),(15,.al (.one (.sb q))),(16,PV.al (AL.one (lO 107 5 E))),(93,vF 1 A),(94,vI (A.length:Int)),(95,vI e)],boxes:=[(14,[lI c,lI d])] }
theorem qGA(h:Oo [.b (decide (a<(A.length:Int))) true,.p (0≤a),.p (a<(A.length:Int)),.e A a.toNat [I f],.b q true,.g C [(ri f d e b c)] 40,.h [(ri f d e b c)],.u a]):
 Tp (qaa Tryz.f218 0) (qdl A b c E d e q a C) .normal (qdl A b c E d e q (a+1) (C++[(ri f d e b c)])):=
 h.lp [95,94,93,15,16,14,10,11,13] [14]
theorem qGB(h:Oo [.b (decide (a<(A.length:Int))) true,.p (0≤a),.p (a<(A.length:Int)),.e A a.toNat [I f],.b q false,.u a]):
 Tp (qaa Tryz.f218 0) (qdl A b c C d e q a E) .normal (qdl A b c C d e q (a+1) E):=
 h.lp [95,94,93,15,16,14,10,11,13] [14]
def qd7(A C:LL):St:=
 { env:=envOf 111 [(13,PV.al (AL.one (lO 760000 4 A))),(16,PV.al (AL.one (lO 107 5 C)))],boxes:=[] }
theorem qps(h:Oo [.b (decide (a<(A.length:Int))) false]):
 Tp (qaa Tryz.f218 0) (qdl A b c C d e q a E) (.exit 0) (qd7 C E):=
 h.lp [13,16] []
theorem qGC(h:Oo [.r 122 [.agg (gr A f g)] [cB v],.n v false,.r 173 [.agg (ri a c i d e)] [cB q],.n q false,.r 200 [.agg (gr A f g),cI a] [cB r],.n r false,.p (0≤a),.p (a<(A.length:Int)),.e A a.toNat (nd b j k E),.r 239 [.agg (nd b j k E),cI d,cI e] [cI l,cI m,cB s],.n s true,.b (b != 8) false,.r 240 [cI b,cS 4 G,.agg [I a,I c,I d,I e]] [cS 4 C,cB t],.n t false,.b (b==7) true,.r 241 [.agg [I c,I i]] [.agg [I n,I o],cB u],.l [(16,107,5)] [95,94,93,15,16,14,10,11,13] [14] (qaa Tryz.f218 0) (qdl E l m C n o u 0 []) (.exit 0) (qd7 C F)]):
 Rt 218 [.agg (gr A f g),cS 4 G,.agg (ri a c i d e)] [cS 4 C,cS 5 F,cB true]:=
 h.of
def qfb(a b:Int)(A:LL)(c d:Int)(C:LL)(e:Int)(E:LL):St:=
 { env:=envOf 111 [(10,vI c),(11,vI d),(13,PV.al (AL.one (lO 760000 4 C))),(14,vP 14),(15,.al (.one (.sb true))),(16,PV.al (AL.one (lO 107 5 E))),(93,vF 1 A),(94,vI (A.length:Int)),(95,vI e)],boxes:=[(14,[lI a,lI b])] }
theorem qGD(h:Oo [.b (decide (a<(A.length:Int))) true,.p (0≤a),.p (a<(A.length:Int)),.e A a.toNat [I f],.b true true,.g C [(ri f d e b c)] 40,.h [(ri f d e b c)],.u a]):
 Tp (qaa Tryz.f218 0) (qfb d e A b c E a C) .normal (qfb d e A b c E (a+1) (C++[(ri f d e b c)])):=
 h.lp [95,94,93,15,16,14,10,11,13] [14]
theorem qGE(h:Oo [.b (decide (a<(A.length:Int))) false]):
 Tp (qaa Tryz.f218 0) (qfb d e A b c C a E) (.exit 0) (qd7 C E):=
 h.lp [13,16] []
theorem qGF(h:Oo [.r 122 [.agg (gr A f g)] [cB u],.n u false,.r 173 [.agg (ri a c i d e)] [cB q],.n q false,.r 200 [.agg (gr A f g),cI a] [cB r],.n r false,.p (0≤a),.p (a<(A.length:Int)),.e A a.toNat (nd b j k E),.r 239 [.agg (nd b j k E),cI d,cI e] [cI l,cI m,cB s],.n s true,.b (b != 8) false,.r 240 [cI b,cS 4 G,.agg [I a,I c,I d,I e]] [cS 4 C,cB t],.n t false,.b (b==7) false,.l [(16,107,5)] [95,94,93,15,16,14,10,11,13] [14] (qaa Tryz.f218 0) (qfb c i E l m C 0 []) (.exit 0) (qd7 C F)]):
 Rt 218 [.agg (gr A f g),cS 4 G,.agg (ri a c i d e)] [cS 4 C,cS 5 F,cB true]:=
 h.of
theorem qGG(h:Oo [.r 122 [.agg (gr A d f)] [cB u],.n u false,.r 173 [.agg (ri a g k b c)] [cB q],.n q false,.r 200 [.agg (gr A d f),cI a] [cB r],.n r false,.p (0≤a),.p (a<(A.length:Int)),.e A a.toNat (nd e i j C),.r 239 [.agg (nd e i j C),cI b,cI c] [cI l,cI m,cB s],.n s false,.r 240 [cI e,cS 4 F,.agg [I a,I g,I b,I c]] [cS 4 E,cB t],.n t true]):
 Rt 218 [.agg (gr A d f),cS 4 F,.agg (ri a g k b c)] [cS 4 E,cS 5 [],cB true]:=
 h.of
theorem qGH(h:Oo [.r 122 [.agg (gr A f g)] [cB v],.n v false,.r 173 [.agg (ri a c i d e)] [cB q],.n q false,.r 200 [.agg (gr A f g),cI a] [cB r],.n r false,.p (0≤a),.p (a<(A.length:Int)),.e A a.toNat (nd b j k E),.r 239 [.agg (nd b j k E),cI d,cI e] [cI l,cI m,cB s],.n s false,.r 240 [cI b,cS 4 G,.agg [I a,I c,I d,I e]] [cS 4 C,cB t],.n t false,.b (b==7) true,.r 241 [.agg [I c,I i]] [.agg [I n,I o],cB u],.l [(16,107,5)] [95,94,93,15,16,14,10,11,13] [14] (qaa Tryz.f218 0) (qdl E l m C n o u 0 []) (.exit 0) (qd7 C F)]):
 Rt 218 [.agg (gr A f g),cS 4 G,.agg (ri a c i d e)] [cS 4 C,cS 5 F,cB true]:=
 h.of
theorem qGI(h:Oo [.r 122 [.agg (gr A f g)] [cB u],.n u false,.r 173 [.agg (ri a c i d e)] [cB q],.n q false,.r 200 [.agg (gr A f g),cI a] [cB r],.n r false,.p (0≤a),.p (a<(A.length:Int)),.e A a.toNat (nd b j k E),.r 239 [.agg (nd b j k E),cI d,cI e] [cI l,cI m,cB s],.n s false,.r 240 [cI b,cS 4 G,.agg [I a,I c,I d,I e]] [cS 4 C,cB t],.n t false,.b (b==7) false,.l [(16,107,5)] [95,94,93,15,16,14,10,11,13] [14] (qaa Tryz.f218 0) (qfb c i E l m C 0 []) (.exit 0) (qd7 C F)]):
 Rt 218 [.agg (gr A f g),cS 4 G,.agg (ri a c i d e)] [cS 4 C,cS 5 F,cB true]:=
 h.of
theorem qGJ(h:Oo [.r 122 [.agg (gr A a b)] [cB q],.n q true]):
 Rt 219 [.agg (gr A a b),.agg (ri c d e f g)] [cB false]:=
 h.of
theorem qGK(h:Oo [.r 122 [.agg (gr A a b)] [cB q],.n q false,.r 173 [.agg (ri c d e f g)] [cB r],.n r true]):
 Rt 219 [.agg (gr A a b),.agg (ri c d e f g)] [cB false]:=
 h.of
theorem qGL(h:Oo [.r 122 [.agg (gr A a b)] [cB r],.n r false,.r 173 [.agg (ri c d e f g)] [cB s],.n s false,.r 200 [.agg (gr A a b),cI c] [cB q],.n q true]):
 Rt 219 [.agg (gr A a b),.agg (ri c d e f g)] [cB false]:=
 h.of
theorem qGM(h:Oo [.r 122 [.agg (gr A b c)] [cB s],.n s false,.r 173 [.agg (ri a d e g i)] [cB t],.n t false,.r 200 [.agg (gr A b c),cI a] [cB q],.n q false,.p (0≤a),.p (a<(A.length:Int)),.e A a.toNat (nd f j k C),.r 241 [.agg [I d,I e]] [.agg [I l,I m],cB r],.b (f==7) true,.b (decide ((C.length:Int)>0)) true]):
 Rt 219 [.agg (gr A b c),.agg (ri a d e g i)] [.one (B !r)]:=
 h.of
theorem qGN(h:Oo [.r 122 [.agg (gr A b c)] [cB r],.n r false,.r 173 [.agg (ri a d e g i)] [cB s],.n s false,.r 200 [.agg (gr A b c),cI a] [cB q],.n q false,.p (0≤a),.p (a<(A.length:Int)),.e A a.toNat (nd f j k C),.r 241 [.agg [I d,I e]] [.agg [I l,I m],cB t],.b (f==7) true,.b (decide ((C.length:Int)>0)) false]):
 Rt 219 [.agg (gr A b c),.agg (ri a d e g i)] [cB false]:=
 h.of
theorem qGO(h:Oo [.r 122 [.agg (gr A b c)] [cB r],.n r false,.r 173 [.agg (ri a d e g i)] [cB s],.n s false,.r 200 [.agg (gr A b c),cI a] [cB q],.n q false,.p (0≤a),.p (a<(A.length:Int)),.e A a.toNat (nd f j k C),.r 241 [.agg [I d,I e]] [.agg [I l,I m],cB t],.b (f==7) false]):
 Rt 219 [.agg (gr A b c),.agg (ri a d e g i)] [cB false]:=
 h.of
end Go.Proofs.YtdanpadojemjeaaGreat
