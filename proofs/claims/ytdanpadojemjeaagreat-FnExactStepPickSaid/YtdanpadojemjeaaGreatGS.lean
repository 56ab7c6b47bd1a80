import Derived.Test.YtdanpadojemjeaaGreatRows
import Derived.Test.YtdanpadojemjeaaGreatGE
namespace Go.Proofs.YtdanpadojemjeaaGreat
open Go.Sx Go.RowKit
variable {a b c d e f g i j k l m n o : Int} {A C E F G : LL} {q r s t u v w : Bool}
theorem qG4(h:Oo [.r 222 [.agg (gr A a b),cI c] [.agg (nd i m j C),cB q],.r 238 [.agg [I d,I e]] [.agg [I k,I l],cB r],.b q true,.r 163 [.agg (gr A a b)] [cB s],.b s true,.r 164 [.agg (ri c d e f g)] [cB t],.b t true,.b (i==7) true,.b (decide ((C.length:Int)>0)) true]):
 Rt 211 [.agg (gr A a b),.agg (ri c d e f g)] [.one (B !r)]:=
 h.of
theorem qG5(h:Oo [.r 222 [.agg (gr A a b),cI c] [.agg (nd i m j C),cB q],.r 238 [.agg [I d,I e]] [.agg [I k,I l],cB t],.b q true,.r 163 [.agg (gr A a b)] [cB r],.b r true,.r 164 [.agg (ri c d e f g)] [cB s],.b s true,.b (i==7) true,.b (decide ((C.length:Int)>0)) false]):
 Rt 211 [.agg (gr A a b),.agg (ri c d e f g)] [cB false]:=
 h.of
theorem qG6(h:Oo [.r 222 [.agg (gr A a b),cI c] [.agg (nd i m j C),cB q],.r 238 [.agg [I d,I e]] [.agg [I k,I l],cB t],.b q true,.r 163 [.agg (gr A a b)] [cB r],.b r true,.r 164 [.agg (ri c d e f g)] [cB s],.b s true,.b (i==7) false]):
 Rt 211 [.agg (gr A a b),.agg (ri c d e f g)] [cB false]:=
 h.of
theorem qG7(h:Oo [.r 222 [.agg (gr A a b),cI c] [.agg (nd l m i C),cB q],.r 238 [.agg [I d,I e]] [.agg [I j,I k],cB t],.b q true,.r 163 [.agg (gr A a b)] [cB r],.b r true,.r 164 [.agg (ri c d e f g)] [cB s],.b s false]):
 Rt 211 [.agg (gr A a b),.agg (ri c d e f g)] [cB false]:=
 h.of
theorem qG8(h:Oo [.r 222 [.agg (gr A a b),cI c] [.agg (nd l m f C),cB q],.r 238 [.agg [I d,I e]] [.agg [I g,I i],cB s],.b q true,.r 163 [.agg (gr A a b)] [cB r],.b r false]):
 Rt 211 [.agg (gr A a b),.agg (ri c d e j k)] [cB false]:=
 h.of
theorem qG9(h:Oo [.r 222 [.agg (gr A a b),cI c] [.agg (nd l m f C),cB q],.r 238 [.agg [I d,I e]] [.agg [I g,I i],cB r],.b q false]):
 Rt 211 [.agg (gr A a b),.agg (ri c d e j k)] [cB false]:=
 h.of
theorem qHa(h:Oo [.g ([]:LL) A 32,.h A,.r 222 [.agg (gr C a b),cI c] [.agg (nd k d e E),cB q],.n q true]):
 Rt 210 [.agg (gr C a b),cS 4 A,.agg (ri c f g i j)] [cS 4 ([]++A),cS 5 [],cB false]:=
 h.of
theorem qHb(h:Oo [.g ([]:LL) A 32,.h A,.r 222 [.agg (gr C a b),cI c] [.agg (nd k d e E),cB q],.n q false,.r 163 [.agg (gr C a b)] [cB r],.n r true]):
 Rt 210 [.agg (gr C a b),cS 4 A,.agg (ri c f g i j)] [cS 4 ([]++A),cS 5 [],cB false]:=
 h.of
theorem qHc(h:Oo [.g ([]:LL) A 32,.h A,.r 222 [.agg (gr C a b),cI c] [.agg (nd k i j E),cB q],.n q false,.r 163 [.agg (gr C a b)] [cB r],.n r false,.r 164 [.agg (ri c d e f g)] [cB s],.n s true]):
 Rt 210 [.agg (gr C a b),cS 4 A,.agg (ri c d e f g)] [cS 4 ([]++A),cS 5 [],cB false]:=
 h.of
theorem qHd(h:Oo [.g ([]:LL) A 32,.h A,.r 222 [.agg (gr C a b),cI c] [.agg (nd f g i E),cB q],.n q false,.r 163 [.agg (gr C a b)] [cB r],.n r false,.r 164 [.agg (ri c j k d e)] [cB s],.n s false,.r 235 [.agg (nd f g i E),cI d,cI e] [cI l,cI m,cB t],.n t true,.b (f != 8) true]):
 Rt 210 [.agg (gr C a b),cS 4 A,.agg (ri c j k d e)] [cS 4 ([]++A),cS 5 [],cB true]:=
 h.of
theorem qHe(h:Oo [.g ([]:LL) A 32,.h A,.r 222 [.agg (gr C e f),cI b] [.agg (nd a i j E),cB q],.n q false,.r 163 [.agg (gr C e f)] [cB r],.n r false,.r 164 [.agg (ri b g k c d)] [cB s],.n s false,.r 235 [.agg (nd a i j E),cI c,cI d] [cI l,cI m,cB t],.n t true,.b (a != 8) false,.r 236 [cI a] [cB u],.b u true,.r 237 [cI a,cS 4 A,.agg [I b,I g,I c,I d]] [cS 4 F,cB v],.n v true]):
 Rt 210 [.agg (gr C e f),cS 4 A,.agg (ri b g k c d)] [cS 4 F,cS 5 [],cB true]:=
 h.of
theorem qHf(h:Oo [.g ([]:LL) A 32,.h A,.r 222 [.agg (gr C f g),cI b] [.agg (nd a j k E),cB q],.n q false,.r 163 [.agg (gr C f g)] [cB r],.n r false,.r 164 [.agg (ri b c i d e)] [cB s],.n s false,.r 235 [.agg (nd a j k E),cI d,cI e] [cI l,cI m,cB t],.n t true,.b (a != 8) false,.r 236 [cI a] [cB u],.b u true,.r 237 [cI a,cS 4 A,.agg [I b,I c,I d,I e]] [cS 4 F,cB v],.n v false,.b (a==7) true,.r 238 [.agg [I c,I i]] [.agg [I n,I o],cB w],.n w true]):
 Rt 210 [.agg (gr C f g),cS 4 A,.agg (ri b c i d e)] [cS 4 F,cS 5 [],cB true]:=
 h.of
def qeU(a b c:Int)(C:LL)(d e:Int)(E:LL)(f g i:Int)(A:LL):St:=
 { env:=envOf 127 [(9,PV.al (AL.one (lO 840000 4 E))),(10,PV.al (AL.one (lO 25 5 A))),(11,vP 11),(13,vI d),(14,vI e),(18,vP 18),(21,vI i)],boxes:=[(18,[lI f,lI g]),(11,[lI a,lI b,lI c,lO 310003 1 C])] }
theorem qHg(h:Oo [.b (decide (a<(A.length:Int))) true,.p (0≤a),.p (a<(A.length:Int)),.e A a.toNat [I f],.g C [(ri f d e b c)] 40,.h [(ri f d e b c)],.u a]):
 Tp (qaa Tryz.f210 0) (qeU j g i A b c E d e a C) .normal (qeU j g i A b c E d e (a+1) (C++[(ri f d e b c)])):=
 h.lp [21,11,10,18,13,14,9] [18,11]
def qdV(A C:LL):St:=
 { env:=envOf 127 [(9,PV.al (AL.one (lO 840000 4 A))),(10,PV.al (AL.one (lO 25 5 C)))],boxes:=[] }
theorem qHh(h:Oo [.b (decide (a<(A.length:Int))) false]):
 Tp (qaa Tryz.f210 0) (qeU i b c A d e C f g a E) (.exit 0) (qdV C E):=
 h.lp [9,10] []
theorem qHi(h:Oo [.g ([]:LL) C 32,.h C,.r 222 [.agg (gr E f j),cI b] [.agg (nd a g i F),cB q],.n q false,.r 163 [.agg (gr E f j)] [cB r],.n r false,.r 164 [.agg (ri b c k d e)] [cB s],.n s false,.r 235 [.agg (nd a g i F),cI d,cI e] [cI l,cI m,cB t],.n t true,.b (a != 8) false,.r 236 [cI a] [cB u],.b u true,.r 237 [cI a,cS 4 C,.agg [I b,I c,I d,I e]] [cS 4 A,cB v],.n v false,.b (a==7) true,.r 238 [.agg [I c,I k]] [.agg [I n,I o],cB w],.n w false,.l [] [21,11,10,18,13,14,9] [18,11] (qaa Tryz.f210 0) (qeU a g i F l m A n o 0 []) (.exit 0) (qdV A G)]):
 Rt 210 [.agg (gr E f j),cS 4 C,.agg (ri b c k d e)] [cS 4 A,cS 5 G,cB true]:=
 h.of
def qeV(a b c d e:Int)(C:LL)(f g:Int)(E:LL)(i:Int)(A:LL):St:=
 { env:=envOf 127 [(9,PV.al (AL.one (lO 840000 4 E))),(10,PV.al (AL.one (lO 25 5 A))),(11,vP 11),(13,vI f),(14,vI g),(18,vP 18),(21,vI i)],boxes:=[(18,[lI a,lI b]),(11,[lI c,lI d,lI e,lO 310003 1 C])] }
theorem qHj(h:Oo [.b (decide (a<(A.length:Int))) true,.p (0≤a),.p (a<(A.length:Int)),.e A a.toNat [I f],.g C [(ri f d e b c)] 40,.h [(ri f d e b c)],.u a]):
 Tp (qaa Tryz.f210 0) (qeV d e j g i A b c E a C) .normal (qeV d e j g i A b c E (a+1) (C++[(ri f d e b c)])):=
 h.lp [21,11,10,18,13,14,9] [18,11]
theorem qHk(h:Oo [.b (decide (a<(A.length:Int))) false]):
 Tp (qaa Tryz.f210 0) (qeV f g i b c A d e C a E) (.exit 0) (qdV C E):=
 h.lp [9,10] []
theorem qHl(h:Oo [.g ([]:LL) C 32,.h C,.r 222 [.agg (gr E f j),cI b] [.agg (nd a g i F),cB q],.n q false,.r 163 [.agg (gr E f j)] [cB r],.n r false,.r 164 [.agg (ri b c k d e)] [cB s],.n s false,.r 235 [.agg (nd a g i F),cI d,cI e] [cI l,cI m,cB t],.n t true,.b (a != 8) false,.r 236 [cI a] [cB u],.b u true,.r 237 [cI a,cS 4 C,.agg [I b,I c,I d,I e]] [cS 4 A,cB v],.n v false,.b (a==7) false,.l [] [21,11,10,18,13,14,9] [18,11] (qaa Tryz.f210 0) (qeV c k a g i F l m A 0 []) (.exit 0) (qdV A G)]):
 Rt 210 [.agg (gr E f j),cS 4 C,.agg (ri b c k d e)] [cS 4 A,cS 5 G,cB true]:=
 h.of
theorem qHm(h:Oo [.g ([]:LL) A 32,.h A,.r 222 [.agg (gr C b c),cI d] [.agg (nd a j k E),cB q],.n q false,.r 163 [.agg (gr C b c)] [cB r],.n r false,.r 164 [.agg (ri d e f g i)] [cB s],.n s false,.r 235 [.agg (nd a j k E),cI g,cI i] [cI l,cI m,cB t],.n t true,.b (a != 8) false,.r 236 [cI a] [cB u],.b u false,.b (a==7) true,.r 238 [.agg [I e,I f]] [.agg [I n,I o],cB v],.n v true]):
 Rt 210 [.agg (gr C b c),cS 4 A,.agg (ri d e f g i)] [cS 4 ([]++A),cS 5 [],cB true]:=
 h.of
def qeW(A:LL)(a b c:Int)(E:LL)(d e f g i:Int)(C:LL):St:=
 { env:=envOf 127 [(9,PV.al (AL.one (lO 22 4 ([]++A)))),(10,PV.al (AL.one (lO 25 5 C))),(11,vP 11),(13,vI d),(14,vI e),(18,vP 18),(21,vI i)],boxes:=[(18,[lI f,lI g]),(11,[lI a,lI b,lI c,lO 310003 1 E])] }
theorem qHn(h:Oo [.b (decide (a<(A.length:Int))) true,.p (0≤a),.p (a<(A.length:Int)),.e A a.toNat [I f],.g C [(ri f d e b c)] 40,.h [(ri f d e b c)],.u a]):
 Tp (qaa Tryz.f210 0) (qeW E j g i A b c d e a C) .normal (qeW E j g i A b c d e (a+1) (C++[(ri f d e b c)])):=
 h.lp [21,11,10,18,13,14,9] [18,11]
def qdW(A C:LL):St:=
 { env:=envOf 127 [(9,PV.al (AL.one (lO 22 4 ([]++A)))),(10,PV.al (AL.one (lO 25 5 C)))],boxes:=[] }
theorem qHo(h:Oo [.b (decide (a<(A.length:Int))) false]):
 Tp (qaa Tryz.f210 0) (qeW E i b c A d e f g a C) (.exit 0) (qdW E C):=
 h.lp [9,10] []
theorem qHp(h:Oo [.g ([]:LL) A 32,.h A,.r 222 [.agg (gr C b e),cI f] [.agg (nd a c d E),cB q],.n q false,.r 163 [.agg (gr C b e)] [cB r],.n r false,.r 164 [.agg (ri f g i j k)] [cB s],.n s false,.r 235 [.agg (nd a c d E),cI j,cI k] [cI l,cI m,cB t],.n t true,.b (a != 8) false,.r 236 [cI a] [cB u],.b u false,.b (a==7) true,.r 238 [.agg [I g,I i]] [.agg [I n,I o],cB v],.n v false,.l [] [21,11,10,18,13,14,9] [18,11] (qaa Tryz.f210 0) (qeW A a c d E l m n o 0 []) (.exit 0) (qdW A F)]):
 Rt 210 [.agg (gr C b e),cS 4 A,.agg (ri f g i j k)] [cS 4 ([]++A),cS 5 F,cB true]:=
 h.of
def qeX(A:LL)(a b c d e:Int)(E:LL)(f g i:Int)(C:LL):St:=
 { env:=envOf 127 [(9,PV.al (AL.one (lO 22 4 ([]++A)))),(10,PV.al (AL.one (lO 25 5 C))),(11,vP 11),(13,vI f),(14,vI g),(18,vP 18),(21,vI i)],boxes:=[(18,[lI a,lI b]),(11,[lI c,lI d,lI e,lO 310003 1 E])] }
theorem qHq(h:Oo [.b (decide (a<(A.length:Int))) true,.p (0≤a),.p (a<(A.length:Int)),.e A a.toNat [I f],.g C [(ri f d e b c)] 40,.h [(ri f d e b c)],.u a]):
 Tp (qaa Tryz.f210 0) (qeX E d e j g i A b c a C) .normal (qeX E d e j g i A b c (a+1) (C++[(ri f d e b c)])):=
 h.lp [21,11,10,18,13,14,9] [18,11]
theorem qHr(h:Oo [.b (decide (a<(A.length:Int))) false]):
 Tp (qaa Tryz.f210 0) (qeX E f g i b c A d e a C) (.exit 0) (qdW E C):=
 h.lp [9,10] []
theorem qHs(h:Oo [.g ([]:LL) A 32,.h A,.r 222 [.agg (gr C b e),cI f] [.agg (nd a c d E),cB q],.n q false,.r 163 [.agg (gr C b e)] [cB r],.n r false,.r 164 [.agg (ri f g i j k)] [cB s],.n s false,.r 235 [.agg (nd a c d E),cI j,cI k] [cI l,cI m,cB t],.n t true,.b (a != 8) false,.r 236 [cI a] [cB u],.b u false,.b (a==7) false,.l [] [21,11,10,18,13,14,9] [18,11] (qaa Tryz.f210 0) (qeX A g i a c d E l m 0 []) (.exit 0) (qdW A F)]):
 Rt 210 [.agg (gr C b e),cS 4 A,.agg (ri f g i j k)] [cS 4 ([]++A),cS 5 F,cB true]:=
 h.of
theorem qHt(h:Oo [.g ([]:LL) A 32,.h A,.r 222 [.agg (gr C e f),cI a] [.agg (nd d i j E),cB q],.n q false,.r 163 [.agg (gr C e f)] [cB r],.n r false,.r 164 [.agg (ri a g k b c)] [cB s],.n s false,.r 235 [.agg (nd d i j E),cI b,cI c] [cI l,cI m,cB t],.n t false,.r 236 [cI d] [cB u],.b u true,.r 237 [cI d,cS 4 A,.agg [I a,I g,I b,I c]] [cS 4 F,cB v],.n v true]):
 Rt 210 [.agg (gr C e f),cS 4 A,.agg (ri a g k b c)] [cS 4 F,cS 5 [],cB true]:=
 h.of
theorem qHu(h:Oo [.g ([]:LL) A 32,.h A,.r 222 [.agg (gr C f g),cI b] [.agg (nd a j k E),cB q],.n q false,.r 163 [.agg (gr C f g)] [cB r],.n r false,.r 164 [.agg (ri b c i d e)] [cB s],.n s false,.r 235 [.agg (nd a j k E),cI d,cI e] [cI l,cI m,cB t],.n t false,.r 236 [cI a] [cB u],.b u true,.r 237 [cI a,cS 4 A,.agg [I b,I c,I d,I e]] [cS 4 F,cB v],.n v false,.b (a==7) true,.r 238 [.agg [I c,I i]] [.agg [I n,I o],cB w],.n w true]):
 Rt 210 [.agg (gr C f g),cS 4 A,.agg (ri b c i d e)] [cS 4 F,cS 5 [],cB true]:=
 h.of
theorem qHv(h:Oo [.g ([]:LL) C 32,.h C,.r 222 [.agg (gr E f j),cI b] [.agg (nd a g i F),cB q],.n q false,.r 163 [.agg (gr E f j)] [cB r],.n r false,.r 164 [.agg (ri b c k d e)] [cB s],.n s false,.r 235 [.agg (nd a g i F),cI d,cI e] [cI l,cI m,cB t],.n t false,.r 236 [cI a] [cB u],.b u true,.r 237 [cI a,cS 4 C,.agg [I b,I c,I d,I e]] [cS 4 A,cB v],.n v false,.b (a==7) true,.r 238 [.agg [I c,I k]] [.agg [I n,I o],cB w],.n w false,.l [] [21,11,10,18,13,14,9] [18,11] (qaa Tryz.f210 0) (qeU a g i F l m A n o 0 []) (.exit 0) (qdV A G)]):
 Rt 210 [.agg (gr E f j),cS 4 C,.agg (ri b c k d e)] [cS 4 A,cS 5 G,cB true]:=
 h.of
theorem qHw(h:Oo [.g ([]:LL) C 32,.h C,.r 222 [.agg (gr E f j),cI b] [.agg (nd a g i F),cB q],.n q false,.r 163 [.agg (gr E f j)] [cB r],.n r false,.r 164 [.agg (ri b c k d e)] [cB s],.n s false,.r 235 [.agg (nd a g i F),cI d,cI e] [cI l,cI m,cB t],.n t false,.r 236 [cI a] [cB u],.b u true,.r 237 [cI a,cS 4 C,.agg [I b,I c,I d,I e]] [cS 4 A,cB v],.n v false,.b (a==7) false,.l [] [21,11,10,18,13,14,9] [18,11] (qaa Tryz.f210 0) (qeV c k a g i F l m A 0 []) (.exit 0) (qdV A G)]):
 Rt 210 [.agg (gr E f j),cS 4 C,.agg (ri b c k d e)] [cS 4 A,cS 5 G,cB true]:=
 h.of
theorem qHx(h:Oo [.g ([]:LL) A 32,.h A,.r 222 [.agg (gr C b c),cI d] [.agg (nd a j k E),cB q],.n q false,.r 163 [.agg (gr C b c)] [cB r],.n r false,.r 164 [.agg (ri d e f g i)] [cB s],.n s false,.r 235 [.agg (nd a j k E),cI g,cI i] [cI l,cI m,cB t],.n t false,.r 236 [cI a] [cB u],.b u false,.b (a==7) true,.r 238 [.agg [I e,I f]] [.agg [I n,I o],cB v],.n v true]):
 Rt 210 [.agg (gr C b c),cS 4 A,.agg (ri d e f g i)] [cS 4 ([]++A),cS 5 [],cB true]:=
 h.of
theorem qHy(h:Oo [.g ([]:LL) A 32,.h A,.r 222 [.agg (gr C b e),cI f] [.agg (nd a c d E),cB q],.n q false,.r 163 [.agg (gr C b e)] [cB r],.n r false,.r 164 [.agg (ri f g i j k)] [cB s],.n s false,.r 235 [.agg (nd a c d E),cI j,cI k] [cI l,cI m,cB t],.n t false,.r 236 [cI a] [cB u],.b u false,.b (a==7) true,.r 238 [.agg [I g,I i]] [.agg [I n,I o],cB v],.n v false,.l [] [21,11,10,18,13,14,9] [18,11] (qaa Tryz.f210 0) (qeW A a c d E l m n o 0 []) (.exit 0) (qdW A F)]):
 Rt 210 [.agg (gr C b e),cS 4 A,.agg (ri f g i j k)] [cS 4 ([]++A),cS 5 F,cB true]:=
 h.of
theorem qHz(h:Oo [.g ([]:LL) A 32,.h A,.r 222 [.agg (gr C b e),cI f] [.agg (nd a c d E),cB q],.n q false,.r 163 [.agg (gr C b e)] [cB r],.n r false,.r 164 [.agg (ri f g i j k)] [cB s],.n s false,.r 235 [.agg (nd a c d E),cI j,cI k] [cI l,cI m,cB t],.n t false,.r 236 [cI a] [cB u],.b u false,.b (a==7) false,.l [] [21,11,10,18,13,14,9] [18,11] (qaa Tryz.f210 0) (qeX A g i a c d E l m 0 []) (.exit 0) (qdW A F)]):
 Rt 210 [.agg (gr C b e),cS 4 A,.agg (ri f g i j k)] [cS 4 ([]++A),cS 5 F,cB true]:=
 h.of
theorem qo5(h:Oo [.r 122 [.agg (gr A a b)] [cB q],.n q true,.r 196 [cS 4 E] [cS 4 C]]):
 Rt 218 [.agg (gr A a b),cS 4 E,.agg (ri c d e f g)] [cS 4 C,cS 5 [],cB false]:=
 h.of
theorem qo6(h:Oo [.r 122 [.agg (gr A a b)] [cB r],.n r false,.r 173 [.agg (ri c d e f g)] [cB q],.n q true,.r 196 [cS 4 E] [cS 4 C]]):
 Rt 218 [.agg (gr A a b),cS 4 E,.agg (ri c d e f g)] [cS 4 C,cS 5 [],cB false]:=
 h.of
theorem qHA(h:Oo [.r 122 [.agg (gr A a b)] [cB s],.n s false,.r 173 [.agg (ri c d e f g)] [cB q],.n q false,.r 200 [.agg (gr A a b),cI c] [cB r],.n r true,.r 196 [cS 4 E] [cS 4 C]]):
 Rt 218 [.agg (gr A a b),cS 4 E,.agg (ri c d e f g)] [cS 4 C,cS 5 [],cB false]:=
 h.of
theorem qHB(h:Oo [.r 122 [.agg (gr A b d)] [cB t],.n t false,.r 173 [.agg (ri a j k e f)] [cB q],.n q false,.r 200 [.agg (gr A b d),cI a] [cB r],.n r false,.p (0≤a),.p (a<(A.length:Int)),.e A a.toNat (nd c g i C),.r 239 [.agg (nd c g i C),cI e,cI f] [cI l,cI m,cB s],.n s true,.b (c != 8) true,.r 196 [cS 4 F] [cS 4 E]]):
 Rt 218 [.agg (gr A b d),cS 4 F,.agg (ri a j k e f)] [cS 4 E,cS 5 [],cB true]:=
 h.of
theorem qHC(h:Oo [.r 122 [.agg (gr A e f)] [cB u],.n u false,.r 173 [.agg (ri a g k c d)] [cB q],.n q false,.r 200 [.agg (gr A e f),cI a] [cB r],.n r false,.p (0≤a),.p (a<(A.length:Int)),.e A a.toNat (nd b i j C),.r 239 [.agg (nd b i j C),cI c,cI d] [cI l,cI m,cB s],.n s true,.b (b != 8) false,.r 240 [cI b,cS 4 F,.agg [I a,I g,I c,I d]] [cS 4 E,cB t],.n t true]):
 Rt 218 [.agg (gr A e f),cS 4 F,.agg (ri a g k c d)] [cS 4 E,cS 5 [],cB true]:=
 h.of
def qdd(A:LL)(a b:Int)(C:LL)(c d:Int)(q:Bool)(e:Int)(E:LL):St:=
 { env:=envOf 111 [(10,vI a),(11,vI b),(13,PV.al (AL.one (lO 760000 4 C))),(14,vP 14),(15,.al (.one (.sb q))),(16,PV.al (AL.one (lO 107 5 E))),(93,vF 1 A),(94,vI (A.length:Int)),(95,vI e)],boxes:=[(14,[lI c,lI d])] }
theorem qHD(h:Oo [.b (decide (a<(A.length:Int))) true,.p (0≤a),.p (a<(A.length:Int)),.e A a.toNat [I f],.b q true,.g C [(ri f d e b c)] 40,.h [(ri f d e b c)],.u a]):
 Tp (qaa Tryz.f218 0) (qdd A b c E d e q a C) .normal (qdd A b c E d e q (a+1) (C++[(ri f d e b c)])):=
 h.lp [95,94,93,15,16,14,10,11,13] [14]
theorem qHE(h:Oo [.b (decide (a<(A.length:Int))) true,.p (0≤a),.p (a<(A.length:Int)),.e A a.toNat [I f],.b q false,.u a]):
 Tp (qaa Tryz.f218 0) (qdd A b c C d e q a E) .normal (qdd A b c C d e q (a+1) E):=
 h.lp [95,94,93,15,16,14,10,11,13] [14]
def qdX(A C:LL):St:=
 { env:=envOf 111 [(13,PV.al (AL.one (lO 760000 4 A))),(16,PV.al (AL.one (lO 107 5 C)))],boxes:=[] }
theorem qo7(h:Oo [.b (decide (a<(A.length:Int))) false]):
 Tp (qaa Tryz.f218 0) (qdd A b c C d e q a E) (.exit 0) (qdX C E):=
 h.lp [13,16] []
theorem qHF(h:Oo [.r 122 [.agg (gr A f g)] [cB v],.n v false,.r 173 [.agg (ri a c i d e)] [cB q],.n q false,.r 200 [.agg (gr A f g),cI a] [cB r],.n r false,.p (0≤a),.p (a<(A.length:Int)),.e A a.toNat (nd b j k E),.r 239 [.agg (nd b j k E),cI d,cI e] [cI l,cI m,cB s],.n s true,.b (b != 8) false,.r 240 [cI b,cS 4 G,.agg [I a,I c,I d,I e]] [cS 4 C,cB t],.n t false,.b (b==7) true,.r 241 [.agg [I c,I i]] [.agg [I n,I o],cB u],.l [(16,107,5)] [95,94,93,15,16,14,10,11,13] [14] (qaa Tryz.f218 0) (qdd E l m C n o u 0 []) (.exit 0) (qdX C F)]):
 Rt 218 [.agg (gr A f g),cS 4 G,.agg (ri a c i d e)] [cS 4 C,cS 5 F,cB true]:=
 h.of
def qeY(a b:Int)(A:LL)(c d:Int)(C:LL)(e:Int)(E:LL):St:=
 { env:=envOf 111 [(10,vI c),(11,vI d),(13,PV.al (AL.one (lO 760000 4 C))),(14,vP 14),(15,.al (.one (.sb true))),(16,PV.al (AL.one (lO 107 5 E))),(93,vF 1 A),(94,vI (A.length:Int)),(95,vI e)],boxes:=[(14,[lI a,lI b])] }
theorem qHG(h:Oo [.b (decide (a<(A.length:Int))) true,.p (0≤a),.p (a<(A.length:Int)),.e A a.toNat [I f],.b true true,.g C [(ri f d e b c)] 40,.h [(ri f d e b c)],.u a]):
 Tp (qaa Tryz.f218 0) (qeY d e A b c E a C) .normal (qeY d e A b c E (a+1) (C++[(ri f d e b c)])):=
 h.lp [95,94,93,15,16,14,10,11,13] [14]
theorem qHH(h:Oo [.b (decide (a<(A.length:Int))) false]):
 Tp (qaa Tryz.f218 0) (qeY d e A b c C a E) (.exit 0) (qdX C E):=
 h.lp [13,16] []
theorem qHI(h:Oo [.r 122 [.agg (gr A f g)] [cB u],.n u false,.r 173 [.agg (ri a c i d e)] [cB q],.n q false,.r 200 [.agg (gr A f g),cI a] [cB r],.n r false,.p (0≤a),.p (a<(A.length:Int)),.e A a.toNat (nd b j k E),.r 239 [.agg (nd b j k E),cI d,cI e] [cI l,cI m,cB s],.n s true,.b (b != 8) false,.r 240 [cI b,cS 4 G,.agg [I a,I c,I d,I e]] [cS 4 C,cB t],.n t false,.b (b==7) false,.l [(16,107,5)] [95,94,93,15,16,14,10,11,13] [14] (qaa Tryz.f218 0) (qeY c i E l m C 0 []) (.exit 0) (qdX C F)]):
 Rt 218 [.agg (gr A f g),cS 4 G,.agg (ri a c i d e)] [cS 4 C,cS 5 F,cB true]:=
 h.of
theorem qHJ(h:Oo [.r 122 [.agg (gr A d f)] [cB u],.n u false,.r 173 [.agg (ri a g k b c)] [cB q],.n q false,.r 200 [.agg (gr A d f),cI a] [cB r],.n r false,.p (0≤a),.p (a<(A.length:Int)),.e A a.toNat (nd e i j C),.r 239 [.agg (nd e i j C),cI b,cI c] [cI l,cI m,cB s],.n s false,.r 240 [cI e,cS 4 F,.agg [I a,I g,I b,I c]] [cS 4 E,cB t],.n t true]):
 Rt 218 [.agg (gr A d f),cS 4 F,.agg (ri a g k b c)] [cS 4 E,cS 5 [],cB true]:=
 h.of
theorem qHK(h:Oo [.r 122 [.agg (gr A f g)] [cB v],.n v false,.r 173 [.agg (ri a c i d e)] [cB q],.n q false,.r 200 [.agg (gr A f g),cI a] [cB r],.n r false,.p (0≤a),.p (a<(A.length:Int)),.e A a.toNat (nd b j k E),.r 239 [.agg (nd b j k E),cI d,cI e] [cI l,cI m,cB s],.n s false,.r 240 [cI b,cS 4 G,.agg [I a,I c,I d,I e]] [cS 4 C,cB t],.n t false,.b (b==7) true,.r 241 [.agg [I c,I i]] [.agg [I n,I o],cB u],.l [(16,107,5)] [95,94,93,15,16,14,10,11,13] [14] (qaa Tryz.f218 0) (qdd E l m C n o u 0 []) (.exit 0) (qdX C F)]):
 Rt 218 [.agg (gr A f g),cS 4 G,.agg (ri a c i d e)] [cS 4 C,cS 5 F,cB true]:=
 h.of
theorem qHL(h:Oo [.r 122 [.agg (gr A f g)] [cB u],.n u false,.r 173 [.agg (ri a c i d e)] [cB q],.n q false,.r 200 [.agg (gr A f g),cI a] [cB r],.n r false,.p (0≤a),.p (a<(A.length:Int)),.e A a.toNat (nd b j k E),.r 239 [.agg (nd b j k E),cI d,cI e] [cI l,cI m,cB s],.n s false,.r 240 [cI b,cS 4 G,.agg [I a,I c,I d,I e]] [cS 4 C,cB t],.n t false,.b (b==7) false,.l [(16,107,5)] [95,94,93,15,16,14,10,11,13] [14] (qaa Tryz.f218 0) (qeY c i E l m C 0 []) (.exit 0) (qdX C F)]):
 Rt 218 [.agg (gr A f g),cS 4 G,.agg (ri a c i d e)] [cS 4 C,cS 5 F,cB true]:=
 h.of
theorem qHM(h:Oo [.r 122 [.agg (gr A a b)] [cB q],.n q true]):
 Rt 219 [.agg (gr A a b),.agg (ri c d e f g)] [cB false]:=
 h.of
theorem qHN(h:Oo [.r 122 [.agg (gr A a b)] [cB q],.n q false,.r 173 [.agg (ri c d e f g)] [cB r],.n r true]):
 Rt 219 [.agg (gr A a b),.agg (ri c d e f g)] [cB false]:=
 h.of
theorem qHO(h:Oo [.r 122 [.agg (gr A a b)] [cB r],.n r false,.r 173 [.agg (ri c d e f g)] [cB s],.n s false,.r 200 [.agg (gr A a b),cI c] [cB q],.n q true]):
 Rt 219 [.agg (gr A a b),.agg (ri c d e f g)] [cB false]:=
 h.of
theorem qHP(h:Oo [.r 122 [.agg (gr A b c)] [cB s],.n s false,.r 173 [.agg (ri a d e g i)] [cB t],.n t false,.r 200 [.agg (gr A b c),cI a] [cB q],.n q false,.p (0≤a),.p (a<(A.length:Int)),.e A a.toNat (nd f j k C),.r 241 [.agg [I d,I e]] [.agg [I l,I m],cB r],.b (f==7) true,.b (decide ((C.length:Int)>0)) true]):
 Rt 219 [.agg (gr A b c),.agg (ri a d e g i)] [.one (B !r)]:=
 h.of
theorem qHQ(h:Oo [.r 122 [.agg (gr A b c)] [cB r],.n r false,.r 173 [.agg (ri a d e g i)] [cB s],.n s false,.r 200 [.agg (gr A b c),cI a] [cB q],.n q false,.p (0≤a),.p (a<(A.length:Int)),.e A a.toNat (nd f j k C),.r 241 [.agg [I d,I e]] [.agg [I l,I m],cB t],.b (f==7) true,.b (decide ((C.length:Int)>0)) false]):
 Rt 219 [.agg (gr A b c),.agg (ri a d e g i)] [cB false]:=
 h.of
theorem qHR(h:Oo [.r 122 [.agg (gr A b c)] [cB r],.n r false,.r 173 [.agg (ri a d e g i)] [cB s],.n s false,.r 200 [.agg (gr A b c),cI a] [cB q],.n q false,.p (0≤a),.p (a<(A.length:Int)),.e A a.toNat (nd f j k C),.r 241 [.agg [I d,I e]] [.agg [I l,I m],cB t],.b (f==7) false]):
 Rt 219 [.agg (gr A b c),.agg (ri a d e g i)] [cB false]:=
 h.of
end Go.Proofs.YtdanpadojemjeaaGreat
