import Derived.Test.YtdchjefneblpgaaGreatGE
set_option linter.unusedVariables false
set_option linter.unusedSimpArgs false
namespace Go.Proofs.YtdchjefneblpgaaGreat
open Go.Sx Go.RowKit Go.Proofs.Tryz
variable {a b c d e f g i j k l m n o p a0 bX cO d0 bu f0 : Int} {A C E F G H af K L M N Q R S bb V X Y Z c7 dZ ei : ae} {q r : Bool}
def xr(A:ae)(a b c d e f:Int):aJ:=bj 19 [(0,dO 5 A),(3,aR 3),(7,a6 (A.length:Int)),(8,a6 f)] [(3,[au a,au b,au c,au d,au e])]
def MP(a:Int):aJ:=bj 19 [(4,a6 a)] []
theorem axk(h:ad [.i A a (aS j k l c d),.b (b==j&&(e==k&&f==l&&(g==c&&i==d))) true]):
 a7 (ar f234 0) (xr A b e f g i a) .ret (MP a):=
 h.aY [4] []
theorem axl(h:ad [.i A a (aS j k l g i),.b (b==j&&(c==k&&d==l&&(e==g&&f==i))) false,.u a]):
 a7 (ar f234 0) (xr A b c d e f a) .normal (xr A b c d e f (a+1)):=
 h.aY [8,7,3,0] [3]
def T4:aJ:=bj 19 [] []
theorem axm(h:ad [.f A a false]):
 a7 (ar f234 0) (xr A b c d e f a) (.exit 0) T4:=
 h.aY [] []
theorem axn(h:ad [.l [] [8,7,3,0] [3] (ar f234 0) (xr A a b c d e 0) .ret (MP f)]):
 al 234 [aC 5 A,.agg (aS a b c d e)] [ag f]:=
 h.of
theorem awy(h:ad [.l [] [8,7,3,0] [3] (ar f234 0) (xr A a b c d e 0) (.exit 0) T4]):
 al 234 [aC 5 A,.agg (aS a b c d e)] [ag (-1)]:=
 h.of
def xt(A:ae)(a b c d e f:Int):aJ:=bj 31 [(0,dO 5 A),(3,aR 3),(5,a6 f)] [(3,[au a,au b,au c,au d,au e])]
def Fm(A:ae):aJ:=bj 31 [(4,aL.aI (bn.one (aB 18 5 A)))] []
theorem awz(h:ad [.i A a (aS j k l c d),.b (j==b&&(k==e&&l==f&&(c==g&&d==i))) true,.p ((0:Int)<=none.getD 0),.p (none.getD 0<=(some a).getD (A.length:Int)),.p ((some a).getD (A.length:Int)<=(A.length:Int)),.p ((([]:ae).length+(List.take (((some a).getD (A.length:Int)).toNat-0) (List.drop 0 A)).length)*40<=140737488355328),.p (([]:ae).length+(List.take (((some a).getD (A.length:Int)).toNat-0) (List.drop 0 A)).length<=9223372036854775807),.p (Flat (List.take (((some a).getD (A.length:Int)).toNat-0) (List.drop 0 A))),.u a,.p (0<=(some (a+1)).getD 0),.p ((some (a+1)).getD 0<=none.getD (A.length:Int)),.p (none.getD (A.length:Int)<=(A.length:Int)),.p ((([]++List.take (((some a).getD (A.length:Int)).toNat-0) (List.drop 0 A)).length+(List.take (A.length-((some (a+1)).getD 0).toNat) (List.drop ((some (a+1)).getD 0).toNat A)).length)*40<=140737488355328),.p (([]++List.take (((some a).getD (A.length:Int)).toNat-0) (List.drop 0 A)).length+(List.take (A.length-((some (a+1)).getD 0).toNat) (List.drop ((some (a+1)).getD 0).toNat A)).length<=9223372036854775807),.p (Flat (List.take (A.length-((some (a+1)).getD 0).toNat) (List.drop ((some (a+1)).getD 0).toNat A)))]):
 a7 (ar f100 0) (xt A b e f g i a) .ret (Fm ([]++List.take (((some a).getD (A.length:Int)).toNat-0) (List.drop 0 A)++List.take (A.length-((some (a+1)).getD 0).toNat) (List.drop ((some (a+1)).getD 0).toNat A))):=
 h.aY [4] []
theorem awA(h:ad [.i A a (aS j k l g i),.b (j==b&&(k==c&&l==d&&(g==e&&i==f))) false,.u a]):
 a7 (ar f100 0) (xt A b c d e f a) .normal (xt A b c d e f (a+1)):=
 h.aY [5,0,3] [3]
def T5(A:ae):aJ:=bj 31 [(0,dO 5 A)] []
theorem awB(h:ad [.f A a false]):
 a7 (ar f100 0) (xt A b c d e f a) (.exit 0) (T5 A):=
 h.aY [0] []
theorem awC(h:ad [.l [] [5,0,3] [3] (ar f100 0) (xt A a b c d e 0) .ret (Fm C)]):
 al 100 [aC 5 A,.agg (aS a b c d e)] [aC 5 C]:=
 h.of
theorem awD(h:ad [.l [] [5,0,3] [3] (ar f100 0) (xt A a b c d e 0) (.exit 0) (T5 A),.g ([]:ae) A 40,.h A]):
 al 100 [aC 5 A,.agg (aS a b c d e)] [aC 5 ([]++A)]:=
 h.of
theorem awE(h:ad [.r 233 [aC 5 A] [aC 5 E],.r 234 [aC 5 A,.agg (aS b c d e f)] [ag a],.b (decide (a>=0)) true,.a (.pF [[some none],[none],[none]] 0 [] [aC 5 C]),.u a,.p (jo prog 235 [GA.one (eB.eO 5 E none),GA.one (eB.ro (I a)),GA.one (eB.ro (I (a+1)))] [aC 5 C])]):
 al 99 [aC 5 A,.agg (aS b c d e f)] [aC 5 C]:=
 h.of
theorem awF(h:ad [.r 233 [aC 5 A] [aC 5 C],.r 234 [aC 5 A,.agg (aS a b c d e)] [ag f],.b (decide (f>=0)) false]):
 al 99 [aC 5 A,.agg (aS a b c d e)] [aC 5 C]:=
 h.of
theorem awG(h:ad [.g ([]:ae) A 40,.h A]):
 al 233 [aC 5 A] [aC 5 ([]++A)]:=
 h.of
def Zd(A:ae)(l:List O):List O:=.v ((A.length:Int)-1)::l
def vY(A:ae)(a:Int)(q:Bool)(l:List O):List O:=Zd A (.r 168 [ag a,ag 0,ag ((A.length:Int)-1)] [ai q]::l)
theorem awH(h:ad (vY A a q [.n q true])):
 al 93 [.agg (cl C b c A E F G),.agg [I d,I a,I e]] [.agg (aS 0 0 0 0 0),ai false]:=
 h.of
theorem awI(h:ad (vY C a q [.n q false,.x C a (aW F G A H af K L M),.b (g==2) true,.b (decide ((A.length:Int)>0)) true,.p ((0:Int)<=0),.p (0<(A.length:Int)),.e A 0 (aS b c d e f)])):
 al 93 [.agg (cl E i j C N Q R),.agg [I g,I a,I k]] [.agg (aS b c d e f),ai true]:=
 h.of
theorem awJ(h:ad (vY A b q [.n q false,.x A b (aW F G C H af K L M),.b (a==2) true,.b (decide ((C.length:Int)>0)) false,.b (a==1) false])):
 al 93 [.agg (cl E c d A N Q R),.agg [I a,I b,I e]] [.agg (aS 0 0 0 0 0),ai false]:=
 h.of
theorem awK(h:ad (vY C b q [.n q false,.x C b (aW A F G H af K L M),.b (a==2) false,.b (a==1) true,.b (decide ((A.length:Int)>0)) true,.p ((0:Int)<=0),.p (0<(A.length:Int)),.e A 0 (aS c d e f g)])):
 al 93 [.agg (cl E i j C N Q R),.agg [I a,I b,I k]] [.agg (aS c d e f g),ai true]:=
 h.of
theorem awL(h:ad (vY A b q [.n q false,.x A b (aW C F G H af K L M),.b (a==2) false,.b (a==1) true,.b (decide ((C.length:Int)>0)) false])):
 al 93 [.agg (cl E c d A N Q R),.agg [I a,I b,I e]] [.agg (aS 0 0 0 0 0),ai false]:=
 h.of
theorem awM(h:ad (vY A b q [.n q false,.x A b (aW E F G H af K L M),.b (a==2) false,.b (a==1) false])):
 al 93 [.agg (cl C c d A N Q R),.agg [I a,I b,I e]] [.agg (aS 0 0 0 0 0),ai false]:=
 h.of
def x8(A:ae)(a:Int)(q:Bool)(l:List O):List O:=Zd A (.r 190 [ag a,ag 0,ag ((A.length:Int)-1)] [ai q]::l)
theorem awN(h:ad (x8 A a q [.n q true])):
 al 92 [.agg (cl C b c A E F G),.agg [I d,I a,I e]] [.agg (aS 0 0 0 0 0),ai false]:=
 h.of
theorem awO(h:ad (x8 A a q [.n q false,.b (b==2) true,.x A a (aW F G C H af K L M),.b ((C.length:Int)==0) true])):
 al 92 [.agg (cl E c d A N Q R),.agg [I b,I a,I e]] [.agg (aS 0 0 0 0 0),ai false]:=
 h.of
theorem awP(h:ad (x8 C a q [.n q false,.b (g==2) true,.x C a (aW F G A H af K L M),.b ((A.length:Int)==0) false,.p ((0:Int)<=0),.p (0<(A.length:Int)),.e A 0 (aS b c d e f)])):
 al 92 [.agg (cl E i j C N Q R),.agg [I g,I a,I k]] [.agg (aS b c d e f),ai true]:=
 h.of
theorem awQ(h:ad (x8 A b q [.n q false,.b (a==2) false,.b (a==1) true,.x A b (aW C F G H af K L M),.b ((C.length:Int)==0) true])):
 al 92 [.agg (cl E c d A N Q R),.agg [I a,I b,I e]] [.agg (aS 0 0 0 0 0),ai false]:=
 h.of
theorem awR(h:ad (x8 C b q [.n q false,.b (a==2) false,.b (a==1) true,.x C b (aW A F G H af K L M),.b ((A.length:Int)==0) false,.p ((0:Int)<=0),.p (0<(A.length:Int)),.e A 0 (aS c d e f g)])):
 al 92 [.agg (cl E i j C N Q R),.agg [I a,I b,I k]] [.agg (aS c d e f g),ai true]:=
 h.of
theorem awS(h:ad (x8 A b q [.n q false,.b (a==2) false,.b (a==1) false,.b true true])):
 al 92 [.agg (cl C c d A E F G),.agg [I a,I b,I e]] [.agg (aS 0 0 0 0 0),ai false]:=
 h.of
def Ae(a b:Int)(l:List O):List O:=.b (decide (a<b)) true::l
theorem awT(h:ad (Ae b a [])):
 al 130 [ag c,ag a,ag b] [ag a]:=
 h.of
def vX(a b:Int)(l:List O):List O:=.b (decide (a<b)) false::l
theorem awU(h:ad (vX c a [.b (decide (b<a)) true])):
 al 130 [ag b,ag a,ag c] [ag a]:=
 h.of
theorem awV(h:ad (vX a c [.b (decide (b<c)) false,.b (decide (b>a)) true])):
 al 130 [ag b,ag c,ag a] [ag a]:=
 h.of
theorem awW(h:ad (vX c b [.b (decide (a<b)) false,.b (decide (a>c)) false])):
 al 130 [ag a,ag b,ag c] [ag a]:=
 h.of
def BJ(a b:Int)(A:ae):aJ:=bj 62 [(3,aL.aI (bn.one (aB 9 3 A))),(4,a6 a),(5,a6 b)] []
theorem awX(h:ad (Ae a b [.g A [[I 1,I a,I 0],[I 3,I a,I 0],[I 2,I a,I 0],[I 7,I a,I 0]] 24,.h [[I 1,I a,I 0],[I 3,I a,I 0],[I 2,I a,I 0],[I 7,I a,I 0]],.u a])):
 a7 (ar f129 0) (BJ b a A) .normal (BJ b (a+1) (A++[[I 1,I a,I 0],[I 3,I a,I 0],[I 2,I a,I 0],[I 7,I a,I 0]])):=
 h.aY [5,4,3] []
def T6(a:Int)(A:ae):aJ:=bj 62 [(3,aL.aI (bn.one (aB 9 3 A))),(4,a6 a)] []
theorem awo(h:ad (vX b a [])):
 a7 (ar f129 0) (BJ a b A) (.exit 0) (T6 a A):=
 h.aY [4,3] []
def BK(a b:Int)(A:ae):aJ:=bj 62 [(3,aL.aI (bn.one (aB 9 3 A))),(4,a6 a),(6,a6 b)] []
def xu(a b c:Int)(A:ae):aJ:=bj 62 [(3,aL.aI (bn.one (aB 9 3 A))),(4,a6 a),(6,a6 b),(7,a6 c)] []
theorem awp(h:ad (Ae a c [.b (b != a) true,.g A [[I 4,I b,I a],[I 5,I b,I a]] 24,.h [[I 4,I b,I a],[I 5,I b,I a]],.u a])):
 a7 (ar f129 2) (xu c b a A) .normal (xu c b (a+1) (A++[[I 4,I b,I a],[I 5,I b,I a]])):=
 h.aY [7,4,6,3] []
theorem awq(h:ad (Ae a b [.b (c != a) false,.u a])):
 a7 (ar f129 2) (xu b c a A) .normal (xu b c (a+1) A):=
 h.aY [7,4,6,3] []
def T7(a b:Int)(A:ae):aJ:=bj 62 [(3,aL.aI (bn.one (aB 9 3 A))),(4,a6 a),(6,a6 b)] []
theorem awr(h:ad (vX b a [])):
 a7 (ar f129 2) (xu a c b A) (.exit 4) (T7 a c A):=
 h.aY [6,4,3] []
theorem aws(h:ad (Ae a b [.l [] [7,4,6,3] [] (ar f129 2) (xu b a 0 A) (.exit 4) (T7 b a C),.u a])):
 a7 (ar f129 1) (BK b a A) .normal (BK b (a+1) C):=
 h.aY [6,4,3] []
def T8(A:ae):aJ:=bj 62 [(3,aL.aI (bn.one (aB 9 3 A)))] []
theorem awt(h:ad (vX b a [])):
 a7 (ar f129 1) (BK a b A) (.exit 2) (T8 A):=
 h.aY [3] []
def BL(a:Int)(A:ae):aJ:=bj 62 [(3,aL.aI (bn.one (aB 9 3 A))),(8,a6 a)] []
theorem awu(h:ad [.b (decide (a<=3)) true,.g A [[I 6,I a,I 0]] 24,.h [[I 6,I a,I 0]],.u a]):
 a7 (ar f129 3) (BL a A) .normal (BL (a+1) (A++[[I 6,I a,I 0]])):=
 h.aY [8,3] []
def T9(A:ae):aJ:=bj 62 [(3,aL.aI (bn.one (aB 9 3 A)))] []
theorem awv(h:ad [.b (decide (a<=3)) false]):
 a7 (ar f129 3) (BL a A) (.exit 6) (T9 A):=
 h.aY [3] []
theorem aww(h:ad [.r 130 [ag b,ag 0,ag 4] [ag a],.l [] [5,4,3] [] (ar f129 0) (BJ a 0 []) (.exit 0) (T6 a C),.l [] [6,4,3] [] (ar f129 1) (BK a 0 C) (.exit 2) (T8 E),.l [] [8,3] [] (ar f129 3) (BL 0 E) (.exit 6) (T9 A)]):
 al 129 [.agg (cl F b c G H af K)] [aC 3 A]:=
 h.of
theorem awx(h:ad [.b (decide (a>=b)) true]):
 al 190 [ag a,ag b,ag c] [ai (decide (a<=c))]:=
 h.of
theorem axY(h:ad [.b (decide (a>=b)) false]):
 al 190 [ag a,ag b,ag c] [ai false]:=
 h.of
theorem axZ(h:ad [.b (decide (a>=b)) true]):
 al 168 [ag a,ag b,ag c] [ai (decide (a<=c))]:=
 h.of
theorem ax0(h:ad [.b (decide (a>=b)) false]):
 al 168 [ag a,ag b,ag c] [ai false]:=
 h.of
theorem ax1(h:ad (Ae a b [])):
 al 322 [ag a,ag b] [ag (-1)]:=
 h.of
theorem ax2(h:ad (vX a b [.b (decide (a>b)) true])):
 al 322 [ag a,ag b] [ag 1]:=
 h.of
theorem ax3(h:ad (vX a b [.b (decide (a>b)) false])):
 al 322 [ag a,ag b] [ag 0]:=
 h.of
theorem ax4(a:Int)(h:ad []):
 al 388 [ag a] [ai (a != a)]:=
 h.of
def O7(a:Int)(q:Bool)(b:Int)(r:Bool)(l:List O):List O:=.r 388 [ag a] [ai q]::.r 388 [ag b] [ai r]::.b q false::.b r false::l
theorem ax5(h:ad (O7 a q b r [.b (decide (a<b)) true])):
 al 382 [ag a,ag b] [ag (-1)]:=
 h.of
theorem ax6(h:ad (O7 a q b r [.b (decide (a<b)) false,.b (decide (a>b)) true])):
 al 382 [ag a,ag b] [ag 1]:=
 h.of
theorem ax7(h:ad (O7 a q b r [.b (decide (a<b)) false,.b (decide (a>b)) false])):
 al 382 [ag a,ag b] [ag 0]:=
 h.of
def xv(A C:ae)(a:Int):aJ:=bj 36 [(0,dO 1 A),(1,dO 1 C),(9,dO 1 A),(10,a6 (A.length:Int)),(11,a6 a)] []
def MQ(a:Int):aJ:=bj 36 [(4,a6 a)] []
theorem ax8(h:ad [.i C a [I c],.b (decide (a>=(A.length:Int))) false,.x A a [I d],.r 382 [ag c,ag d] [ag b],.b (b != 0) true]):
 a7 (ar f364 0) (xv C A a) .ret (MQ b):=
 h.aY [4] []
theorem ax9(h:ad [.i C a [I b],.b (decide (a>=(A.length:Int))) false,.x A a [I c],.r 382 [ag b,ag c] [ag d],.b (d != 0) false,.u a]):
 a7 (ar f364 0) (xv C A a) .normal (xv C A (a+1)):=
 h.aY [11,10,9,1,0] []
def T'(A C:ae):aJ:=bj 36 [(0,dO 1 A),(1,dO 1 C)] []
theorem aya(h:ad [.f A a false]):
 a7 (ar f364 0) (xv A C a) (.exit 0) (T' A C):=
 h.aY [0,1] []
theorem ayb(h:ad [.l [] [11,10,9,1,0] [] (ar f364 0) (xv A C 0) .ret (MQ a)]):
 al 364 [aC 1 A,aC 1 C] [ag a]:=
 h.of
theorem ayc(h:ad [.l [] [11,10,9,1,0] [] (ar f364 0) (xv A C 0) (.exit 0) (T' A C),.f C (A.length:Int) false]):
 al 364 [aC 1 A,aC 1 C] [ag 0]:=
 h.of
theorem ayd(h:ad [.r 364 [aC 1 A,aC 1 C] [ag a]]):
 al 335 [aC 1 A,aC 1 C] [ag a]:=
 h.of
theorem aye(h:ad [.r 322 [ag b,ag c] [ag a],.b (a != 0) true]):
 al 314 [.agg [I b,I d],.agg [I c,I e]] [ag a]:=
 h.of
theorem ayf(h:ad [.r 322 [ag a,ag c] [ag e],.b (e != 0) false,.r 322 [ag b,ag d] [ag f]]):
 al 314 [.agg [I a,I b],.agg [I c,I d]] [ag f]:=
 h.of
theorem ayg(h:ad [.r 335 [.one (.J 1 [[I a],[I b]]),.one (.J 1 [[I c],[I d]])] [ag e]]):
 al 313 [.agg [I a,I b],.agg [I c,I d]] [ag e]:=
 h.of
def xw(a b c d e:Int):aJ:=bj 41 [(5,.aI (.one (.J (.own 27) 1 [[I a],[I b],[I c],[I d]]))),(6,a6 e)] []
def MR(a:Int):aJ:=bj 41 [(4,a6 a)] []
def Hc(a b c d e f:Int)(l:List O):List O:=.b (decide (a<4)) true::.x [[I b],[I c],[I d],[I e]] a [I f]::l
theorem ayh(h:ad (Hc a b c d e f [.b (f != 0) true,.x [[I b],[I c],[I d],[I e]] a [I g]])):
 a7 (ar f264 0) (xw b c d e a) .ret (MR g):=
 h.aY [4] []
theorem ayi(h:ad (Hc a b c d e f [.b (f != 0) false,.u a])):
 a7 (ar f264 0) (xw b c d e a) .normal (xw b c d e (a+1)):=
 h.aY [6,5] []
def Ua:aJ:=bj 41 [] []
theorem ayj(h:ad [.b (decide (a<4)) false]):
 a7 (ar f264 0) (xw b c d e a) (.exit 0) Ua:=
 h.aY [] []
theorem ayk(h:ad [.r 314 [.agg [I b,I i],.agg [I m,I n]] [ag c],.r 322 [ag a,ag l] [ag d],.r 322 [ag j,ag o] [ag e],.r 322 [ag k,ag p] [ag f],.l [] [6,5] [] (ar f264 0) (xw c d e f 0) .ret (MR g)]):
 al 264 [.agg (aS a b i j k),.agg (aS l m n o p)] [ag g]:=
 h.of
theorem ayl(h:ad [.r 314 [.agg [I b,I g],.agg [I l,I m]] [ag c],.r 322 [ag a,ag k] [ag d],.r 322 [ag i,ag n] [ag e],.r 322 [ag j,ag o] [ag f],.l [] [6,5] [] (ar f264 0) (xw c d e f 0) (.exit 0) Ua]):
 al 264 [.agg (aS a b g i j),.agg (aS k l m n o)] [ag 0]:=
 h.of
theorem aym(h:ad [.r 313 [.agg [I b,I c],.agg [I d,I e]] [ag a],.b (a != 0) true]):
 al 302 [.agg (aS f b c g i),.agg (aS j d e k l)] [ag a]:=
 h.of
theorem ayn(h:ad [.r 313 [.agg [I b,I e],.agg [I j,I k]] [ag c],.b (c != 0) false,.r 335 [.one (.J 1 [[I a],[I f],[I g]]),.one (.J 1 [[I i],[I l],[I m]])] [ag d]]):
 al 302 [.agg (aS a b e f g),.agg (aS i j k l m)] [ag d]:=
 h.of
def qj(a:Int)(A:ae):aJ:=bj 48 [(3,aL.aI (bn.one (aB 7 5 A))),(4,a6 a)] []
def vu(a b:Int)(A:ae)(c d e f g:Int):aJ:=bj 48 [(3,aL.aI (bn.one (aB 7 5 A))),(4,a6 a),(5,aR 5),(6,a6 b)] [(5,[au c,au d,au e,au f,au g])]
def Y3(a:Int)(A:ae)(b c d e f g i j k m n:Int)(l:List O):List O:=.b (decide (a>0)) true::.v (a-1)::.p (0<=a-1)::.p (a-1<(A.length:Int))::.e A ((a-1).toNat) (aS b c d e f)::.r 264 [.agg (aS g i j k m),.agg (aS b c d e f)] [ag n]::l
theorem axy{g a:Int}{A:ae}{b c d e f i j k l m n o p a0 bX cO:Int}{d26 d27 d28 d29 d30:D}(h:ad (Y3 a A i j k l m b c d e f n [.b (decide (n<0)) true,.v (a-1),.p (0<=a-1),.p (a-1<(A.length:Int)),.e A ((a-1).toNat) (aS o p a0 bX cO),.x A a [d26,d27,d28,d29,d30],.v (a-1)])):
 a7 (ar f165 1) (vu g a A b c d e f) .normal (vu g (a-1) (A.set a.toNat (aS o p a0 bX cO)) b c d e f):=
 h.aY [6,5,3,4] [5]
def Fo(a:Int)(A:ae)(b c d e f g:Int):aJ:=bj 48 [(3,aL.aI (bn.one (aB 7 5 A))),(4,a6 a),(5,aR 5),(6,a6 b)] [(5,[au c,au d,au e,au f,au g])]
theorem axz(h:ad (Y3 a A i j k l m b c d e f n [.b (decide (n<0)) false])):
 a7 (ar f165 1) (vu g a A b c d e f) (.exit 2) (Fo g A a b c d e f):=
 h.aY [3,6,5,4] [5]
theorem axA(h:ad [.b (decide (a>0)) false]):
 a7 (ar f165 1) (vu b a A c d e f g) (.exit 2) (Fo b A a c d e f g):=
 h.aY [3,6,5,4] [5]
theorem axB{a:Int}{A:ae}{i j k l m:Int}{C:ae}{b c d e f g:Int}{d15 d16 d17 d18 d19:D}(h:ad [.i A a (aS i j k l m),.l [] [6,5,3,4] [5] (ar f165 1) (vu a a A i j k l m) (.exit 2) (Fo a C b c d e f g),.x C b [d15,d16,d17,d18,d19],.u a]):
 a7 (ar f165 0) (qj a A) .normal (qj (a+1) (C.set b.toNat (aS c d e f g))):=
 h.aY [4,3] []
def Fp(A:ae):aJ:=bj 48 [(3,aL.aI (bn.one (aB 7 5 A)))] []
theorem Ub(h:ad [.f A a false]):
 a7 (ar f165 0) (qj a A) (.exit 0) (Fp A):=
 h.aY [3] []
theorem axC(h:ad [.g ([]:ae) A 40,.h A,.l [] [4,3] [] (ar f165 0) (qj 1 ([]++A)) (.exit 0) (Fp C)]):
 al 165 [aC 5 A] [aC 5 C]:=
 h.of
theorem axD(h:ad [.r 233 [aC 5 C] [aC 5 E],.a (.pF [[some (some A)],[none]] 0 [] []),.p (jo prog 301 [GA.one (eB.eO 5 E (some A)),GA.one (eB.ro (D.cl 302 []))] [])]):
 al 236 [aC 5 C] [aC 5 A]:=
 h.of
def zm(A:ae)(a b:Int)(C E F G:ae)(c:Int)(H:ae):aJ:=bj 46 [(1,aR 1),(3,aL.aI (bn.one (aB 6 5 H))),(4,a6 c)] [(1,[.J .free 4 A,au a,au b,.J .free 8 C,.J .free 6 E,.J .free 5 F,.J .free 3 G])]
theorem axE(h:ad [.i E a (aW A L M N Q R S bb),.g F A 40,.h A,.x E a (aW V C X Y Z c7 dZ ei),.g (F++A) C 40,.h C,.u a]):
 a7 (ar f38 0) (zm G b c E H af K a F) .normal (zm G b c E H af K (a+1) (F++A++C)):=
 h.aY [4,1,3] [1]
def Uc(A:ae)(a b:Int)(C E F G H:ae):aJ:=bj 46 [(1,aR 1),(3,aL.aI (bn.one (aB 6 5 H)))] [(1,[.J .free 4 A,au a,au b,.J .free 8 C,.J .free 6 E,.J .free 5 F,.J .free 3 G])]
theorem axF(h:ad [.f A c false]):
 a7 (ar f38 0) (zm C a b A E F G c H) (.exit 0) (Uc C a b A E F G H):=
 h.aY [1,3] [1]
def zn(A:ae)(a b:Int)(C E F G:ae)(c:Int)(H:ae):aJ:=bj 46 [(1,aR 1),(3,aL.aI (bn.one (aB 6 5 H))),(5,a6 c)] [(1,[.J .free 4 A,au a,au b,.J .free 8 C,.J .free 6 E,.J .free 5 F,.J .free 3 G])]
theorem axG(h:ad [.i C a (bZ d A e f g i),.g E A 40,.h A,.u a]):
 a7 (ar f38 1) (zn F b c G C H af a E) .normal (zn F b c G C H af (a+1) (E++A)):=
 h.aY [5,1,3] [1]
def Ud(A:ae):aJ:=bj 46 [(3,aL.aI (bn.one (aB 6 5 A)))] []
theorem axH(h:ad [.f A a false]):
 a7 (ar f38 1) (zn E b c F A G H a C) (.exit 2) (Ud C):=
 h.aY [3] []
theorem axI(h:ad [.l [] [4,1,3] [1] (ar f38 0) (zm A a b C E F G 0 []) (.exit 0) (Uc A a b C E F G H),.l [] [5,1,3] [1] (ar f38 1) (zn A a b C E F G 0 H) (.exit 2) (Ud af),.r 165 [aC 5 af] [aC 5 K]]):
 al 38 [.agg (cl A a b C E F G)] [aC 5 K]:=
 h.of
def zo(A:ae)(a:Int)(C E:ae)(b c:Int)(F G H af:ae):aJ:=bj 37 [(1,aR 1),(3,aL.aI (bn.one (aB 18 5 C))),(9,dO 8 A),(10,a6 (A.length:Int)),(11,a6 a)] [(1,[.J .free 4 E,au b,au c,.J .free 8 F,.J .free 6 G,.J .free 5 H,.J .free 3 af])]
theorem axJ(h:ad [.i F a (aW A C M N Q R S bb),.g E A 40,.h A,.g (E++A) C 40,.h C,.u a]):
 a7 (ar f103 0) (zo F a E L b c G H af K) .normal (zo F (a+1) (E++A++C) L b c G H af K):=
 h.aY [11,10,9,3,1] [1]
def Ue(A C:ae)(a b:Int)(E F G H:ae):aJ:=bj 37 [(1,aR 1),(3,aL.aI (bn.one (aB 18 5 A)))] [(1,[.J .free 4 C,au a,au b,.J .free 8 E,.J .free 6 F,.J .free 5 G,.J .free 3 H])]
theorem axK(h:ad [.f G c false]):
 a7 (ar f103 0) (zo G c H af a b A C E F) (.exit 0) (Ue H af a b A C E F):=
 h.aY [1,3] [1]
def zp(A:ae)(a:Int)(C:ae):aJ:=bj 37 [(3,aL.aI (bn.one (aB 18 5 C))),(24,dO 6 A),(25,a6 (A.length:Int)),(26,a6 a)] []
theorem axL(h:ad [.i C a (bZ b A c d e f),.g E A 40,.h A,.u a]):
 a7 (ar f103 1) (zp C a E) .normal (zp C (a+1) (E++A)):=
 h.aY [26,25,24,3] []
def Uf(A:ae):aJ:=bj 37 [(3,aL.aI (bn.one (aB 18 5 A)))] []
theorem axM(h:ad [.f A a false]):
 a7 (ar f103 1) (zp A a C) (.exit 2) (Uf C):=
 h.aY [3] []
theorem axN(h:ad [.l [(3,18,5)] [11,10,9,3,1] [1] (ar f103 0) (zo A 0 [] C a b A H af K) (.exit 0) (Ue L R d c M E N Q),.l [] [26,25,24,3] [] (ar f103 1) (zp E 0 L) (.exit 2) (Uf F),.r 236 [aC 5 F] [aC 5 G]]):
 al 103 [.agg (cl C a b A H af K)] [aC 5 G]:=
 h.of
def xx(A:ae)(a b:Int)(C:ae):aJ:=bj 30 [(0,dO 5 A),(1,a6 a),(5,aL.aI (bn.one (aB 7 5 C))),(6,a6 b)] []
theorem axO(h:ad [.i A a (aS j i k l m),.b (i==g) true,.x A a (aS f b c d e),.g C [(aS f b c d e)] 40,.h [(aS f b c d e)],.u a]):
 a7 (ar f116 0) (xx A g a C) .normal (xx A g (a+1) (C++[(aS f b c d e)])):=
 h.aY [6,0,1,5] []
theorem axP(h:ad [.i A a (aS d c e f g),.b (c==b) false,.u a]):
 a7 (ar f116 0) (xx A b a C) .normal (xx A b (a+1) C):=
 h.aY [6,0,1,5] []
def Ug(A:ae):aJ:=bj 30 [(5,aL.aI (bn.one (aB 7 5 A)))] []
theorem axQ(h:ad [.f A a false]):
 a7 (ar f116 0) (xx A b a C) (.exit 0) (Ug C):=
 h.aY [5] []
theorem axR(h:ad [.l [] [6,0,1,5] [] (ar f116 0) (xx A a 0 []) (.exit 0) (Ug C)]):
 al 116 [aC 5 A,ag a] [aC 5 C]:=
 h.of
def w2(A:ae)(a b:Int)(C:ae):aJ:=bj 25 [(1,a6 a),(5,aL.aI (bn.one (aB 22 5 C))),(8,dO 5 A),(9,a6 (A.length:Int)),(10,a6 b)] []
theorem axS(h:ad [.i A b (aS c a d e f),.b (a==g) true,.g C [(aS c a d e f)] 40,.h [(aS c a d e f)],.u b]):
 a7 (ar f182 0) (w2 A g b C) .normal (w2 A g (b+1) (C++[(aS c a d e f)])):=
 h.aY [10,9,8,1,5] []
theorem axT(h:ad [.i A a (aS d c e f g),.b (c==b) false,.u a]):
 a7 (ar f182 0) (w2 A b a C) .normal (w2 A b (a+1) C):=
 h.aY [10,9,8,1,5] []
def Uh(A:ae):aJ:=bj 25 [(5,aL.aI (bn.one (aB 22 5 A)))] []
theorem axU(h:ad [.f A a false]):
 a7 (ar f182 0) (w2 A b a C) (.exit 0) (Uh C):=
 h.aY [5] []
theorem axV(h:ad [.l [(5,22,5)] [10,9,8,1,5] [] (ar f182 0) (w2 A a 0 []) (.exit 0) (Uh C)]):
 al 182 [aC 5 A,ag a] [aC 5 C]:=
 h.of
def w3(A C E F G H af K:ae)(a b:Int):aJ:=bj 21 [(1,a6 a),(2,aR 2),(5,a6 b)] [(2,[.J .free 5 A,.J .free 5 C,.J .free 5 E,.J .free 4 F,.J .free 1 G,.J .free 1 H,.J .free 1 af,.J .free 2 K])]
def MS(q:Bool):aJ:=bj 21 [(4,.aI (.one (.bg q)))] []
theorem axW(h:ad [.i A c [I a,B q],.b (a==b) true]):
 a7 (ar f213 0) (w3 C E F G H af K A b c) .ret (MS true):=
 h.aY [4] []
theorem axX(h:ad [.i A a [I c,B q],.b (c==b) false,.u a]):
 a7 (ar f213 0) (w3 C E F G H af K A b a) .normal (w3 C E F G H af K A b (a+1)):=
 h.aY [5,2,1] [2]
def Ui:aJ:=bj 21 [] []
theorem axo(h:ad [.f A a false]):
 a7 (ar f213 0) (w3 C E F G H af K A b a) (.exit 0) Ui:=
 h.aY [] []
theorem axp(h:ad [.l [] [5,2,1] [2] (ar f213 0) (w3 A C E F G H af K a 0) .ret (MS q)]):
 al 213 [.agg (aW A C E F G H af K),ag a] [ai q]:=
 h.of
theorem axq(h:ad [.l [] [5,2,1] [2] (ar f213 0) (w3 A C E F G H af K a 0) (.exit 0) Ui]):
 al 213 [.agg (aW A C E F G H af K),ag a] [ai false]:=
 h.of
theorem axr(h:ad [.r 328 [aC 2 A,.one (.cl 329 [D.ptr [I a]])] [ai q]]):
 al 281 [aC 2 A,ag a] [ai q]:=
 h.of
theorem axs(h:ad []):
 al 329 [.agg [I a,B q],.one (.ptr [I b])] [ai (a==b)]:=
 h.of
theorem axt(h:ad [.r 281 [aC 2 A,ag a] [ai q]]):
 al 210 [.agg (aW C E F G H af K A),ag a] [ai q]:=
 h.of
def w4(A:ae)(g1:Nat)(bM:List D)(a:Int):aJ:=bj 19 [(0,dO 5 A),(1,.aI (.one (.fd (D.cl g1 bM)))),(7,a6 (A.length:Int)),(8,a6 a)] []
def MT(a:Int):aJ:=bj 19 [(4,a6 a)] []
theorem axu{A:ae}{g1:Nat}{bM:List D}{a b c d e f:Int}{q:Bool}(h:ad [.i A a (aS b c d e f),.p (hD prog g1=true),.r g1 ([.agg (aS b c d e f)]++List.map .one bM) [ai q],.b q true]):
 a7 (ar f330 0) (w4 A g1 bM a) .ret (MT a):=
 h.aY [4] []
theorem axv{A:ae}{g1:Nat}{bM:List D}{a b c d e f:Int}{q:Bool}(h:ad [.i A a (aS b c d e f),.p (hD prog g1=true),.r g1 ([.agg (aS b c d e f)]++List.map .one bM) [ai q],.b q false,.u a]):
 a7 (ar f330 0) (w4 A g1 bM a) .normal (w4 A g1 bM (a+1)):=
 h.aY [8,7,1,0] []
def Uj:aJ:=bj 19 [] []
theorem axw{A:ae}{g1:Nat}{bM:List D}{a:Int}(h:ad [.f A a false]):
 a7 (ar f330 0) (w4 A g1 bM a) (.exit 0) Uj:=
 h.aY [] []
theorem axx{A:ae}{g1:Nat}{bM:List D}{a:Int}(h:ad [.l [] [8,7,1,0] [] (ar f330 0) (w4 A g1 bM 0) .ret (MT a)]):
 al 330 [aC 5 A,.one (.cl g1 bM)] [ag a]:=
 h.of
theorem ayY{A:ae}{g1:Nat}{bM:List D}(h:ad [.l [] [8,7,1,0] [] (ar f330 0) (w4 A g1 bM 0) (.exit 0) Uj]):
 al 330 [aC 5 A,.one (.cl g1 bM)] [ag (-1)]:=
 h.of
def w5(A:ae)(g1:Nat)(bM:List D)(a:Int):aJ:=bj 19 [(0,dO 2 A),(1,.aI (.one (.fd (D.cl g1 bM)))),(7,a6 (A.length:Int)),(8,a6 a)] []
def MU(a:Int):aJ:=bj 19 [(4,a6 a)] []
theorem ayZ{A:ae}{g1:Nat}{bM:List D}{a b:Int}{q r:Bool}(h:ad [.i A a [I b,B q],.p (hD prog g1=true),.r g1 ([.agg [I b,B q]]++List.map .one bM) [ai r],.b r true]):
 a7 (ar f352 0) (w5 A g1 bM a) .ret (MU a):=
 h.aY [4] []
theorem ay0{A:ae}{g1:Nat}{bM:List D}{a b:Int}{q r:Bool}(h:ad [.i A a [I b,B q],.p (hD prog g1=true),.r g1 ([.agg [I b,B q]]++List.map .one bM) [ai r],.b r false,.u a]):
 a7 (ar f352 0) (w5 A g1 bM a) .normal (w5 A g1 bM (a+1)):=
 h.aY [8,7,1,0] []
def Uk:aJ:=bj 19 [] []
theorem ay1{A:ae}{g1:Nat}{bM:List D}{a:Int}(h:ad [.f A a false]):
 a7 (ar f352 0) (w5 A g1 bM a) (.exit 0) Uk:=
 h.aY [] []
theorem ay2{A:ae}{g1:Nat}{bM:List D}{a:Int}(h:ad [.l [] [8,7,1,0] [] (ar f352 0) (w5 A g1 bM 0) .ret (MU a)]):
 al 352 [aC 2 A,.one (.cl g1 bM)] [ag a]:=
 h.of
theorem ay3{A:ae}{g1:Nat}{bM:List D}(h:ad [.l [] [8,7,1,0] [] (ar f352 0) (w5 A g1 bM 0) (.exit 0) Uk]):
 al 352 [aC 2 A,.one (.cl g1 bM)] [ag (-1)]:=
 h.of
def w6(A:ae)(g1:Nat)(bM:List D)(a:Int):aJ:=bj 19 [(0,dO 3 A),(1,.aI (.one (.fd (D.cl g1 bM)))),(7,a6 (A.length:Int)),(8,a6 a)] []
def MV(a:Int):aJ:=bj 19 [(4,a6 a)] []
theorem ay4{A:ae}{g1:Nat}{bM:List D}{a b c:Int}{q r:Bool}(h:ad [.i A a [I b,I c,B q],.p (hD prog g1=true),.r g1 ([.agg [I b,I c,B q]]++List.map .one bM) [ai r],.b r true]):
 a7 (ar f290 0) (w6 A g1 bM a) .ret (MV a):=
 h.aY [4] []
theorem ay5{A:ae}{g1:Nat}{bM:List D}{a b c:Int}{q r:Bool}(h:ad [.i A a [I b,I c,B q],.p (hD prog g1=true),.r g1 ([.agg [I b,I c,B q]]++List.map .one bM) [ai r],.b r false,.u a]):
 a7 (ar f290 0) (w6 A g1 bM a) .normal (w6 A g1 bM (a+1)):=
 h.aY [8,7,1,0] []
def Ul:aJ:=bj 19 [] []
theorem ay6{A:ae}{g1:Nat}{bM:List D}{a:Int}(h:ad [.f A a false]):
 a7 (ar f290 0) (w6 A g1 bM a) (.exit 0) Ul:=
 h.aY [] []
theorem ay7{A:ae}{g1:Nat}{bM:List D}{a:Int}(h:ad [.l [] [8,7,1,0] [] (ar f290 0) (w6 A g1 bM 0) .ret (MV a)]):
 al 290 [aC 3 A,.one (.cl g1 bM)] [ag a]:=
 h.of
theorem ay8{A:ae}{g1:Nat}{bM:List D}(h:ad [.l [] [8,7,1,0] [] (ar f290 0) (w6 A g1 bM 0) (.exit 0) Ul]):
 al 290 [aC 3 A,.one (.cl g1 bM)] [ag (-1)]:=
 h.of
def w7(A:ae)(g1:Nat)(bM:List D)(a:Int):aJ:=bj 19 [(0,dO 4 A),(1,.aI (.one (.fd (D.cl g1 bM)))),(7,a6 (A.length:Int)),(8,a6 a)] []
def MW(a:Int):aJ:=bj 19 [(4,a6 a)] []
def kg(A:ae)(a b c d e:Int)(l:List O):List O:=.i A a [I b,I c,I d,I e]::l
theorem ay9{A:ae}{g1:Nat}{bM:List D}{a b c d e:Int}{q:Bool}(h:ad (kg A a b c d e [.p (hD prog g1=true),.r g1 ([.agg [I b,I c,I d,I e]]++List.map .one bM) [ai q],.b q true])):
 a7 (ar f375 0) (w7 A g1 bM a) .ret (MW a):=
 h.aY [4] []
theorem aza{A:ae}{g1:Nat}{bM:List D}{a b c d e:Int}{q:Bool}(h:ad (kg A a b c d e [.p (hD prog g1=true),.r g1 ([.agg [I b,I c,I d,I e]]++List.map .one bM) [ai q],.b q false,.u a])):
 a7 (ar f375 0) (w7 A g1 bM a) .normal (w7 A g1 bM (a+1)):=
 h.aY [8,7,1,0] []
def TN:aJ:=bj 19 [] []
theorem azb{A:ae}{g1:Nat}{bM:List D}{a:Int}(h:ad [.f A a false]):
 a7 (ar f375 0) (w7 A g1 bM a) (.exit 0) TN:=
 h.aY [] []
theorem azc{A:ae}{g1:Nat}{bM:List D}{a:Int}(h:ad [.l [] [8,7,1,0] [] (ar f375 0) (w7 A g1 bM 0) .ret (MW a)]):
 al 375 [aC 4 A,.one (.cl g1 bM)] [ag a]:=
 h.of
theorem azd{A:ae}{g1:Nat}{bM:List D}(h:ad [.l [] [8,7,1,0] [] (ar f375 0) (w7 A g1 bM 0) (.exit 0) TN]):
 al 375 [aC 4 A,.one (.cl g1 bM)] [ag (-1)]:=
 h.of
theorem aze{A:ae}{g1:Nat}{bM:List D}{a:Int}(h:ad [.r 330 [aC 5 A,.one (.cl g1 bM)] [ag a]]):
 al 291 [aC 5 A,.one (.cl g1 bM)] [ai (decide (a>=0))]:=
 h.of
theorem azf{A:ae}{g1:Nat}{bM:List D}{a:Int}(h:ad [.r 352 [aC 2 A,.one (.cl g1 bM)] [ag a]]):
 al 328 [aC 2 A,.one (.cl g1 bM)] [ai (decide (a>=0))]:=
 h.of
end Go.Proofs.YtdchjefneblpgaaGreat
namespace Go.Proofs.YtdchjefneblpgaaGreat
open Go.Sx Go.RowKit Go.Proofs.Tryz
variable {a b c d e f g i j k l m n o p a0 bX cO d0 bu f0 : Int} {A C E F G H af K L M N Q R S bb V X Y Z c7 dZ ei : ae} {q r : Bool}
def He(A:ae)(l:List O):List O:=.g ([]:ae) A 32::.h A::l
theorem azg(h:ad (He A [])):
 al 297 [aC 4 A] [aC 4 ([]++A)]:=
 h.of
theorem azh(h:ad [.r 336 [aC 4 A,.agg [I a,I b,I c,I d]] [ai q]]):
 al 303 [aC 4 A,.agg [I a,I b,I c,I d]] [ai q]:=
 h.of
theorem azi(h:ad [.r 335 [.one (.J 1 [[I b],[I a],[I c],[I d]]),.one (.J 1 [[I f],[I e],[I g],[I i]])] [ag j]]):
 al 304 [.agg [I a,I b,I c,I d],.agg [I e,I f,I g,I i]] [ag j]:=
 h.of
theorem azj(h:ad [.r 365 [aC 4 A,.agg [I a,I b,I c,I d]] [ag e]]):
 al 336 [aC 4 A,.agg [I a,I b,I c,I d]] [ai (decide (e>=0))]:=
 h.of
def w8(A:ae)(a b c d e:Int):aJ:=bj 19 [(0,dO 4 A),(3,aR 3),(7,a6 (A.length:Int)),(8,a6 e)] [(3,[au a,au b,au c,au d])]
def MX(a:Int):aJ:=bj 19 [(4,a6 a)] []
theorem azk(h:ad (kg A a f g i j [.b (b==f&&(c==g&&(d==i&&e==j))) true])):
 a7 (ar f365 0) (w8 A b c d e a) .ret (MX a):=
 h.aY [4] []
theorem azl(h:ad (kg A a f g i j [.b (b==f&&(c==g&&(d==i&&e==j))) false,.u a])):
 a7 (ar f365 0) (w8 A b c d e a) .normal (w8 A b c d e (a+1)):=
 h.aY [8,7,3,0] [3]
def TO:aJ:=bj 19 [] []
theorem azm(h:ad [.f A a false]):
 a7 (ar f365 0) (w8 A b c d e a) (.exit 0) TO:=
 h.aY [] []
theorem azn(h:ad [.l [] [8,7,3,0] [3] (ar f365 0) (w8 A a b c d 0) .ret (MX e)]):
 al 365 [aC 4 A,.agg [I a,I b,I c,I d]] [ag e]:=
 h.of
theorem ayy(h:ad [.l [] [8,7,3,0] [3] (ar f365 0) (w8 A a b c d 0) (.exit 0) TO]):
 al 365 [aC 4 A,.agg [I a,I b,I c,I d]] [ag (-1)]:=
 h.of
theorem ayz(h:ad [.r 297 [aC 4 A] [aC 4 C],.r 303 [aC 4 A,.agg [I a,I b,I c,I d]] [ai q],.b q true]):
 al 237 [aC 4 A,.agg [I a,I b,I c,I d]] [aC 4 C]:=
 h.of
def w9(A:ae)(a b c d:Int)(C:ae)(e:Int):aJ:=bj 33 [(0,dO 4 A),(3,aR 3),(5,aL.aI (bn.one (aB 90000 4 C))),(6,a6 e)] [(3,[au a,au b,au c,au d])]
theorem ayA(h:ad (kg A a j k f g [.r 304 [.agg [I j,I k,I f,I g],.agg [I b,I c,I d,I e]] [ag i],.b (decide (i<0)) true,.u a])):
 a7 (ar f237 0) (w9 A b c d e C a) .normal (w9 A b c d e C (a+1)):=
 h.aY [6,0,3,5] [3]
def BM(a b c d:Int)(A:ae)(e:Int):aJ:=bj 33 [(3,aR 3),(5,aL.aI (bn.one (aB 90000 4 A))),(6,a6 e)] [(3,[au a,au b,au c,au d])]
theorem ayB(h:ad (kg A e j k f g [.r 304 [.agg [I j,I k,I f,I g],.agg [I a,I b,I c,I d]] [ag i],.b (decide (i<0)) false])):
 a7 (ar f237 0) (w9 A a b c d C e) (.exit 0) (BM a b c d C e):=
 h.aY [5,6,3] [3]
theorem ayC(h:ad [.f A a false]):
 a7 (ar f237 0) (w9 A b c d e C a) (.exit 0) (BM b c d e C a):=
 h.aY [5,6,3] [3]
theorem ayD(h:ad [.r 297 [aC 4 A] [aC 4 C],.r 303 [aC 4 A,.agg [I a,I b,I c,I d]] [ai q],.b q false,.l [] [6,0,3,5] [3] (ar f237 0) (w9 A a b c d C 0) (.exit 0) (BM a b c d C e),.a (.pF [[some none],[none],[some none]] 0 [] [aC 4 E]),.p (jo prog 305 [GA.one (eB.eO 4 C none),GA.one (eB.ro (I e)),GA.one (eB.eO 4 [[I a,I b,I c,I d]] none)] [aC 4 E])]):
 al 237 [aC 4 A,.agg [I a,I b,I c,I d]] [aC 4 E]:=
 h.of
theorem TP(h:ad (x8 A a q [])):
 al 250 [.agg (bA A b c),ag a] [ai q]:=
 h.of
theorem ayE(h:ad [.b (a==d) true,.b (b==e) true]):
 al 347 [.agg [I a,I b,I c,I g],.agg [I d,I e,I f,I i]] [ai (c==f)]:=
 h.of
theorem ayF(h:ad [.b (a==c) true,.b (b==d) false]):
 al 347 [.agg [I a,I b,I e,I f],.agg [I c,I d,I g,I i]] [ai false]:=
 h.of
theorem ayG(h:ad [.b (a==b) false]):
 al 347 [.agg [I a,I c,I d,I e],.agg [I b,I f,I g,I i]] [ai false]:=
 h.of
theorem ayH(h:ad [.r 347 [.agg [I e,I f,I g,I i],.agg [I a,I b,I c,I d]] [ai q]]):
 al 346 [.agg [I a,I b,I c,I d],.one (.ptr [I e,I f,I g,I i])] [ai q]:=
 h.of
theorem ayI{A:ae}{g1:Nat}{bM:List D}{a:Int}(h:ad [.r 375 [aC 4 A,.one (.cl g1 bM)] [ag a],.b (a==-1) true]):
 Qy 345 [GA.one (eB.eO 4 A none),GA.one (eB.ro (D.cl g1 bM))] [aC 4 A]:=
 h.Sg
def vv(g0:Nat)(cG:List D)(a b:Int)(A:ae):aJ:=bj 42 [(0,aL.aI (bn.one (aB 1000000000 4 A))),(1,.aI (.one (.fd (D.cl g0 cG)))),(5,a6 b),(6,a6 a)] []
theorem ayJ{g1:Nat}{bM:List D}{b a:Int}{A:ae}{d e f c:Int}{q:Bool}{d12 d13 d14 d15:D}(h:ad (kg A b d e f c [.p (hD prog g1=true),.r g1 ([.agg [I d,I e,I f,I c]]++List.map .one bM) [ai q],.n q true,.x A a [d12,d13,d14,d15],.u a,.u b])):
 a7 (ar f345 0) (vv g1 bM b a A) .normal (vv g1 bM (b+1) (a+1) (A.set a.toNat [I d,I e,I f,I c])):=
 h.aY [6,0,1,5] []
theorem ayK{g1:Nat}{bM:List D}{a c:Int}{A:ae}{d e f b:Int}{q:Bool}(h:ad (kg A a d e f b [.p (hD prog g1=true),.r g1 ([.agg [I d,I e,I f,I b]]++List.map .one bM) [ai q],.n q false,.u a])):
 a7 (ar f345 0) (vv g1 bM a c A) .normal (vv g1 bM (a+1) c A):=
 h.aY [6,0,1,5] []
def MY(A:ae)(a:Int):aJ:=bj 42 [(0,aL.aI (bn.one (aB 1000000000 4 A))),(5,a6 a)] []
theorem ayL{g1:Nat}{bM:List D}{a b:Int}{A:ae}(h:ad [.f A a false]):
 a7 (ar f345 0) (vv g1 bM a b A) (.exit 0) (MY A b):=
 h.aY [0,5] []
theorem ayM{C:ae}{g1:Nat}{bM:List D}{b:Int}{A:ae}{a:Int}(h:ad [.r 375 [aC 4 C,.one (.cl g1 bM)] [ag b],.b (b==-1) false,.u b,.l [] [6,0,1,5] [] (ar f345 0) (vv g1 bM (b+1) b C) (.exit 0) (MY A a),.a .own,.p (0<=(some a).getD 0),.p ((some a).getD 0<(A.length:Int)),.h A,.p ((0:Int)<=none.getD 0),.p (none.getD 0<=(some a).getD (↑(List.take ((some a).getD 0).toNat A++List.replicate (A.length-((some a).getD 0).toNat) [I 0,I 0,I 0,I 0]).length:Int)),.p ((some a).getD (↑(List.take ((some a).getD 0).toNat A++List.replicate (A.length-((some a).getD 0).toNat) [I 0,I 0,I 0,I 0]).length:Int)<=(↑(List.take ((some a).getD 0).toNat A++List.replicate (A.length-((some a).getD 0).toNat) [I 0,I 0,I 0,I 0]).length:Int))]):
 Qy 345 [GA.one (eB.eO 4 C none),GA.one (eB.ro (D.cl g1 bM))] [.one (.J 4 (List.take (((some a).getD (↑(List.take ((some a).getD 0).toNat A++List.replicate (A.length-((some a).getD 0).toNat) [I 0,I 0,I 0,I 0]).length:Int)).toNat-0) (List.drop 0 (List.take ((some a).getD 0).toNat A++List.replicate (A.length-((some a).getD 0).toNat) [I 0,I 0,I 0,I 0]))))]:=
 h.Sg
def pr(A:ae)(a b c d:Int)(q:Bool)(e:Int):aJ:=bj 41 [(1,a6 a),(2,a6 b),(3,a6 c),(10,a6 e),(11,.aI (.one (.bg q))),(14,dO 4 A),(15,a6 (A.length:Int)),(16,a6 d)] []
def Hd(A:ae)(a b c d e f g i:Int)(q:Bool)(l:List O):List O:=kg A a b c d e (.r 347 [.agg [I b,I c,I d,I e],.agg [I f,I g,I i,I 0]] [ai q]::l)
theorem ayN(h:ad (Hd A a f g i c b d e q [.b q true,.n r true,.u a])):
 a7 (ar f344 0) (pr A b d e a r j) .normal (pr A b d e (a+1) true c):=
 h.aY [16,15,14,1,2,3,11,10] []
theorem ayO(h:ad (Hd A b g i j a c d e q [.b q true,.n r false,.b (decide (a<f)) true,.u b])):
 a7 (ar f344 0) (pr A c d e b r f) .normal (pr A c d e (b+1) true a):=
 h.aY [16,15,14,1,2,3,11,10] []
theorem ayP(h:ad (Hd A a g i j c b d e r [.b r true,.n q false,.b (decide (c<f)) false,.u a])):
 a7 (ar f344 0) (pr A b d e a q f) .normal (pr A b d e (a+1) q f):=
 h.aY [16,15,14,1,2,3,11,10] []
theorem ayQ(h:ad (Hd A a g i j e b c d q [.b q false,.u a])):
 a7 (ar f344 0) (pr A b c d a r f) .normal (pr A b c d (a+1) r f):=
 h.aY [16,15,14,1,2,3,11,10] []
def TQ(a:Int)(q:Bool):aJ:=bj 41 [(10,a6 a),(11,.aI (.one (.bg q)))] []
theorem ayR(h:ad [.f A a false]):
 a7 (ar f344 0) (pr A c d e a q b) (.exit 0) (TQ b q):=
 h.aY [10,11] []
theorem ayS(h:ad [.l [] [16,15,14,1,2,3,11,10] [] (ar f344 0) (pr A a b c 0 false 0) (.exit 0) (TQ d q)]):
 al 344 [aC 4 A,ag a,ag b,ag c] [ag d,ai q]:=
 h.of
theorem ayT(h:ad [.r 344 [aC 4 A,ag a,ag b,ag c] [ag e,ai q],.b q true,.b (decide (e<=d)) true,.r 297 [aC 4 A] [aC 4 C]]):
 al 318 [aC 4 A,.agg [I a,I b,I c,I d]] [aC 4 C,ai false]:=
 h.of
theorem ayU(h:ad [.r 344 [aC 4 A,ag a,ag b,ag c] [ag e,ai q],.b q true,.b (decide (e<=d)) false,.r 297 [aC 4 A] [aC 4 F],.a (.pF [[some none],[none]] 0 [] [aC 4 C]),.p (jo prog 345 [GA.one (eB.eO 4 F none),GA.one (eB.ro (D.cl 346 [D.ptr [I a,I b,I c,I d]]))] [aC 4 C]),.r 237 [aC 4 C,.agg [I a,I b,I c,I d]] [aC 4 E]]):
 al 318 [aC 4 A,.agg [I a,I b,I c,I d]] [aC 4 E,ai true]:=
 h.of
theorem ayV(h:ad [.r 344 [aC 4 A,ag a,ag b,ag c] [ag e,ai q],.b q false,.r 297 [aC 4 A] [aC 4 F],.a (.pF [[some none],[none]] 0 [] [aC 4 C]),.p (jo prog 345 [GA.one (eB.eO 4 F none),GA.one (eB.ro (D.cl 346 [D.ptr [I a,I b,I c,I d]]))] [aC 4 C]),.r 237 [aC 4 C,.agg [I a,I b,I c,I d]] [aC 4 E]]):
 al 318 [aC 4 A,.agg [I a,I b,I c,I d]] [aC 4 E,ai true]:=
 h.of
theorem ayW(h:ad [.b (a==5) true,.b (a==5) true,.r 318 [aC 4 A,.agg [I b,I c,I d,I e]] [aC 4 C,ai q]]):
 al 299 [ag a,aC 4 A,.agg [I b,I c,I d,I e]] [aC 4 C,ai q]:=
 h.of
theorem ayX(h:ad [.b (a==5) false,.b (a==8) true,.r 318 [aC 4 A,.agg [I b,I c,I d,I e]] [aC 4 C,ai q]]):
 al 299 [ag a,aC 4 A,.agg [I b,I c,I d,I e]] [aC 4 C,ai q]:=
 h.of
theorem ayo(h:ad [.b (a==5) false,.b (a==8) false,.b (a==6) true,.r 237 [aC 4 A,.agg [I b,I c,I d,I e]] [aC 4 C],.r 303 [aC 4 A,.agg [I b,I c,I d,I e]] [ai q]]):
 al 299 [ag a,aC 4 A,.agg [I b,I c,I d,I e]] [aC 4 C,.one (B !q)]:=
 h.of
theorem ayp(h:ad [.b (a==5) false,.b (a==8) false,.b (a==6) false,.r 297 [aC 4 A] [aC 4 C]]):
 al 299 [ag a,aC 4 A,.agg [I b,I c,I d,I e]] [aC 4 C,ai true]:=
 h.of
def w'(a b c d e:Int):aJ:=bj 41 [(5,.aI (.one (.J (.own 27) 1 [[I a],[I b],[I c],[I d]]))),(6,a6 e)] []
def MZ(a:Int):aJ:=bj 41 [(4,a6 a)] []
theorem ayq(h:ad (Hc a d e b c f [.b (f != 0) true,.x [[I d],[I e],[I b],[I c]] a [I g]])):
 a7 (ar f307 0) (w' d e b c a) .ret (MZ g):=
 h.aY [4] []
theorem ayr(h:ad (Hc a d e b c f [.b (f != 0) false,.u a])):
 a7 (ar f307 0) (w' d e b c a) .normal (w' d e b c (a+1)):=
 h.aY [6,5] []
def TR:aJ:=bj 41 [] []
theorem ays(h:ad [.b (decide (a<4)) false]):
 a7 (ar f307 0) (w' d e b c a) (.exit 0) TR:=
 h.aY [] []
theorem ayt(h:ad [.r 322 [ag b,ag j] [ag m],.r 322 [ag a,ag i] [ag n],.r 322 [ag f,ag k] [ag c],.r 322 [ag g,ag l] [ag d],.l [] [6,5] [] (ar f307 0) (w' m n c d 0) .ret (MZ e)]):
 al 307 [.agg [I a,I b,I f,I g],.agg [I i,I j,I k,I l]] [ag e]:=
 h.of
theorem ayu(h:ad [.r 322 [ag b,ag i] [ag l],.r 322 [ag a,ag g] [ag m],.r 322 [ag e,ag j] [ag c],.r 322 [ag f,ag k] [ag d],.l [] [6,5] [] (ar f307 0) (w' l m c d 0) (.exit 0) TR]):
 al 307 [.agg [I a,I b,I e,I f],.agg [I g,I i,I j,I k]] [ag 0]:=
 h.of
def xa(A:ae)(a b c d e:Int):aJ:=bj 18 [(0,dO 4 A),(3,aR 3),(5,a6 e)] [(3,[au a,au b,au c,au d])]
def M0(q:Bool):aJ:=bj 18 [(4,.aI (.one (.bg q)))] []
theorem ayv(h:ad (kg A e f g i j [.b (f==a&&(g==b&&(i==c&&j==d))) true])):
 a7 (ar f306 0) (xa A a b c d e) .ret (M0 true):=
 h.aY [4] []
theorem ayw(h:ad (kg A a f g i j [.b (f==b&&(g==c&&(i==d&&j==e))) false,.u a])):
 a7 (ar f306 0) (xa A b c d e a) .normal (xa A b c d e (a+1)):=
 h.aY [5,0,3] [3]
def TS:aJ:=bj 18 [] []
theorem ayx(h:ad [.f A a false]):
 a7 (ar f306 0) (xa A b c d e a) (.exit 0) TS:=
 h.aY [] []
theorem azY(h:ad [.l [] [5,0,3] [3] (ar f306 0) (xa A a b c d 0) .ret (M0 q)]):
 al 306 [aC 4 A,.agg [I a,I b,I c,I d]] [ai q]:=
 h.of
theorem azZ(h:ad [.l [] [5,0,3] [3] (ar f306 0) (xa A a b c d 0) (.exit 0) TS]):
 al 306 [aC 4 A,.agg [I a,I b,I c,I d]] [ai false]:=
 h.of
theorem az0(h:ad [.r 306 [aC 4 A,.agg [I a,I b,I c,I d]] [ai q],.b q true,.g ([]:ae) A 32,.h A]):
 al 238 [aC 4 A,.agg [I a,I b,I c,I d]] [aC 4 ([]++A)]:=
 h.of
def xy(A:ae)(a b c d e:Int):aJ:=bj 41 [(0,dO 4 A),(3,aR 3),(5,a6 e)] [(3,[au a,au b,au c,au d])]
theorem az1(h:ad (kg A a i j k f [.r 307 [.agg [I i,I j,I k,I f],.agg [I b,I c,I d,I e]] [ag g],.b (decide (g<0)) true,.u a])):
 a7 (ar f238 0) (xy A b c d e a) .normal (xy A b c d e (a+1)):=
 h.aY [5,0,3] [3]
def BN(A:ae)(a b c d e:Int):aJ:=bj 41 [(0,dO 4 A),(3,aR 3),(5,a6 e)] [(3,[au a,au b,au c,au d])]
theorem az2(h:ad (kg A e i j k f [.r 307 [.agg [I i,I j,I k,I f],.agg [I a,I b,I c,I d]] [ag g],.b (decide (g<0)) false])):
 a7 (ar f238 0) (xy A a b c d e) (.exit 0) (BN A a b c d e):=
 h.aY [0,5,3] [3]
theorem az3(h:ad [.f A a false]):
 a7 (ar f238 0) (xy A b c d e a) (.exit 0) (BN A b c d e a):=
 h.aY [0,5,3] [3]
theorem az4(h:ad [.r 306 [aC 4 A,.agg [I b,I c,I d,I e]] [ai q],.b q false,.l [] [5,0,3] [3] (ar f238 0) (xy A b c d e 0) (.exit 0) (BN A b c d e a),.p ((0:Int)<=none.getD 0),.p (none.getD 0<=(some a).getD (A.length:Int)),.p ((some a).getD (A.length:Int)<=(A.length:Int)),.p ((([]:ae).length+(List.take (((some a).getD (A.length:Int)).toNat-0) (List.drop 0 A)).length)*32<=140737488355328),.p (([]:ae).length+(List.take (((some a).getD (A.length:Int)).toNat-0) (List.drop 0 A)).length<=9223372036854775807),.p (Flat (List.take (((some a).getD (A.length:Int)).toNat-0) (List.drop 0 A))),.p ((([]++List.take (((some a).getD (A.length:Int)).toNat-0) (List.drop 0 A)).length+[[I b,I c,I d,I e]].length)*32<=140737488355328),.p (([]++List.take (((some a).getD (A.length:Int)).toNat-0) (List.drop 0 A)).length+[[I b,I c,I d,I e]].length<=9223372036854775807),.h [[I b,I c,I d,I e]],.p (0<=(some a).getD 0),.p ((some a).getD 0<=none.getD (A.length:Int)),.p (none.getD (A.length:Int)<=(A.length:Int)),.p ((([]++List.take (((some a).getD (A.length:Int)).toNat-0) (List.drop 0 A)++[[I b,I c,I d,I e]]).length+(List.take (A.length-((some a).getD 0).toNat) (List.drop ((some a).getD 0).toNat A)).length)*32<=140737488355328),.p (([]++List.take (((some a).getD (A.length:Int)).toNat-0) (List.drop 0 A)++[[I b,I c,I d,I e]]).length+(List.take (A.length-((some a).getD 0).toNat) (List.drop ((some a).getD 0).toNat A)).length<=9223372036854775807),.p (Flat (List.take (A.length-((some a).getD 0).toNat) (List.drop ((some a).getD 0).toNat A)))]):
 al 238 [aC 4 A,.agg [I b,I c,I d,I e]] [.one (.J 4 ([]++List.take (((some a).getD (A.length:Int)).toNat-0) (List.drop 0 A)++[[I b,I c,I d,I e]]++List.take (A.length-((some a).getD 0).toNat) (List.drop ((some a).getD 0).toNat A)))]:=
 h.of
theorem az5(h:ad (vY A a q [.n q true])):
 al 249 [.agg (bA A b c),ag a] [.agg (bt 0 0 0 []),ai false]:=
 h.of
theorem az6(h:ad (vY A a q [.n q false,.x A a (bt b c d C),.g ([]:ae) C 8,.h C])):
 al 249 [.agg (bA A e f),ag a] [.agg (bt b c d ([]++C)),ai true]:=
 h.of
def mr(A:ae)(a b c d:Int)(q:Bool)(e:Int):aJ:=bj 54 [(0,dO 4 A),(1,a6 a),(2,a6 b),(3,a6 c),(10,a6 e),(11,.aI (.one (.bg q))),(12,a6 d)] []
theorem az7(h:ad (kg A a f g i e [.b (f==b) true,.b (g==c) true,.b (i==d) true,.n q true,.u a])):
 a7 (ar f324 0) (mr A b c d a q j) .normal (mr A b c d (a+1) true e):=
 h.aY [12,0,1,2,3,11,10] []
theorem az8(h:ad (kg A a g i j c [.b (g==b) true,.b (i==d) true,.b (j==e) true,.n q false,.b (decide (c<f)) true,.u a])):
 a7 (ar f324 0) (mr A b d e a q f) .normal (mr A b d e (a+1) true c):=
 h.aY [12,0,1,2,3,11,10] []
theorem az9(h:ad (kg A a g i j f [.b (g==b) true,.b (i==c) true,.b (j==d) true,.n q false,.b (decide (f<e)) false,.u a])):
 a7 (ar f324 0) (mr A b c d a q e) .normal (mr A b c d (a+1) q e):=
 h.aY [12,0,1,2,3,11,10] []
theorem aAa(h:ad (kg A a f g i j [.b (f==b) true,.b (g==c) true,.b (i==d) false,.u a])):
 a7 (ar f324 0) (mr A b c d a q e) .normal (mr A b c d (a+1) q e):=
 h.aY [12,0,1,2,3,11,10] []
theorem aAb(h:ad (kg A a f g j i [.b (f==b) true,.b (g==c) false,.u a])):
 a7 (ar f324 0) (mr A b c d a q e) .normal (mr A b c d (a+1) q e):=
 h.aY [12,0,1,2,3,11,10] []
theorem aAc(h:ad (kg A a f i j g [.b (f==b) false,.u a])):
 a7 (ar f324 0) (mr A b c d a q e) .normal (mr A b c d (a+1) q e):=
 h.aY [12,0,1,2,3,11,10] []
def TT(a:Int)(q:Bool):aJ:=bj 54 [(10,a6 a),(11,.aI (.one (.bg q)))] []
theorem aAd(h:ad [.f A a false]):
 a7 (ar f324 0) (mr A c d e a q b) (.exit 0) (TT b q):=
 h.aY [10,11] []
theorem aAe(h:ad [.l [] [12,0,1,2,3,11,10] [] (ar f324 0) (mr A a b c 0 false 0) (.exit 0) (TT d q)]):
 al 324 [aC 4 A,ag a,ag b,ag c] [ag d,ai q]:=
 h.of
theorem aAf(h:ad [.b (a==5) true]):
 al 268 [ag a] [ai true]:=
 h.of
theorem aAg(h:ad [.b (a==5) false,.b (a==6) true]):
 al 268 [ag a] [ai true]:=
 h.of
theorem aAh(h:ad [.b (a==5) false,.b (a==6) false]):
 al 268 [ag a] [ai (a==8)]:=
 h.of
theorem aAi(h:ad (He A [.b (a==6) true,.r 306 [aC 4 A,.agg [I b,I c,I d,I e]] [ai q],.b q true])):
 al 269 [ag a,aC 4 A,.agg [I b,I c,I d,I e]] [aC 4 ([]++A),ai false]:=
 h.of
theorem aAj(h:ad (He A [.b (e==6) true,.r 306 [aC 4 A,.agg [I a,I b,I c,I d]] [ai q],.b q false,.r 238 [aC 4 A,.agg [I a,I b,I c,I d]] [aC 4 C]])):
 al 269 [ag e,aC 4 A,.agg [I a,I b,I c,I d]] [aC 4 C,ai true]:=
 h.of
def O8(A:ae)(a:Int)(l:List O):List O:=He A (.b (a==6) false::l)
def O9(A:ae)(a b c d e:Int)(q:Bool)(l:List O):List O:=O8 A a (.b (a==5) true::.b (a==5) true::.r 324 [aC 4 A,ag b,ag c,ag d] [ag e,ai q]::l)
theorem aAk(h:ad (O9 A a b c d f q [.b q true,.b (decide (f<=e)) true])):
 al 269 [ag a,aC 4 A,.agg [I b,I c,I d,I e]] [aC 4 ([]++A),ai false]:=
 h.of
def mu(A:ae)(a b c d e:Int)(C:ae):aJ:=bj 94 [(1,dO 4 A),(5,aR 5),(11,aL.aI (bn.one (aB 48 4 C))),(12,a6 e)] [(5,[au a,au b,au c,au d])]
theorem aAl(h:ad (kg A a g l m n [.b (g != f) true,.x A a [I b,I c,I d,I e],.g C [[I b,I c,I d,I e]] 32,.h [[I b,I c,I d,I e]],.u a])):
 a7 (ar f269 0) (mu A f i j k a C) .normal (mu A f i j k (a+1) (C++[[I b,I c,I d,I e]])):=
 h.aY [12,1,5,11] [5]
theorem aAm(h:ad (kg A a i m n o [.b (i != f) false,.x A a [I p,I j,I a0,I bX],.b (j != g) true,.x A a [I b,I c,I d,I e],.g C [[I b,I c,I d,I e]] 32,.h [[I b,I c,I d,I e]],.u a])):
 a7 (ar f269 0) (mu A f g k l a C) .normal (mu A f g k l (a+1) (C++[[I b,I c,I d,I e]])):=
 h.aY [12,1,5,11] [5]
theorem aAn(h:ad (kg A a j n o p [.b (j != f) false,.x A a [I a0,I k,I bX,I cO],.b (k != g) false,.x A a [I d0,I bu,I l,I f0],.b (l != i) true,.x A a [I b,I c,I d,I e],.g C [[I b,I c,I d,I e]] 32,.h [[I b,I c,I d,I e]],.u a])):
 a7 (ar f269 0) (mu A f g i m a C) .normal (mu A f g i m (a+1) (C++[[I b,I c,I d,I e]])):=
 h.aY [12,1,5,11] [5]
theorem azy(h:ad (kg A a e j k l [.b (e != b) false,.x A a [I m,I f,I n,I o],.b (f != c) false,.x A a [I p,I a0,I g,I bX],.b (g != d) false,.u a])):
 a7 (ar f269 0) (mu A b c d i a C) .normal (mu A b c d i (a+1) C):=
 h.aY [12,1,5,11] [5]
def zq(a b c d:Int)(A:ae):aJ:=bj 94 [(5,aR 5),(11,aL.aI (bn.one (aB 48 4 A)))] [(5,[au a,au b,au c,au d])]
theorem azz(h:ad [.f A e false]):
 a7 (ar f269 0) (mu A a b c d e C) (.exit 1) (zq a b c d C):=
 h.aY [11,5] [5]
theorem azA(h:ad (O9 A e a b c f q [.b q true,.b (decide (f<=d)) false,.l [] [12,1,5,11] [5] (ar f269 0) (mu A a b c d 0 []) (.exit 1) (zq a b c d C),.r 238 [aC 4 C,.agg [I a,I b,I c,I d]] [aC 4 E]])):
 al 269 [ag e,aC 4 A,.agg [I a,I b,I c,I d]] [aC 4 E,ai true]:=
 h.of
theorem azB(h:ad (O9 A d a b c f q [.b q false,.l [] [12,1,5,11] [5] (ar f269 0) (mu A a b c e 0 []) (.exit 1) (zq a b c e C),.r 238 [aC 4 C,.agg [I a,I b,I c,I e]] [aC 4 E]])):
 al 269 [ag d,aC 4 A,.agg [I a,I b,I c,I e]] [aC 4 E,ai true]:=
 h.of
def O'(A:ae)(a b c d e:Int)(q:Bool)(l:List O):List O:=O8 A a (.b (a==5) false::.b (a==8) true::.r 324 [aC 4 A,ag b,ag c,ag d] [ag e,ai q]::l)
theorem azC(h:ad (O' A a b c d f q [.b q true,.b (decide (f<=e)) true])):
 al 269 [ag a,aC 4 A,.agg [I b,I c,I d,I e]] [aC 4 ([]++A),ai false]:=
 h.of
theorem azD(h:ad (O' A e a b c f q [.b q true,.b (decide (f<=d)) false,.l [] [12,1,5,11] [5] (ar f269 0) (mu A a b c d 0 []) (.exit 1) (zq a b c d C),.r 238 [aC 4 C,.agg [I a,I b,I c,I d]] [aC 4 E]])):
 al 269 [ag e,aC 4 A,.agg [I a,I b,I c,I d]] [aC 4 E,ai true]:=
 h.of
theorem azE(h:ad (O' A d a b c f q [.b q false,.l [] [12,1,5,11] [5] (ar f269 0) (mu A a b c e 0 []) (.exit 1) (zq a b c e C),.r 238 [aC 4 C,.agg [I a,I b,I c,I e]] [aC 4 E]])):
 al 269 [ag d,aC 4 A,.agg [I a,I b,I c,I e]] [aC 4 E,ai true]:=
 h.of
theorem azF(h:ad (O8 A a [.b (a==5) false,.b (a==8) false])):
 al 269 [ag a,aC 4 A,.agg [I b,I c,I d,I e]] [aC 4 ([]++A),ai true]:=
 h.of
