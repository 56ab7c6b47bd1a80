import Derived.Test.YtdchjefneblpgaaGreatGE
set_option linter.unusedVariables false
set_option linter.unusedSimpArgs false
namespace Go.Proofs.YtdchjefneblpgaaGreat
open Go.Sx Go.RowKit
variable {a b c d e f g i j k l m : Int} {A C E F G H af K L M N Q R S bb V X Y Z c7 dZ ei e7 e8 e9 ey : ae} {q r s t u v w : Bool}
def Hu(A C:ae)(l:List O):List O:=.b ((A.length:Int) != (C.length:Int)) true::l
theorem ak7(h:ad (Hu A C [])):
 al 229 [aC 5 A,aC 5 C] [ai false]:=
 h.of
def xQ(A C:ae)(a:Int):aJ:=bj 26 [(0,dO 5 A),(1,dO 5 C),(5,a6 a)] []
def N'(q:Bool):aJ:=bj 26 [(4,.aI (.one (.bg q)))] []
theorem amA(h:ad [.i A a (aS e f g i j),.x C a (aS k l b c d),.b (!(e==k&&(f==l&&g==b&&(i==c&&j==d)))) true]):
 a7 (ar Tryz.f229 0) (xQ A C a) .ret (N' false):=
 h.aY [4] []
def PK(A:ae)(a b c d e f:Int)(C:ae)(g i j k m:Int)(l:List O):List O:=.i A a (aS b c d e f)::.x C a (aS g i j k m)::.b (!(b==g&&(c==i&&d==j&&(e==k&&f==m)))) false::.u a::l
theorem amB(h:ad (PK A a e f g i j C k l b c d [])):
 a7 (ar Tryz.f229 0) (xQ A C a) .normal (xQ A C (a+1)):=
 h.aY [5,0,1] []
def VU:aJ:=bj 26 [] []
theorem amC(h:ad [.f A a false]):
 a7 (ar Tryz.f229 0) (xQ A C a) (.exit 0) VU:=
 h.aY [] []
def uo(A C:ae)(l:List O):List O:=.b ((A.length:Int) != (C.length:Int)) false::l
theorem amD(h:ad (uo A C [.l [] [5,0,1] [] (ar Tryz.f229 0) (xQ A C 0) .ret (N' q)])):
 al 229 [aC 5 A,aC 5 C] [ai q]:=
 h.of
theorem amE(h:ad (uo A C [.l [] [5,0,1] [] (ar Tryz.f229 0) (xQ A C 0) (.exit 0) VU])):
 al 229 [aC 5 A,aC 5 C] [ai true]:=
 h.of
theorem amF(h:ad (Hu A C [])):
 al 226 [aC 5 A,aC 5 C] [ai false]:=
 h.of
def xR(A C:ae)(a:Int):aJ:=bj 26 [(0,dO 5 A),(1,dO 5 C),(12,a6 (A.length:Int)),(13,a6 a)] []
def Oa(q:Bool):aJ:=bj 26 [(4,.aI (.one (.bg q)))] []
theorem amG(h:ad [.i A a (aS e f g i j),.x C a (aS k l b c d),.b (!(e==k&&(f==l&&g==b&&(i==c&&j==d)))) true]):
 a7 (ar Tryz.f226 0) (xR A C a) .ret (Oa false):=
 h.aY [4] []
theorem amH(h:ad (PK A a e f g i j C k l b c d [])):
 a7 (ar Tryz.f226 0) (xR A C a) .normal (xR A C (a+1)):=
 h.aY [13,12,0,1] []
def VV:aJ:=bj 26 [] []
theorem amI(h:ad [.f A a false]):
 a7 (ar Tryz.f226 0) (xR A C a) (.exit 0) VV:=
 h.aY [] []
theorem amJ(h:ad (uo A C [.l [] [13,12,0,1] [] (ar Tryz.f226 0) (xR A C 0) .ret (Oa q)])):
 al 226 [aC 5 A,aC 5 C] [ai q]:=
 h.of
theorem amK(h:ad (uo A C [.l [] [13,12,0,1] [] (ar Tryz.f226 0) (xR A C 0) (.exit 0) VV])):
 al 226 [aC 5 A,aC 5 C] [ai true]:=
 h.of
def CK(A C:ae)(a:Int):aJ:=bj 26 [(0,dO 5 A),(1,dO 5 C),(5,a6 a)] []
theorem amL(h:ad (PK A a e f g i j C k l b c d [])):
 a7 (ar Tryz.f37 0) (CK A C a) .normal (CK A C (a+1)):=
 h.aY [5,0,1] []
def Xm:aJ:=bj 26 [] []
theorem amM(h:ad [.f A a false]):
 a7 (ar Tryz.f37 0) (CK A C a) (.exit 0) Xm:=
 h.aY [] []
theorem amN(h:ad (uo A C [.l [] [5,0,1] [] (ar Tryz.f37 0) (CK A C 0) (.exit 0) Xm])):
 al 37 [aC 5 A,aC 5 C] [ai true]:=
 h.of
theorem amO(h:ad [.b ((A.length:Int)==(C.length:Int)) true,.r 165 [aC 5 A] [aC 5 E],.r 165 [aC 5 C] [aC 5 F],.r 229 [aC 5 E,aC 5 F] [ai q]]):
 al 231 [aC 5 A,aC 5 C] [ai q]:=
 h.of
theorem amP(h:ad [.b ((A.length:Int)==(C.length:Int)) false]):
 al 231 [aC 5 A,aC 5 C] [ai false]:=
 h.of
theorem amQ(h:ad [.r 236 [aC 5 A] [aC 5 E],.r 236 [aC 5 C] [aC 5 F],.r 226 [aC 5 E,aC 5 F] [ai q]]):
 al 227 [aC 5 A,aC 5 C] [ai q]:=
 h.of
theorem amR(h:ad [.r 93 [.agg (cl A a b C E F G),.agg [I c,I d,I e]] [.agg (aS f g i j k),ai q],.n q true]):
 al 98 [.agg (cl A a b C E F G),.agg [I c,I d,I e]] [aC 5 []]:=
 h.of
theorem amS(h:ad [.r 93 [.agg (cl A b i C E F G),.agg [I a,I j,I k]] [.agg (aS c d e f g),ai q],.n q false,.b (a==2) true]):
 al 98 [.agg (cl A b i C E F G),.agg [I a,I j,I k]] [.one (.J 5 [(aS c d e f g)])]:=
 h.of
theorem amT(h:ad [.r 93 [.agg (cl A a b C G H af),.agg [I c,I d,I k]] [.agg (aS e f g i j),ai q],.n q false,.b (c==2) false,.x C d (aW K L M E N Q R S),.r 176 [.agg (bA A a b),aC 4 E,.agg (aS e f g i j)] [aC 4 bb,aC 5 F,ai r]]):
 al 98 [.agg (cl A a b C G H af),.agg [I c,I d,I k]] [aC 5 F]:=
 h.of
theorem amU(h:ad [.r 92 [.agg (cl A a b C E F G),.agg [I c,I d,I e]] [.agg (aS f g i j k),ai q],.n q true]):
 al 97 [.agg (cl A a b C E F G),.agg [I c,I d,I e]] [aC 5 []]:=
 h.of
theorem amV(h:ad [.r 92 [.agg (cl A b i C E F G),.agg [I a,I j,I k]] [.agg (aS c d e f g),ai q],.n q false,.b (a==2) true]):
 al 97 [.agg (cl A b i C E F G),.agg [I a,I j,I k]] [.one (.J 5 [(aS c d e f g)])]:=
 h.of
theorem amW(h:ad [.r 92 [.agg (cl A a b C G H af),.agg [I c,I d,I k]] [.agg (aS e f g i j),ai q],.n q false,.b (c==2) false,.x C d (aW K L M E N Q R S),.r 232 [.agg (bA A a b),aC 4 E,.agg (aS e f g i j)] [aC 4 bb,aC 5 F,ai r]]):
 al 97 [.agg (cl A a b C G H af),.agg [I c,I d,I k]] [aC 5 F]:=
 h.of
theorem amX(h:ad (Hu C A [])):
 al 230 [.agg (cl E a d C af K L),.agg (cl M e f A F G H),ag b,ag c] [ai false]:=
 h.of
def pw(A:ae)(a e:Int)(H af K L M:ae)(f g:Int)(C E F G:ae)(b c d:Int):aJ:=bj 52 [(2,a6 b),(3,a6 c),(4,aR 4),(5,aR 5),(9,a6 d)] [(5,[.J .free 4 M,au f,au g,.J .free 8 C,.J .free 6 E,.J .free 5 F,.J .free 3 G]),(4,[.J .free 4 A,au a,au e,.J .free 8 H,.J .free 6 af,.J .free 5 K,.J .free 3 L])]
def CL(q:Bool):aJ:=bj 52 [(8,.aI (.one (.bg q)))] []
def ZN(A:ae)(a:Int)(C E F G H af K L:ae)(b c:Int)(M N P Q R S bb V X:ae)(q:Bool)(l:List O):List O:=.i A a (aW C E F G H af K L)::.b (a==b) true::.b (decide ((F.length:Int)>=c)) true::.p (0<=(some c).getD 0)::.p ((some c).getD 0<=none.getD (F.length:Int))::.p (none.getD (F.length:Int)<=(F.length:Int))::.x M a (aW N P Q R S bb V X)::.r 229 [.one (.J 5 (List.take (F.length-((some c).getD 0).toNat) (List.drop ((some c).getD 0).toNat F))),aC 5 Q] [ai q]::l
theorem amY(h:ad (ZN F b L M A N Q R S bb c a C V X E Y Z c7 dZ ei q [.n q true])):
 a7 (ar Tryz.f230 0) (pw G d e F e7 e8 e9 ey f g C H af K c a b) .ret (CL false):=
 h.aY [8] []
theorem amZ(h:ad (ZN E b R S A bb V X Y Z c a C c7 dZ K ei e7 e8 e9 ey q [.n q false,.u b])):
 a7 (ar Tryz.f230 0) (pw F d e E L M N Q f g C G H af c a b) .normal (pw F d e E L M N Q f g C G H af c a (b+1)):=
 h.aY [9,4,2,3,5] [5,4]
theorem ama(h:ad [.i F a (aW L M A N Q R S bb),.b (a==b) true,.b (decide ((A.length:Int)>=c)) false,.x C a (aW V X E Y Z c7 dZ ei),.r 229 [aC 5 A,aC 5 E] [ai q],.n q true]):
 a7 (ar Tryz.f230 0) (pw G d e F e7 e8 e9 ey f g C H af K b c a) .ret (CL false):=
 h.aY [8] []
theorem amb(h:ad [.i E a (aW R S C bb V X Y Z),.b (a==b) true,.b (decide ((C.length:Int)>=c)) false,.x A a (aW c7 dZ K ei e7 e8 e9 ey),.r 229 [aC 5 C,aC 5 K] [ai q],.n q false,.u a]):
 a7 (ar Tryz.f230 0) (pw F d e E L M N Q f g A G H af b c a) .normal (pw F d e E L M N Q f g A G H af b c (a+1)):=
 h.aY [9,4,2,3,5] [5,4]
theorem amc(h:ad [.i F a (aW L M C N Q R S bb),.b (a==b) false,.x A a (aW V X E Y Z c7 dZ ei),.r 229 [aC 5 C,aC 5 E] [ai q],.n q true]):
 a7 (ar Tryz.f230 0) (pw G c e F e7 e8 e9 ey f g A H af K b d a) .ret (CL false):=
 h.aY [8] []
theorem amd(h:ad [.i C a (aW R S af bb V X Y Z),.b (a==b) false,.x A a (aW c7 dZ K ei e7 e8 e9 ey),.r 229 [aC 5 af,aC 5 K] [ai q],.n q false,.u a]):
 a7 (ar Tryz.f230 0) (pw E c e C L M N Q f g A F G H b d a) .normal (pw E c e C L M N Q f g A F G H b d (a+1)):=
 h.aY [9,4,2,3,5] [5,4]
def Xn:aJ:=bj 52 [] []
theorem ame(h:ad [.f A a false]):
 a7 (ar Tryz.f230 0) (pw C b e A af K L M f g E F G H c d a) (.exit 0) Xn:=
 h.aY [] []
theorem amf(h:ad (uo C A [.l [] [9,4,2,3,5] [5,4] (ar Tryz.f230 0) (pw E a d C af K L M e f A F G H b c 0) .ret (CL q)])):
 al 230 [.agg (cl E a d C af K L),.agg (cl M e f A F G H),ag b,ag c] [ai q]:=
 h.of
theorem amg(h:ad (uo C A [.l [] [9,4,2,3,5] [5,4] (ar Tryz.f230 0) (pw E a d C af K L M e f A F G H b c 0) (.exit 0) Xn])):
 al 230 [.agg (cl E a d C af K L),.agg (cl M e f A F G H),ag b,ag c] [ai true]:=
 h.of
theorem amh(h:ad (Hu C A [])):
 al 225 [.agg (cl E a d C af K L),.agg (cl M e f A F G H),ag b,ag c] [ai false]:=
 h.of
def sG(A:ae)(a b c:Int)(E:ae)(d e:Int)(F G H C:ae):aJ:=bj 45 [(2,a6 a),(3,a6 b),(5,aR 5),(20,dO 8 A),(21,a6 (A.length:Int)),(22,a6 c)] [(5,[.J .free 4 E,au d,au e,.J .free 8 F,.J .free 6 G,.J .free 5 H,.J .free 3 C])]
def Gw(q:Bool):aJ:=bj 45 [(8,.aI (.one (.bg q)))] []
def ZO(A:ae)(a:Int)(C E F G H af K L:ae)(b c:Int)(M N P Q R S bb V X:ae)(q:Bool)(l:List O):List O:=.i A a (aW C E F G H af K L)::.b (a==b) true::.p (0<=(some c).getD 0)::.p ((some c).getD 0<=none.getD (F.length:Int))::.p (none.getD (F.length:Int)<=(F.length:Int))::.x M a (aW N P Q R S bb V X)::.r 226 [.one (.J 5 (List.take (F.length-((some c).getD 0).toNat) (List.drop ((some c).getD 0).toNat F))),aC 5 Q] [ai q]::l
theorem ami(h:ad (ZO E b L M A N Q R S bb c a C V X F Y Z c7 dZ ei q [.n q true])):
 a7 (ar Tryz.f225 0) (sG E c a b G d e C H af K) .ret (Gw false):=
 h.aY [8] []
theorem amj(h:ad (ZO E b L M A N Q R S bb c a C V X K Y Z c7 dZ ei q [.n q false,.u b])):
 a7 (ar Tryz.f225 0) (sG E c a b F d e C G H af) .normal (sG E c a (b+1) F d e C G H af):=
 h.aY [22,21,20,2,3,5] [5]
theorem amk(h:ad [.i E a (aW L M C N Q R S bb),.b (a==b) false,.x A a (aW V X F Y Z c7 dZ ei),.r 226 [aC 5 C,aC 5 F] [ai q],.n q true]):
 a7 (ar Tryz.f225 0) (sG E b c a G d e A H af K) .ret (Gw false):=
 h.aY [8] []
theorem aml(h:ad [.i C a (aW L M af N Q R S bb),.b (a==b) false,.x A a (aW V X K Y Z c7 dZ ei),.r 226 [aC 5 af,aC 5 K] [ai q],.n q false,.u a]):
 a7 (ar Tryz.f225 0) (sG C b c a E d e A F G H) .normal (sG C b c (a+1) E d e A F G H):=
 h.aY [22,21,20,2,3,5] [5]
def Xo:aJ:=bj 45 [] []
theorem amm(h:ad [.f A a false]):
 a7 (ar Tryz.f225 0) (sG A b c a C d e E F G H) (.exit 0) Xo:=
 h.aY [] []
theorem amn(h:ad (uo C A [.l [] [22,21,20,2,3,5] [5] (ar Tryz.f225 0) (sG C a b 0 H c d A E F G) .ret (Gw q)])):
 al 225 [.agg (cl af e f C K L M),.agg (cl H c d A E F G),ag a,ag b] [ai q]:=
 h.of
theorem amo(h:ad (uo C A [.l [] [22,21,20,2,3,5] [5] (ar Tryz.f225 0) (sG C a b 0 H c d A E F G) (.exit 0) Xo])):
 al 225 [.agg (cl af e f C K L M),.agg (cl H c d A E F G),ag a,ag b] [ai true]:=
 h.of
def ZP(A:ae)(a b:Int)(C E F G H af:ae)(c d:Int)(K L M N P:ae)(q:Bool)(l:List O):List O:=.r 38 [.agg (cl A a b C E F G)] [aC 5 H]::.r 38 [.agg (cl af c d K L M N)] [aC 5 P]::.r 229 [aC 5 H,aC 5 P] [ai q]::l
def ZQ(A:ae)(a b:Int)(C E F G H af:ae)(c d:Int)(K L M N P:ae)(q r:Bool)(l:List O):List O:=ZP A a b C E F G H af c d K L M N P q (.b q true::.r 230 [.agg (cl A a b C E F G),.agg (cl af c d K L M N),ag 0,ag 0] [ai r]::l)
theorem amp(h:ad (ZQ A a b H af K L N M c d C E F G Q q r [.b r true])):
 al 96 [.agg (cl A a b H af K L),.agg (cl M c d C E F G),.agg [I e,I f,I g]] [ag 0]:=
 h.of
def Hv(A:ae)(a b:Int)(C E F G H af:ae)(c d:Int)(K L M N P:ae)(q r:Bool)(e f g i j k m n:Int)(s:Bool)(l:List O):List O:=ZQ A a b C E F G H af c d K L M N P q r (.b r false::.r 93 [.agg (cl A a b C E F G),.agg [I e,I f,I g]] [.agg (aS i j k m n),ai s]::l)
def PL(A:ae)(a b:Int)(C E F G H af:ae)(c d:Int)(K L M N P:ae)(q r:Bool)(e f g i j k m n:Int)(s t:Bool)(l:List O):List O:=Hv A a b C E F G H af c d K L M N P q r e f g i j k m n s (.b s true::.b (e==2) true::.r 230 [.agg (cl A a b C E F G),.agg (cl af c d K L M N),ag f,ag 1] [ai t]::l)
def PM(A:ae)(a b:Int)(C E F G H af:ae)(c d:Int)(K L M N P:ae)(q r:Bool)(e f g i j k m n:Int)(s t u:Bool)(l:List O):List O:=PL A a b C E F G H af c d K L M N P q r e f g i j k m n s t (.b t true::.g H [(aS i j k m n)] 40::.h [(aS i j k m n)]::.r 231 [aC 5 (H++[(aS i j k m n)]),aC 5 P] [ai u]::l)
theorem amq(h:ad (PM A a b C E F G M N i j H af K L Q q r k l m c d e f g s t u [.b u true])):
 al 96 [.agg (cl A a b C E F G),.agg (cl N i j H af K L),.agg [I k,I l,I m]] [ag 1]:=
 h.of
theorem amr(h:ad (PM A a b C E F G N M c d H af K L Q r s e l m f g i j k q t u [.b u false,.b q true,.b (e==1) true,.r 230 [.agg (cl A a b C E F G),.agg (cl M c d H af K L),ag 0,ag 0] [ai v],.b v false])):
 al 96 [.agg (cl A a b C E F G),.agg (cl M c d H af K L),.agg [I e,I l,I m]] [ag 3]:=
 h.of
theorem ams(h:ad (PM A a b C E F G M N j k H af K L Q r s c l m d e f g i q t u [.b u false,.b q true,.b (c==1) false])):
 al 96 [.agg (cl A a b C E F G),.agg (cl N j k H af K L),.agg [I c,I l,I m]] [ag 3]:=
 h.of
theorem amt(h:ad (PL A a b C E F G N M c d H af K L Q r s e f g i j k l m q t [.b t false,.b q true,.b (e==1) true,.r 230 [.agg (cl A a b C E F G),.agg (cl M c d H af K L),ag 0,ag 0] [ai u],.b u false])):
 al 96 [.agg (cl A a b C E F G),.agg (cl M c d H af K L),.agg [I e,I f,I g]] [ag 3]:=
 h.of
theorem amu(h:ad (PL A a b C E F G N M d e H af K L Q r s c f g i j k l m q t [.b t false,.b q true,.b (c==1) false])):
 al 96 [.agg (cl A a b C E F G),.agg (cl M d e H af K L),.agg [I c,I f,I g]] [ag 3]:=
 h.of
theorem amv(h:ad (Hv A a b C E F G N M d e H af K L Q r s c f g i j k l m q [.b q true,.b (c==2) false,.b q true,.b (c==1) true,.r 230 [.agg (cl A a b C E F G),.agg (cl M d e H af K L),ag 0,ag 0] [ai t],.b t false])):
 al 96 [.agg (cl A a b C E F G),.agg (cl M d e H af K L),.agg [I c,I f,I g]] [ag 3]:=
 h.of
theorem amw(h:ad (Hv A a c C E F G N M d e H af K L Q r s b f g i j k l m q [.b q true,.b (b==2) false,.b q true,.b (b==1) false])):
 al 96 [.agg (cl A a c C E F G),.agg (cl M d e H af K L),.agg [I b,I f,I g]] [ag 3]:=
 h.of
theorem amx(h:ad (Hv A a b C E F G N M c d H af K L Q r s e f g i j k l m q [.b q false,.b q false])):
 al 96 [.agg (cl A a b C E F G),.agg (cl M c d H af K L),.agg [I e,I f,I g]] [ag 3]:=
 h.of
def Hw(A:ae)(a b:Int)(C E F G H af:ae)(c d:Int)(K L M N P:ae)(q:Bool)(e f g i j k m n:Int)(r:Bool)(l:List O):List O:=ZP A a b C E F G H af c d K L M N P q (.b q false::.r 93 [.agg (cl A a b C E F G),.agg [I e,I f,I g]] [.agg (aS i j k m n),ai r]::l)
def PN(A:ae)(a b:Int)(C E F G H af:ae)(c d:Int)(K L M N P:ae)(q:Bool)(e f g i j k m n:Int)(r s:Bool)(l:List O):List O:=Hw A a b C E F G H af c d K L M N P q e f g i j k m n r (.b r true::.b (e==2) true::.r 230 [.agg (cl A a b C E F G),.agg (cl af c d K L M N),ag f,ag 1] [ai s]::l)
def PO(A:ae)(a b:Int)(C E F G H af:ae)(c d:Int)(K L M N P:ae)(q:Bool)(e f g i j k m n:Int)(r s t:Bool)(l:List O):List O:=PN A a b C E F G H af c d K L M N P q e f g i j k m n r s (.b s true::.g H [(aS i j k m n)] 40::.h [(aS i j k m n)]::.r 231 [aC 5 (H++[(aS i j k m n)]),aC 5 P] [ai t]::l)
theorem amy(h:ad (PO A a b E F G H C Q k l af K L M N q i j m c d e f g r s t [.b t true])):
 al 96 [.agg (cl A a b E F G H),.agg (cl Q k l af K L M),.agg [I i,I j,I m]] [ag 1]:=
 h.of
def PQ(A:ae)(a b:Int)(C E F G H af:ae)(c d:Int)(K L M N P:ae)(q:Bool)(e f g i j k m n:Int)(r s t u:Bool)(l:List O):List O:=PO A a b C E F G H af c d K L M N P q e f g i j k m n r s t (.b t false::.b r true::.b (e==1) true::.r 230 [.agg (cl A a b C E F G),.agg (cl af c d K L M N),ag 0,ag 0] [ai u]::l)
theorem amz(h:ad (PQ A a b C E F G H R k l af K L M N r c j m d e f g i q s t u [.b u true,.r 100 [aC 5 H,.agg (aS d e f g i)] [aC 5 S],.r 98 [.agg (cl A a b C E F G),.agg [I c,I j,I m]] [aC 5 Q],.g S Q 40,.h Q,.r 231 [aC 5 (S++Q),aC 5 N] [ai v],.b v true])):
 al 96 [.agg (cl A a b C E F G),.agg (cl R k l af K L M),.agg [I c,I j,I m]] [ag 2]:=
 h.of
theorem al0(h:ad (PQ A a b C E F G H R k l af K L M N r c j m d e f g i q s t u [.b u true,.r 100 [aC 5 H,.agg (aS d e f g i)] [aC 5 S],.r 98 [.agg (cl A a b C E F G),.agg [I c,I j,I m]] [aC 5 Q],.g S Q 40,.h Q,.r 231 [aC 5 (S++Q),aC 5 N] [ai v],.b v false])):
 al 96 [.agg (cl A a b C E F G),.agg (cl R k l af K L M),.agg [I c,I j,I m]] [ag 3]:=
 h.of
theorem al1(h:ad (PQ A a b C E F G M N j k H af K L Q r c l m d e f g i q s t u [.b u false])):
 al 96 [.agg (cl A a b C E F G),.agg (cl N j k H af K L),.agg [I c,I l,I m]] [ag 3]:=
 h.of
theorem al2(h:ad (PO A a c E F G H C Q k l af K L M N r b j m d e f g i q s t [.b t false,.b q true,.b (b==1) false])):
 al 96 [.agg (cl A a c E F G H),.agg (cl Q k l af K L M),.agg [I b,I j,I m]] [ag 3]:=
 h.of
def PR(A:ae)(a b:Int)(C E F G H af:ae)(c d:Int)(K L M N P:ae)(q:Bool)(e f g i j k m n:Int)(r s t:Bool)(l:List O):List O:=PN A a b C E F G H af c d K L M N P q e f g i j k m n r s (.b s false::.b r true::.b (e==1) true::.r 230 [.agg (cl A a b C E F G),.agg (cl af c d K L M N),ag 0,ag 0] [ai t]::l)
theorem al3(h:ad (PR A a b C E F G Q N e f H af K L R r c d g i j k l m q s t [.b t true,.r 100 [aC 5 Q,.agg (aS i j k l m)] [aC 5 S],.r 98 [.agg (cl A a b C E F G),.agg [I c,I d,I g]] [aC 5 M],.g S M 40,.h M,.r 231 [aC 5 (S++M),aC 5 R] [ai u],.b u true])):
 al 96 [.agg (cl A a b C E F G),.agg (cl N e f H af K L),.agg [I c,I d,I g]] [ag 2]:=
 h.of
theorem al4(h:ad (PR A a b C E F G Q N e f H af K L R r c d g i j k l m q s t [.b t true,.r 100 [aC 5 Q,.agg (aS i j k l m)] [aC 5 S],.r 98 [.agg (cl A a b C E F G),.agg [I c,I d,I g]] [aC 5 M],.g S M 40,.h M,.r 231 [aC 5 (S++M),aC 5 R] [ai u],.b u false])):
 al 96 [.agg (cl A a b C E F G),.agg (cl N e f H af K L),.agg [I c,I d,I g]] [ag 3]:=
 h.of
theorem al5(h:ad (PR A a b C E F G N M d e H af K L Q r c f g i j k l m q s t [.b t false])):
 al 96 [.agg (cl A a b C E F G),.agg (cl M d e H af K L),.agg [I c,I f,I g]] [ag 3]:=
 h.of
theorem al6(h:ad (PN A a c C E F G N M e f H af K L Q r b d g i j k l m q s [.b s false,.b q true,.b (b==1) false])):
 al 96 [.agg (cl A a c C E F G),.agg (cl M e f H af K L),.agg [I b,I d,I g]] [ag 3]:=
 h.of
def PS(A:ae)(a b:Int)(C E F G H af:ae)(c d:Int)(K L M N P:ae)(q:Bool)(e f g i j k m n:Int)(r s:Bool)(l:List O):List O:=Hw A a b C E F G H af c d K L M N P q e f g i j k m n r (.b r true::.b (e==2) false::.b r true::.b (e==1) true::.r 230 [.agg (cl A a b C E F G),.agg (cl af c d K L M N),ag 0,ag 0] [ai s]::l)
theorem al7(h:ad (PS A a c C E F G N S f g af K L M Q r b d e i j k l m q s [.b s true,.r 100 [aC 5 N,.agg (aS i j k l m)] [aC 5 R],.r 98 [.agg (cl A a c C E F G),.agg [I b,I d,I e]] [aC 5 H],.g R H 40,.h H,.r 231 [aC 5 (R++H),aC 5 Q] [ai t],.b t true])):
 al 96 [.agg (cl A a c C E F G),.agg (cl S f g af K L M),.agg [I b,I d,I e]] [ag 2]:=
 h.of
theorem al8(h:ad (PS A a c C E F G N S f g af K L M Q r b d e i j k l m q s [.b s true,.r 100 [aC 5 N,.agg (aS i j k l m)] [aC 5 R],.r 98 [.agg (cl A a c C E F G),.agg [I b,I d,I e]] [aC 5 H],.g R H 40,.h H,.r 231 [aC 5 (R++H),aC 5 Q] [ai t],.b t false])):
 al 96 [.agg (cl A a c C E F G),.agg (cl S f g af K L M),.agg [I b,I d,I e]] [ag 3]:=
 h.of
theorem al9(h:ad (PS A a c C E F G N M d e H af K L Q r b f g i j k l m q s [.b s false])):
 al 96 [.agg (cl A a c C E F G),.agg (cl M d e H af K L),.agg [I b,I f,I g]] [ag 3]:=
 h.of
theorem anD(h:ad (Hw A b c C E F G M Q f g H af K L N r a d e i j k l m q [.b q true,.b (a==2) false,.b q true,.b (a==1) false])):
 al 96 [.agg (cl A b c C E F G),.agg (cl Q f g H af K L),.agg [I a,I d,I e]] [ag 3]:=
 h.of
theorem anE(h:ad (Hw A a b C E F G M Q f g H af K L N r c d e i j k l m q [.b q false,.b q false])):
 al 96 [.agg (cl A a b C E F G),.agg (cl Q f g H af K L),.agg [I c,I d,I e]] [ag 3]:=
 h.of
def x9(A:ae)(a b:Int)(C E F G H af:ae)(c d:Int)(K L M N P:ae)(e f g i j k m n:Int)(q r:Bool)(l:List O):List O:=.r 103 [.agg (cl A a b C E F G)] [aC 5 H]::.r 103 [.agg (cl af c d K L M N)] [aC 5 P]::.r 92 [.agg (cl A a b C E F G),.agg [I e,I f,I g]] [.agg (aS i j k m n),ai q]::.r 225 [.agg (cl A a b C E F G),.agg (cl af c d K L M N),ag (-1),ag 0] [ai r]::l
def Dl(A:ae)(a b:Int)(C E F G H af:ae)(c d:Int)(K L M N P:ae)(e f g i j k m n:Int)(q r s:Bool)(l:List O):List O:=x9 A a b C E F G H af c d K L M N P e f g i j k m n q r (.b r true::.r 226 [aC 5 H,aC 5 P] [ai s]::l)
theorem anF(h:ad (Dl A a b C E F G N M c d H af K L Q e f g i j k l m s q r [.b r true])):
 al 88 [.agg (cl A a b C E F G),.agg (cl M c d H af K L),.agg [I e,I f,I g]] [ag 0]:=
 h.of
def Dn(A:ae)(a b:Int)(C E F G H af:ae)(c d:Int)(K L M N P:ae)(e f g i j k m n:Int)(q r s:Bool)(l:List O):List O:=Dl A a b C E F G H af c d K L M N P e f g i j k m n q r s (.b s false::.b (e==2) true::l)
def P0(A:ae)(a b:Int)(C E F G H af:ae)(c d:Int)(K L M N P:ae)(e f g i j k m n:Int)(q r s t:Bool)(l:List O):List O:=Dn A a b C E F G H af c d K L M N P e f g i j k m n q r s (.b q true::.r 225 [.agg (cl A a b C E F G),.agg (cl af c d K L M N),ag f,ag 1] [ai t]::l)
def P1(A:ae)(a b:Int)(C E F G H af:ae)(c d:Int)(K L M N P:ae)(e f g i j k m n:Int)(q r s t u:Bool)(l:List O):List O:=P0 A a b C E F G H af c d K L M N P e f g i j k m n q r s t (.b t true::.g H [(aS i j k m n)] 40::.h [(aS i j k m n)]::.r 227 [aC 5 P,aC 5 (H++[(aS i j k m n)])] [ai u]::l)
theorem anG(h:ad (P1 A a b C E F G M N i j H af K L Q k l m c d e f g q r s t u [.b u true])):
 al 88 [.agg (cl A a b C E F G),.agg (cl N i j H af K L),.agg [I k,I l,I m]] [ag 1]:=
 h.of
def Z5(A:ae)(a b:Int)(C E F G H af:ae)(c d:Int)(K L M N P:ae)(e f g i j k m n:Int)(q r s t u v:Bool)(Q R:ae)(w:Bool)(l:List O):List O:=P1 A a b C E F G H af c d K L M N P e f g i j k m n q r s t u (.b u false::.b (e==1) true::.b q true::.r 225 [.agg (cl A a b C E F G),.agg (cl af c d K L M N),ag (-1),ag 0] [ai v]::.b v true::.r 99 [aC 5 H,.agg (aS i j k m n)] [aC 5 Q]::.r 97 [.agg (cl A a b C E F G),.agg [I e,I f,I g]] [aC 5 R]::.g Q R 40::.h R::.r 227 [aC 5 P,aC 5 (Q++R)] [ai w]::l)
theorem anH(h:ad (Z5 A a b C E F G M N j k H af K L Q c l m d e f g i q r s t u v S R w [.b w true])):
 al 88 [.agg (cl A a b C E F G),.agg (cl N j k H af K L),.agg [I c,I l,I m]] [ag 2]:=
 h.of
theorem anI(h:ad (Z5 A a b C E F G M N j k H af K L Q c l m d e f g i q r s t u v S R w [.b w false])):
 al 88 [.agg (cl A a b C E F G),.agg (cl N j k H af K L),.agg [I c,I l,I m]] [ag 3]:=
 h.of
theorem anJ(h:ad (P1 A a b C E F G M N j k H af K L Q c l m d e f g i q r s t u [.b u false,.b (c==1) false])):
 al 88 [.agg (cl A a b C E F G),.agg (cl N j k H af K L),.agg [I c,I l,I m]] [ag 3]:=
 h.of
def Z6(A:ae)(a b:Int)(C E F G H af:ae)(c d:Int)(K L M N P:ae)(e f g i j k m n:Int)(q r s t u:Bool)(Q R:ae)(v:Bool)(l:List O):List O:=P0 A a b C E F G H af c d K L M N P e f g i j k m n q r s t (.b t false::.b (e==1) true::.b q true::.r 225 [.agg (cl A a b C E F G),.agg (cl af c d K L M N),ag (-1),ag 0] [ai u]::.b u true::.r 99 [aC 5 H,.agg (aS i j k m n)] [aC 5 Q]::.r 97 [.agg (cl A a b C E F G),.agg [I e,I f,I g]] [aC 5 R]::.g Q R 40::.h R::.r 227 [aC 5 P,aC 5 (Q++R)] [ai v]::l)
theorem anK(h:ad (Z6 A a b C E F G Q M d e H af K L R c f g i j k l m q r s t u S N v [.b v true])):
 al 88 [.agg (cl A a b C E F G),.agg (cl M d e H af K L),.agg [I c,I f,I g]] [ag 2]:=
 h.of
theorem anL(h:ad (Z6 A a b C E F G Q M d e H af K L R c f g i j k l m q r s t u S N v [.b v false])):
 al 88 [.agg (cl A a b C E F G),.agg (cl M d e H af K L),.agg [I c,I f,I g]] [ag 3]:=
 h.of
theorem anM(h:ad (P0 A a b C E F G N M d e H af K L Q c f g i j k l m q r s t [.b t false,.b (c==1) false])):
 al 88 [.agg (cl A a b C E F G),.agg (cl M d e H af K L),.agg [I c,I f,I g]] [ag 3]:=
 h.of
theorem anN(h:ad (Dn A a c C E F G N M d e H af K L Q b f g i j k l m q r s [.b q false,.b (b==1) true,.b q false])):
 al 88 [.agg (cl A a c C E F G),.agg (cl M d e H af K L),.agg [I b,I f,I g]] [ag 3]:=
 h.of
theorem anO(h:ad (Dn A a c C E F G N M d e H af K L Q b f g i j k l m q r s [.b q false,.b (b==1) false])):
 al 88 [.agg (cl A a c C E F G),.agg (cl M d e H af K L),.agg [I b,I f,I g]] [ag 3]:=
 h.of
def Z7(A:ae)(a b:Int)(C E F G H af:ae)(c d:Int)(K L M N P:ae)(e f g i j k m n:Int)(q r s t:Bool)(Q R:ae)(u:Bool)(l:List O):List O:=Dl A a b C E F G H af c d K L M N P e f g i j k m n q r s (.b s false::.b (e==2) false::.b (e==1) true::.b q true::.r 225 [.agg (cl A a b C E F G),.agg (cl af c d K L M N),ag (-1),ag 0] [ai t]::.b t true::.r 99 [aC 5 H,.agg (aS i j k m n)] [aC 5 Q]::.r 97 [.agg (cl A a b C E F G),.agg [I e,I f,I g]] [aC 5 R]::.g Q R 40::.h R::.r 227 [aC 5 P,aC 5 (Q++R)] [ai u]::l)
theorem anP(h:ad (Z7 A a b C E F G Q N d e H af K L R c f g i j k l m q r s t S M u [.b u true])):
 al 88 [.agg (cl A a b C E F G),.agg (cl N d e H af K L),.agg [I c,I f,I g]] [ag 2]:=
 h.of
theorem anQ(h:ad (Z7 A a b C E F G Q N d e H af K L R c f g i j k l m q r s t S M u [.b u false])):
 al 88 [.agg (cl A a b C E F G),.agg (cl N d e H af K L),.agg [I c,I f,I g]] [ag 3]:=
 h.of
theorem anR(h:ad (Dl A a c C E F G N M d e H af K L Q b f g i j k l m q r s [.b s false,.b (b==2) false,.b (b==1) true,.b q false])):
 al 88 [.agg (cl A a c C E F G),.agg (cl M d e H af K L),.agg [I b,I f,I g]] [ag 3]:=
 h.of
theorem anS(h:ad (Dl A a c C E F G N M d e H af K L Q b f g i j k l m s q r [.b r false,.b (b==2) false,.b (b==1) false])):
 al 88 [.agg (cl A a c C E F G),.agg (cl M d e H af K L),.agg [I b,I f,I g]] [ag 3]:=
 h.of
def P2(A:ae)(a b:Int)(C E F G H af:ae)(c d:Int)(K L M N P:ae)(e f g i j k m n:Int)(q r s:Bool)(l:List O):List O:=x9 A a b C E F G H af c d K L M N P e f g i j k m n q r (.b r false::.b (e==2) true::.b q true::.r 225 [.agg (cl A a b C E F G),.agg (cl af c d K L M N),ag f,ag 1] [ai s]::l)
def P3(A:ae)(a b:Int)(C E F G H af:ae)(c d:Int)(K L M N P:ae)(e f g i j k m n:Int)(q r s t:Bool)(l:List O):List O:=P2 A a b C E F G H af c d K L M N P e f g i j k m n q r s (.b s true::.g H [(aS i j k m n)] 40::.h [(aS i j k m n)]::.r 227 [aC 5 P,aC 5 (H++[(aS i j k m n)])] [ai t]::l)
theorem anT(h:ad (P3 A a b C E F G N M i j H af K L Q k l m c d e f g q r s t [.b t true])):
 al 88 [.agg (cl A a b C E F G),.agg (cl M i j H af K L),.agg [I k,I l,I m]] [ag 1]:=
 h.of
theorem anU(h:ad (P3 A a b C E F G N M c d H af K L Q e l m f g i j k q r s t [.b t false,.b (e==1) true,.b q true,.r 225 [.agg (cl A a b C E F G),.agg (cl M c d H af K L),ag (-1),ag 0] [ai u],.b u false])):
 al 88 [.agg (cl A a b C E F G),.agg (cl M c d H af K L),.agg [I e,I l,I m]] [ag 3]:=
 h.of
theorem anV(h:ad (P3 A a b C E F G N M j k H af K L Q c l m d e f g i q r s t [.b t false,.b (c==1) false])):
 al 88 [.agg (cl A a b C E F G),.agg (cl M j k H af K L),.agg [I c,I l,I m]] [ag 3]:=
 h.of
theorem anW(h:ad (P2 A a b C E F G N M c d H af K L Q e f g i j k l m q r s [.b s false,.b (e==1) true,.b q true,.r 225 [.agg (cl A a b C E F G),.agg (cl M c d H af K L),ag (-1),ag 0] [ai t],.b t false])):
 al 88 [.agg (cl A a b C E F G),.agg (cl M c d H af K L),.agg [I e,I f,I g]] [ag 3]:=
 h.of
theorem anX(h:ad (P2 A a b C E F G N M d e H af K L Q c f g i j k l m q r s [.b s false,.b (c==1) false])):
 al 88 [.agg (cl A a b C E F G),.agg (cl M d e H af K L),.agg [I c,I f,I g]] [ag 3]:=
 h.of
theorem anY(h:ad (x9 A a c C E F G N M d e H af K L Q b f g i j k l m q r [.b r false,.b (b==2) true,.b q false,.b (b==1) true,.b q false])):
 al 88 [.agg (cl A a c C E F G),.agg (cl M d e H af K L),.agg [I b,I f,I g]] [ag 3]:=
 h.of
theorem anZ(h:ad (x9 A a c C E F G N M d e H af K L Q b f g i j k l m q r [.b r false,.b (b==2) true,.b q false,.b (b==1) false])):
 al 88 [.agg (cl A a c C E F G),.agg (cl M d e H af K L),.agg [I b,I f,I g]] [ag 3]:=
 h.of
theorem an0(h:ad (x9 A a b C E F G N M d e H af K L Q c f g i j k l m q r [.b r false,.b (c==2) false,.b (c==1) true,.b q true,.r 225 [.agg (cl A a b C E F G),.agg (cl M d e H af K L),ag (-1),ag 0] [ai s],.b s false])):
 al 88 [.agg (cl A a b C E F G),.agg (cl M d e H af K L),.agg [I c,I f,I g]] [ag 3]:=
 h.of
theorem an1(h:ad (x9 A a c C E F G N M d e H af K L Q b f g i j k l m q r [.b r false,.b (b==2) false,.b (b==1) true,.b q false])):
 al 88 [.agg (cl A a c C E F G),.agg (cl M d e H af K L),.agg [I b,I f,I g]] [ag 3]:=
 h.of
theorem an2(h:ad (x9 A a c C E F G N M d e H af K L Q b f g i j k l m r q [.b q false,.b (b==2) false,.b (b==1) false])):
 al 88 [.agg (cl A a c C E F G),.agg (cl M d e H af K L),.agg [I b,I f,I g]] [ag 3]:=
 h.of
theorem ana(h:ad [.b q true,.b (a==2) true]):
 al 101 [.agg [I a,I b,I c],ai q] [ag 1]:=
 h.of
def HC(q:Bool)(a:Int)(l:List O):List O:=.b q true::.b (a==2) false::.b q true::l
theorem anb(h:ad (HC q a [.b (a==1) true])):
 al 101 [.agg [I a,I b,I c],ai q] [ag 2]:=
 h.of
theorem anc(h:ad (HC q a [.b (a==1) false])):
 al 101 [.agg [I a,I b,I c],ai q] [ag 0]:=
 h.of
theorem ane(h:ad [.b q false,.b q false]):
 al 101 [.agg [I a,I b,I c],ai q] [ag 0]:=
 h.of
theorem anf(h:ad [.b q true,.b (a==2) true]):
 al 89 [.agg [I a,I b,I c],ai q] [ag 1]:=
 h.of
theorem ang(h:ad (HC q a [.b (a==1) true])):
 al 89 [.agg [I a,I b,I c],ai q] [ag 2]:=
 h.of
theorem anh(h:ad (HC q a [.b (a==1) false])):
 al 89 [.agg [I a,I b,I c],ai q] [ag 0]:=
 h.of
theorem ani(h:ad [.b q false,.b q false]):
 al 89 [.agg [I a,I b,I c],ai q] [ag 0]:=
 h.of
