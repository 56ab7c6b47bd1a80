import Derived.Test.YtdchjefneblpgaaGE
set_option linter.unusedVariables false
set_option linter.unusedSimpArgs false
namespace Go.Proofs.Ytdchjefneblpgaa
open Go.Sx Go.RowKit Go.Proofs.Try
variable {a b c d e f g i j k l m n o p a0 cm dH d0 b8 f0 i0 j0 et fO m0 : Int} {A C E F G H kl K L M N : aE} {q r s t u v w x y z mf : Bool}
theorem adw(h:al [.w A i j k,.w A l m a,.w A b c d,.w A e f g,.k A 48 n o i j 3 k,.k A 48 i j l m 2 a,.k A 48 l m b c 4 d,.k A 48 b c e f 5 g]):
 dx 64 [ba.cur [D.aa 1 A,I n,I o] [D.aa 1 A,I e,I f]] (bd.vals [.agg [I k,I a,I d,I g]]):=
 h.dB
def uz(A:aE)(a:Int)(C:aE)(b c:Int):aG:=bR 24 [(0,bC 1000000000),(3,az.aN (bi.one (bU 3 4 C))),(4,bB a)] [(1000000000,[.dL 1000000100 1 A,aS b,aS c])]
theorem adx(h:al [.w A j k b,.k A 48 l m j k 9 b,.b (decide (a<b)) true,.a (.eI [some [D.aa 1 A,I c,I d]] (bd.vals [.agg [I e,I f,I g,I i]])),.p (cv prog 64 [ba.cur [D.aa 1 A,I j,I k] [D.aa 1 A,I c,I d]] (bd.vals [.agg [I e,I f,I g,I i]])),.r 63 [aB 4 E,.agg [I e,I f,I g,I i]] [aB 4 C],.u a]):
 bp (aF f41 0) (uz A a E l m) .normal (uz A (a+1) C c d):=
 h.yt [(3,3,4)] [4,0,3] [1000000000]
def zU(A C:aE)(a b:Int):aG:=bR 24 [(0,bC 1000000000),(3,az.aN (bi.one (bU 3 4 C)))] [(1000000000,[.dL 1000000100 1 A,aS a,aS b])]
theorem ady(h:al [.w A b c a,.k A 48 e f b c 9 a,.b (decide (d<a)) false]):
 bp (aF f41 0) (uz A d C e f) (.exit 0) (zU A C b c):=
 h.bu [0,3] [1000000000]
theorem adz(h:al [.l [(3,3,4)] [4,0,3] [1000000000] (aF f41 0) (uz A 0 [] j k) (.exit 0) (zU A C l m),.y A g i q,.m A 42 l m g i 10 q,.b q true,.a (.eI [some [D.aa 1 A,I e,I f]] (bd.vals [.agg [I a,I b,I c,I d]])),.p (cv prog 64 [ba.cur [D.aa 1 A,I g,I i] [D.aa 1 A,I e,I f]] (bd.vals [.agg [I a,I b,I c,I d]])),.g C [[I a,I b,I c,I d]] 32,.h [[I a,I b,I c,I d]]]):
 dx 41 [ba.cur [D.aa 1 A,I j,I k] [D.aa 1 A,I e,I f]] (bd.vals [aB 4 (C++[[I a,I b,I c,I d]])]):=
 h.dB
theorem adA(h:al [.l [(3,3,4)] [4,0,3] [1000000000] (aF f41 0) (uz A 0 [] c d) (.exit 0) (zU A C e f),.y A a b q,.m A 42 e f a b 10 q,.b q false]):
 dx 41 [ba.cur [D.aa 1 A,I c,I d] [D.aa 1 A,I a,I b]] (bd.vals [aB 4 C]):=
 h.dB
def Fg(C F:aE)(k l:Int)(q:Bool)(E:aE)(f g:Int)(A:aE)(r:Bool)(i j a b c d e:Int):aG:=bR 30 [(0,eB 1 C),(2,bC 2),(3,bB 0),(4,.aN (.one (.v (bE)))),(5,bC 9),(6,bC 6),(7,az.aN (bi.one (bU 180000 5 (A++[(bx a b c d e)])))),(8,eB 1 C),(9,bC 9),(10,bC 9),(11,az.aN (bi.agg [bU 120000 4 F,aS k,aS l])),(12,bC 9),(13,.aN (.one (.bP q))),(14,bC 9),(15,az.aN (bi.agg [bU 160000 4 E,aS f,aS g])),(16,bC 9),(17,.aN (.one (.aa (Tag.ro 180000) 5 A))),(18,bC 9),(19,.aN (.one (.bP r))),(20,.aN (.one (.aa (Tag.ro 180000) 5 A))),(21,bC 9),(22,az.aN (bi.agg [aS a,aS b,aS c,aS d,aS e])),(23,.aN (.one (.aa (.own 23) 5 [(bx a b c d e)]))),(24,az.aN (bi.one (bU 180000 5 (A++[(bx a b c d e)]))))] [(6,[bU 160000 4 E,aS f,aS g]),(9,[.aa .free 1 C,aS i,aS j]),(2,[.v (bE),aS 0,aS 0])]
def Fh(P:Program)(W:Array Oper)(A F:aE)(n o:Int)(q:Bool)(C:aE)(a b:Int)(E:aE)(r:Bool)(c d e f g i j k l m:Int):aG:=
 sS P W [[],[],[.eI [some [D.aa 1 A,I k,I l],none] (bd.vals [ao m])],[],[],[],[],[]] (Fg A F n o q C a b E r c d e f g i j)
theorem adB{A F:aE}{n o:Int}{q:Bool}{C:aE}{d e:Int}{E:aE}{r:Bool}{a b f g i j k l m c:Int}
  (h:cn [cv prog 48 [ba.cur [D.aa 1 A,I a,I b] [D.aa 1 A,I l,I m],ba.ro (ao 5)] (bd.vals [ao c]),ap .i64 (c-1)]):
  gF prog (ev f28 8) (Fg A F n o q C d e E r a b f g i j k) (Fh prog (ev f28 8) A F n o q C d e E r a b f g i j k l m c):=
 .tK [0,0,1,1,0,0,0,0] h
def Nu(A:aE)(a b:Int)(l:List O):List O:=.a (.eI [none] (bd.gW [some 0,none,none] [D.aa 1 A,I a,I b]))::l
def Nv(A:aE)(a b c d:Int)(C:aE)(e f g i:Int)(q:Bool)(l:List O):List O:=Nu A a b (.a (.eI [some [D.aa 1 A,I c,I d]] (bd.vals [.agg (bj C e f)]))::.y A g i q::.p (cv prog 40 [ba.ro (aB 1 A)] (bd.gW [some 0,none,none] [D.aa 1 A,I a,I b]))::.p (cv prog 44 [ba.cur [D.aa 1 A,I a,I b] [D.aa 1 A,I c,I d]] (bd.vals [.agg (bj C e f)]))::.m A 42 c d g i 10 q::l)
def Nw(A:aE)(a b c d:Int)(C:aE)(e f g i:Int)(q:Bool)(j k:Int)(E:aE)(m n o p:Int)(F:aE)(dy fU:Int)(r:Bool)(l:List O):List O:=Nv A a b c d C e f g i q (.b q true::.a (.eI [some [D.aa 1 A,I j,I k]] (bd.vals [.agg (bj E m n)]))::.a (.eI [some [D.aa 1 A,I o,I p]] (bd.vals [aB 5 F]))::.y A dy fU r::.p (cv prog 45 [ba.cur [D.aa 1 A,I g,I i] [D.aa 1 A,I j,I k]] (bd.vals [.agg (bj E m n)]))::.p (cv prog 46 [ba.cur [D.aa 1 A,I j,I k] [D.aa 1 A,I o,I p]] (bd.vals [aB 5 F]))::.m A 42 o p dy fU 6 r::l)
theorem adC(h:al (Nw A a0 f0 j0 et F k l m n q o p E f g cm dH C d0 b8 r [.b r true,.a (.eI [some [D.aa 1 A,I i,I j]] (bd.vals [.agg (bx a b c d e)])),.a (.nU (Fh prog (ev f28 8) A F k l q E f g C r i j a b c d e fO m0 i0)),.p (cv prog 47 [ba.cur [D.aa 1 A,I d0,I b8] [D.aa 1 A,I i,I j]] (bd.vals [.agg (bx a b c d e)])),.g C [(bx a b c d e)] 40,.h [(bx a b c d e)],.p (gF prog (ev f28 8) (Fg A F k l q E f g C r i j a b c d e) (Fh prog (ev f28 8) A F k l q E f g C r i j a b c d e fO m0 i0))])):
 aA 28 [aB 1 A] [.agg (bj E f g),ao (i0-1),aB 5 (C++[(bx a b c d e)])]:=
 h.of
def Fi(A F:aE)(d e:Int)(r:Bool)(C:aE)(a b:Int)(E:aE)(f c:Int)(q:Bool):aG:=bR 30 [(0,eB 1 A),(2,bC 2),(3,bB 0),(4,.aN (.one (.v (bE)))),(5,bC 9),(6,bC 6),(7,az.aN (bi.one (bU 180000 5 E))),(8,eB 1 A),(9,bC 9),(10,bC 9),(11,az.aN (bi.agg [bU 120000 4 F,aS d,aS e])),(12,bC 9),(13,.aN (.one (.bP r))),(14,bC 9),(15,az.aN (bi.agg [bU 160000 4 C,aS a,aS b])),(16,bC 9),(17,az.aN (bi.one (bU 180000 5 E))),(18,bC 9),(19,.aN (.one (.bP q)))] [(6,[bU 160000 4 C,aS a,aS b]),(9,[.aa .free 1 A,aS f,aS c]),(2,[.v (bE),aS 0,aS 0])]
def Fj(P:Program)(W:Array Oper)(A F:aE)(i j:Int)(q:Bool)(C:aE)(a b:Int)(E:aE)(c d:Int)(r:Bool)(e f g:Int):aG:=
 sS P W [[],[],[.eI [some [D.aa 1 A,I e,I f],none] (bd.vals [ao g])],[],[],[],[],[]] (Fi A F i j q C a b E c d r)
theorem adD{A F:aE}{i j:Int}{q:Bool}{C:aE}{d e:Int}{E:aE}{a b:Int}{r:Bool}{f g c:Int}
  (h:cn [cv prog 48 [ba.cur [D.aa 1 A,I a,I b] [D.aa 1 A,I f,I g],ba.ro (ao 5)] (bd.vals [ao c]),ap .i64 (c-1)]):
  gF prog (ev f28 8) (Fi A F i j q C d e E a b r) (Fj prog (ev f28 8) A F i j q C d e E a b r f g c):=
 .tK [0,0,1,1,0,0,0,0] h
theorem adE(h:al (Nw A l o a0 cm F e f g i q j k C a b m n E c d r [.b r false,.a (.nU (Fj prog (ev f28 8) A F e f q C a b E c d r dH d0 p)),.p (gF prog (ev f28 8) (Fi A F e f q C a b E c d r) (Fj prog (ev f28 8) A F e f q C a b E c d r dH d0 p))])):
 aA 28 [aB 1 A] [.agg (bj C a b),ao (p-1),aB 5 E]:=
 h.of
def Fk(C E:aE)(f g:Int)(q:Bool)(A:aE)(r:Bool)(i j e a b c d:Int):aG:=bR 30 [(0,eB 1 C),(2,bC 2),(3,bB 0),(4,.aN (.one (.v (bE)))),(5,bC 9),(6,bC 6),(7,az.aN (bi.one (bU 180000 5 (A++[(bx e a b c d)])))),(8,eB 1 C),(9,bC 9),(10,bC 9),(11,az.aN (bi.agg [bU 120000 4 E,aS f,aS g])),(12,bC 9),(13,.aN (.one (.bP q))),(16,bC 9),(17,.aN (.one (.aa (Tag.ro 180000) 5 A))),(18,bC 9),(19,.aN (.one (.bP r))),(20,.aN (.one (.aa (Tag.ro 180000) 5 A))),(21,bC 9),(22,az.aN (bi.agg [aS e,aS a,aS b,aS c,aS d])),(23,.aN (.one (.aa (.own 23) 5 [(bx e a b c d)]))),(24,az.aN (bi.one (bU 180000 5 (A++[(bx e a b c d)]))))] [(6,[bU 120000 4 E,aS f,aS g]),(9,[.aa .free 1 C,aS i,aS j]),(2,[.v (bE),aS 0,aS 0])]
def Fl(P:Program)(W:Array Oper)(A E:aE)(l m:Int)(q:Bool)(C:aE)(r:Bool)(a b c d e f g i j k:Int):aG:=
 sS P W [[],[],[.eI [some [D.aa 1 A,I i,I j],none] (bd.vals [ao k])],[],[],[],[],[]] (Fk A E l m q C r a b c d e f g)
theorem adF{A E:aE}{l m:Int}{q:Bool}{C:aE}{r:Bool}{a b d e f g i j k c:Int}
  (h:cn [cv prog 48 [ba.cur [D.aa 1 A,I a,I b] [D.aa 1 A,I j,I k],ba.ro (ao 5)] (bd.vals [ao c]),ap .i64 (c-1)]):
  gF prog (ev f28 8) (Fk A E l m q C r a b d e f g i) (Fl prog (ev f28 8) A E l m q C r a b d e f g i j k c):=
 .tK [0,0,1,1,0,0,0,0] h
def Nx(A:aE)(a b c d:Int)(C:aE)(e f g i:Int)(q:Bool)(j k:Int)(E:aE)(m n:Int)(r:Bool)(l:List O):List O:=Nv A a b c d C e f g i q (.b q false::.a (.eI [some [D.aa 1 A,I j,I k]] (bd.vals [aB 5 E]))::.y A m n r::.p (cv prog 46 [ba.cur [D.aa 1 A,I g,I i] [D.aa 1 A,I j,I k]] (bd.vals [aB 5 E]))::.m A 42 j k m n 6 r::l)
theorem adG(h:al (Nx A p cm d0 b8 E f g k l q m n C o a0 r [.b r true,.a (.eI [some [D.aa 1 A,I i,I j]] (bd.vals [.agg (bx a b c d e)])),.a (.nU (Fl prog (ev f28 8) A E f g q C r i j a b c d e f0 i0 dH)),.p (cv prog 47 [ba.cur [D.aa 1 A,I o,I a0] [D.aa 1 A,I i,I j]] (bd.vals [.agg (bx a b c d e)])),.g C [(bx a b c d e)] 40,.h [(bx a b c d e)],.p (gF prog (ev f28 8) (Fk A E f g q C r i j a b c d e) (Fl prog (ev f28 8) A E f g q C r i j a b c d e f0 i0 dH))])):
 aA 28 [aB 1 A] [.agg (bj E f g),ao (dH-1),aB 5 (C++[(bx a b c d e)])]:=
 h.of
def Fm(A C:aE)(a b:Int)(q:Bool)(E:aE)(c d:Int)(r:Bool):aG:=bR 30 [(0,eB 1 A),(2,bC 2),(3,bB 0),(4,.aN (.one (.v (bE)))),(5,bC 9),(6,bC 6),(7,az.aN (bi.one (bU 180000 5 E))),(8,eB 1 A),(9,bC 9),(10,bC 9),(11,az.aN (bi.agg [bU 120000 4 C,aS a,aS b])),(12,bC 9),(13,.aN (.one (.bP q))),(16,bC 9),(17,az.aN (bi.one (bU 180000 5 E))),(18,bC 9),(19,.aN (.one (.bP r)))] [(6,[bU 120000 4 C,aS a,aS b]),(9,[.aa .free 1 A,aS c,aS d]),(2,[.v (bE),aS 0,aS 0])]
def ET(P:Program)(W:Array Oper)(A E:aE)(f g:Int)(q:Bool)(C:aE)(a b:Int)(r:Bool)(c d e:Int):aG:=
 sS P W [[],[],[.eI [some [D.aa 1 A,I c,I d],none] (bd.vals [ao e])],[],[],[],[],[]] (Fm A E f g q C a b r)
theorem adH{A E:aE}{f g:Int}{q:Bool}{C:aE}{a b:Int}{r:Bool}{d e c:Int}
  (h:cn [cv prog 48 [ba.cur [D.aa 1 A,I a,I b] [D.aa 1 A,I d,I e],ba.ro (ao 5)] (bd.vals [ao c]),ap .i64 (c-1)]):
  gF prog (ev f28 8) (Fm A E f g q C a b r) (ET prog (ev f28 8) A E f g q C a b r d e c):=
 .tK [0,0,1,1,0,0,0,0] h
theorem adI(h:al (Nx A j l m n E a b e f q g i C c d r [.b r false,.a (.nU (ET prog (ev f28 8) A E a b q C c d r o p k)),.p (gF prog (ev f28 8) (Fm A E a b q C c d r) (ET prog (ev f28 8) A E a b q C c d r o p k))])):
 aA 28 [aB 1 A] [.agg (bj E a b),ao (k-1),aB 5 C]:=
 h.of
theorem adJ(h:al [.r 28 [aB 1 A] [.agg (bj C a b),ao c,aB 5 E]]):
 aA 17 [aB 1 A] [.agg (bj C a b),aB 5 E,ao c]:=
 h.of
def Ny(A:aE)(a b c d:Int)(C:aE)(e f:Int)(q:Bool)(l:List O):List O:=Nu A a b (.a (.eI [some [D.aa 1 A,I c,I d]] (bd.vals [aB 4 C]))::.y A e f q::.p (cv prog 40 [ba.ro (aB 1 A)] (bd.gW [some 0,none,none] [D.aa 1 A,I a,I b]))::.p (cv prog 41 [ba.cur [D.aa 1 A,I a,I b] [D.aa 1 A,I c,I d]] (bd.vals [aB 4 C]))::.m A 42 c d e f 3 q::l)
theorem adK(h:al (Ny A a b c d C f e q [.b q true,.g ([]:aE) C 32,.h C])):
 aA 25 [aB 1 A] [aB 4 C,aB 4 ([]++C)]:=
 h.of
theorem adL(h:al (Ny A b c d e E f a q [.b q false,.a (.eI [some [D.aa 1 A,I g,I i]] (bd.vals [aB 4 C])),.p (cv prog 41 [ba.cur [D.aa 1 A,I f,I a] [D.aa 1 A,I g,I i]] (bd.vals [aB 4 C]))])):
 aA 25 [aB 1 A] [aB 4 E,aB 4 C]:=
 h.of
theorem M'(h:al [.r 25 [aB 1 A] [aB 4 C,aB 4 E]]):
 aA 14 [aB 1 A] [aB 4 C,aB 4 E]:=
 h.of
theorem ada(h:al [.r 17 [aB 1 A] [.agg (bj C a b),aB 5 E,ao c]]):
 aA 5 [aB 1 A] [.agg (bj C a b),aB 5 E,ao c]:=
 h.of
end Go.Proofs.Ytdchjefneblpgaa
namespace Go.Proofs.Ytdchjefneblpgaa
open Go.Sx Go.RowKit Go.Proofs.Try
variable {a b c d e f g i j k l m n o p a0 cm dH d0 b8 f0 i0 j0 et fO m0 : Int} {A C E F G H kl K L M N : aE} {q r s t u v w x y z mf : Bool}
theorem adb(h:al [.r 4 [aB 1 A] [au q],.b q true]):
 aA 3 [aB 1 A] [au true]:=
 h.of
def F0(A:aE)(q:Bool)(C:aE)(a b:Int)(E:aE)(c:Int)(F:aE)(d:Int)(r:Bool)(G:aE)(e:Int)(s t:Bool)(f:Int)(u v:Bool)(H kl:aE)(w:Bool)(K L:aE)(x y:Bool)(l:List O):List O:=.r 4 [aB 1 A] [au q]::.b q false::.r 5 [aB 1 A] [.agg (bj C a b),aB 5 E,ao c]::.r 6 [.agg (bj C a b),aB 5 E,ao c] [aB 4 F,ao d,au r]::.r 7 [.agg (bj C a b),aB 5 E,ao c] [aB 4 G,ao e,au s]::.b (d != e) false::.b (!r==s) false::.r 8 [aB 4 F,aB 4 G] [au t]::.n t false::.r 9 [.agg (bj C a b),aB 5 E,ao c] [ao f]::.b (f != d) false::.r 10 [.agg (bj C a b),aB 5 E,ao c] [au u]::.r 11 [.agg (bj C a b),aB 5 E,ao c] [au v]::.b (!u==v) false::.r 12 [.agg (bj C a b),aB 5 E,ao c] [aB 4 H]::.r 13 [.agg (bj C a b),aB 5 E,ao c] [aB 4 kl]::.r 8 [aB 4 H,aB 4 kl] [au w]::.n w false::.r 14 [aB 1 A] [aB 4 K,aB 4 L]::.r 15 [aB 4 K,aB 4 L] [au x]::.r 8 [aB 4 K,aB 4 L] [au y]::.b (x==y) true::l
theorem ade(h:al (F0 E r A a b C c L d q H e s t f u v kl K w F G x y [.n q true,.r 9 [.agg [D.aa 4 [[I 1,I 0,I 0,D.aa 1 [[I 1]]],[I 8,I 0,I 0,D.v (bE)]],I 1,I 1],.one (.aa 5 [(bx 0 0 0 5 0)]),ao 0] [ao g]])):
 aA 3 [aB 1 E] [au (g==2)]:=
 h.of
theorem adf(h:al (F0 E r A a b C c L d q H e s t f u v kl K w F G x y [.n q false,.r 11 [.agg (bj A a b),aB 5 C,ao c] [au z],.b z true,.r 9 [.agg [D.aa 4 [[I 1,I 0,I 0,D.aa 1 [[I 1]]],[I 8,I 0,I 0,D.v (bE)]],I 1,I 1],.one (.aa 5 [(bx 0 0 0 5 0)]),ao 0] [ao g]])):
 aA 3 [aB 1 E] [au (g==2)]:=
 h.of
theorem adg(h:al (F0 E r A a b C c N d q H e s t f u v kl K w F G x y [.n q false,.r 11 [.agg (bj A a b),aB 5 C,ao c] [au z],.b z false,.r 12 [.agg (bj A a b),aB 5 C,ao c] [aB 4 L],.r 16 [.agg (bj A a b),ao c,aB 5 C] [aB 4 M],.r 8 [aB 4 L,aB 4 M] [au mf],.b mf true,.r 9 [.agg [D.aa 4 [[I 1,I 0,I 0,D.aa 1 [[I 1]]],[I 8,I 0,I 0,D.v (bE)]],I 1,I 1],.one (.aa 5 [(bx 0 0 0 5 0)]),ao 0] [ao g]])):
 aA 3 [aB 1 E] [au (g==2)]:=
 h.of
