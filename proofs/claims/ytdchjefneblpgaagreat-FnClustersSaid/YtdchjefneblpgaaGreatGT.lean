import Derived.Test.YtdchjefneblpgaaGreatGE
set_option linter.unusedVariables false
set_option linter.unusedSimpArgs false
namespace Go.Proofs.YtdchjefneblpgaaGreat
open Go.Sx Go.RowKit
variable {a b c d e f g i j k l : Int} {A C : ah} {q : Bool}
def GM(A C:ah)(l:List O):List O:=.b ((A.length:Int) != (C.length:Int)) true::l
theorem akM(h:af (GM A C [])):
 aw 226 [aM 5 A,aM 5 C] [al false]:=
 h.of
def xB(A C:ah)(a:Int):aF:=bf 26 [(0,cX 5 A),(1,cX 5 C),(12,a1 (A.length:Int)),(13,a1 a)] []
def MO(q:Bool):aF:=bf 26 [(4,.aI (.one (.bc q)))] []
theorem akN(h:af [.i A a (bx e f g i j),.x C a (bx k l b c d),.b (!(e==k&&(f==l&&g==b&&(i==c&&j==d)))) true]):
 aY (aq Tryz.f226 0) (xB A C a) .ret (MO false):=
 h.aW [4] []
theorem akO(h:af [.i A a (bx e f g i j),.x C a (bx k l b c d),.b (!(e==k&&(f==l&&g==b&&(i==c&&j==d)))) false,.u a]):
 aY (aq Tryz.f226 0) (xB A C a) .normal (xB A C (a+1)):=
 h.aW [13,12,0,1] []
def U1:aF:=bf 26 [] []
theorem akP(h:af [.f A a false]):
 aY (aq Tryz.f226 0) (xB A C a) (.exit 0) U1:=
 h.aW [] []
def vu(A C:ah)(l:List O):List O:=.b ((A.length:Int) != (C.length:Int)) false::l
theorem akQ(h:af (vu A C [.l [] [13,12,0,1] [] (aq Tryz.f226 0) (xB A C 0) .ret (MO q)])):
 aw 226 [aM 5 A,aM 5 C] [al q]:=
 h.of
theorem akR(h:af (vu A C [.l [] [13,12,0,1] [] (aq Tryz.f226 0) (xB A C 0) (.exit 0) U1])):
 aw 226 [aM 5 A,aM 5 C] [al true]:=
 h.of
theorem aj2(h:af (GM A C [])):
 aw 248 [aM 4 A,aM 4 C] [al false]:=
 h.of
def xC(A C:ah)(a:Int):aF:=bf 26 [(0,cX 4 A),(1,cX 4 C),(12,a1 (A.length:Int)),(13,a1 a)] []
def MP(q:Bool):aF:=bf 26 [(4,.aI (.one (.bc q)))] []
theorem aj3(h:af [.i A a [I c,I d,I e,I f],.x C a [I g,I i,I j,I b],.b (!(c==g&&(d==i&&(e==j&&f==b)))) true]):
 aY (aq Tryz.f248 0) (xC A C a) .ret (MP false):=
 h.aW [4] []
theorem aj4(h:af [.i A a [I c,I d,I e,I f],.x C a [I g,I i,I j,I b],.b (!(c==g&&(d==i&&(e==j&&f==b)))) false,.u a]):
 aY (aq Tryz.f248 0) (xC A C a) .normal (xC A C (a+1)):=
 h.aW [13,12,0,1] []
def Ur:aF:=bf 26 [] []
theorem aj5(h:af [.f A a false]):
 aY (aq Tryz.f248 0) (xC A C a) (.exit 0) Ur:=
 h.aW [] []
theorem aj6(h:af (vu A C [.l [] [13,12,0,1] [] (aq Tryz.f248 0) (xC A C 0) .ret (MP q)])):
 aw 248 [aM 4 A,aM 4 C] [al q]:=
 h.of
theorem aj7(h:af (vu A C [.l [] [13,12,0,1] [] (aq Tryz.f248 0) (xC A C 0) (.exit 0) Ur])):
 aw 248 [aM 4 A,aM 4 C] [al true]:=
 h.of
theorem aj8(h:af (GM A C [])):
 aw 37 [aM 5 A,aM 5 C] [al false]:=
 h.of
def vd(A C:ah)(a:Int):aF:=bf 26 [(0,cX 5 A),(1,cX 5 C),(5,a1 a)] []
def MQ(q:Bool):aF:=bf 26 [(4,.aI (.one (.bc q)))] []
theorem aj9(h:af [.i A a (bx e f g i j),.x C a (bx k l b c d),.b (!(e==k&&(f==l&&g==b&&(i==c&&j==d)))) true]):
 aY (aq Tryz.f37 0) (vd A C a) .ret (MQ false):=
 h.aW [4] []
theorem Us(h:af [.i A a (bx e f g i j),.x C a (bx k l b c d),.b (!(e==k&&(f==l&&g==b&&(i==c&&j==d)))) false,.u a]):
 aY (aq Tryz.f37 0) (vd A C a) .normal (vd A C (a+1)):=
 h.aW [5,0,1] []
def Ut:aF:=bf 26 [] []
theorem Uu(h:af [.f A a false]):
 aY (aq Tryz.f37 0) (vd A C a) (.exit 0) Ut:=
 h.aW [] []
theorem aka(h:af (vu A C [.l [] [5,0,1] [] (aq Tryz.f37 0) (vd A C 0) .ret (MQ q)])):
 aw 37 [aM 5 A,aM 5 C] [al q]:=
 h.of
theorem Uv(h:af (vu A C [.l [] [5,0,1] [] (aq Tryz.f37 0) (vd A C 0) (.exit 0) Ut])):
 aw 37 [aM 5 A,aM 5 C] [al true]:=
 h.of
theorem akb(h:af (GM A C [])):
 aw 19 [aM 4 A,aM 4 C] [al false]:=
 h.of
def ve(A C:ah)(a:Int):aF:=bf 26 [(0,cX 4 A),(1,cX 4 C),(5,a1 a)] []
def MR(q:Bool):aF:=bf 26 [(4,.aI (.one (.bc q)))] []
theorem akc(h:af [.i A a [I c,I d,I e,I f],.x C a [I g,I i,I j,I b],.b (!(c==g&&(d==i&&(e==j&&f==b)))) true]):
 aY (aq Tryz.f19 0) (ve A C a) .ret (MR false):=
 h.aW [4] []
theorem Uw(h:af [.i A a [I c,I d,I e,I f],.x C a [I g,I i,I j,I b],.b (!(c==g&&(d==i&&(e==j&&f==b)))) false,.u a]):
 aY (aq Tryz.f19 0) (ve A C a) .normal (ve A C (a+1)):=
 h.aW [5,0,1] []
def Ux:aF:=bf 26 [] []
theorem Uy(h:af [.f A a false]):
 aY (aq Tryz.f19 0) (ve A C a) (.exit 0) Ux:=
 h.aW [] []
theorem akd(h:af (vu A C [.l [] [5,0,1] [] (aq Tryz.f19 0) (ve A C 0) .ret (MR q)])):
 aw 19 [aM 4 A,aM 4 C] [al q]:=
 h.of
theorem Uz(h:af (vu A C [.l [] [5,0,1] [] (aq Tryz.f19 0) (ve A C 0) (.exit 0) Ux])):
 aw 19 [aM 4 A,aM 4 C] [al true]:=
 h.of
