import Derived.Test.YtdchjefneblpgaaGreatGE
namespace Go.Proofs.YtdchjefneblpgaaGreat
open Go.Sx Go.RowKit
variable {a b c d e f g i j k l : Int} {A C E F G H ao K L M N Q R S bm V X Y : ae} {q r s t u v w x : Bool}
def z1(A C:ae)(a:Int):aI:=bg 26 [(0,dw 1 A),(1,dw 1 C),(5,aY a)] []
theorem ah7(h:ad [.i A a [I b],.x C a [I c],.b (b != c) false,.u a]):
a7 (aq Tryz.f70 0) (z1 A C a) .normal (z1 A C (a+1)):=
h.aX [5,0,1] []
def TT:aI:=bg 26 [] []
theorem ah8(h:ad [.f A a false]):
a7 (aq Tryz.f70 0) (z1 A C a) (.exit 0) TT:=
h.aX [] []
def q0(A C:ae)(l:List O):List O:=.b ((A.length:Int) != (C.length:Int)) false::l
theorem ah9(h:ad (q0 A C [.l [] [5,0,1] [] (aq Tryz.f70 0) (z1 A C 0) (.exit 0) TT])):
av 70 [aP 1 A,aP 1 C] [ak true]:=
h.of
def z6(A C:ae)(a:Int):aI:=bg 26 [(0,dw 1 A),(1,dw 1 C),(5,aY a)] []
theorem ajs(h:ad [.i A a [B q],.x C a [B r],.b (!q==r) false,.u a]):
a7 (aq Tryz.f172 0) (z6 A C a) .normal (z6 A C (a+1)):=
h.aX [5,0,1] []
def TU:aI:=bg 26 [] []
theorem ajt(h:ad [.f A a false]):
a7 (aq Tryz.f172 0) (z6 A C a) (.exit 0) TU:=
h.aX [] []
theorem aju(h:ad (q0 A C [.l [] [5,0,1] [] (aq Tryz.f172 0) (z6 A C 0) (.exit 0) TU])):
av 172 [aP 1 A,aP 1 C] [ak true]:=
h.of
def z7(A C:ae)(a:Int):aI:=bg 26 [(0,dw 2 A),(1,dw 2 C),(5,aY a)] []
theorem ajv(h:ad [.i A a [I b,B q],.x C a [I c,B r],.b (!(b==c&&q==r)) false,.u a]):
a7 (aq Tryz.f173 0) (z7 A C a) .normal (z7 A C (a+1)):=
h.aX [5,0,1] []
def TV:aI:=bg 26 [] []
theorem ajw(h:ad [.f A a false]):
a7 (aq Tryz.f173 0) (z7 A C a) (.exit 0) TV:=
h.aX [] []
theorem ajx(h:ad (q0 A C [.l [] [5,0,1] [] (aq Tryz.f173 0) (z7 A C 0) (.exit 0) TV])):
av 173 [aP 2 A,aP 2 C] [ak true]:=
h.of
def z8(A C:ae)(a:Int):aI:=bg 26 [(0,dw 5 A),(1,dw 5 C),(5,aY a)] []
theorem ajy(h:ad [.i A a [B s,I c,I d,B t,B u],.x C a [B v,I e,I b,B q,B r],.b (!(s==v&&(c==e&&(d==b&&(t==q&&u==r))))) false,.u a]):
a7 (aq Tryz.f162 0) (z8 A C a) .normal (z8 A C (a+1)):=
h.aX [5,0,1] []
def TW:aI:=bg 26 [] []
theorem ajz(h:ad [.f A a false]):
a7 (aq Tryz.f162 0) (z8 A C a) (.exit 0) TW:=
h.aX [] []
theorem ajA(h:ad (q0 A C [.l [] [5,0,1] [] (aq Tryz.f162 0) (z8 A C 0) (.exit 0) TW])):
av 162 [aP 5 A,aP 5 C] [ak true]:=
h.of
def z'(A C:ae)(a:Int):aI:=bg 26 [(0,dw 3 A),(1,dw 3 C),(5,aY a)] []
theorem ajB(h:ad [.i A a [I b,I c,B q],.x C a [I d,I e,B r],.b (!(b==d&&(c==e&&q==r))) false,.u a]):
a7 (aq Tryz.f163 0) (z' A C a) .normal (z' A C (a+1)):=
h.aX [5,0,1] []
def TX:aI:=bg 26 [] []
theorem ajC(h:ad [.f A a false]):
a7 (aq Tryz.f163 0) (z' A C a) (.exit 0) TX:=
h.aX [] []
theorem ajD(h:ad (q0 A C [.l [] [5,0,1] [] (aq Tryz.f163 0) (z' A C 0) (.exit 0) TX])):
av 163 [aP 3 A,aP 3 C] [ak true]:=
h.of
theorem ajE(h:ad [.b (a==d) true,.b (b==e) true,.b (c==f) true,.r 70 [aP 1 A,aP 1 C] [ak q]]):
av 321 [.agg (bj a b c A),.agg (bj d e f C)] [ak q]:=
h.of
def Aa(A C:ae)(a:Int):aI:=bg 27 [(0,dw 4 A),(1,dw 4 C),(5,aY a)] []
theorem ajF(h:ad [.i A a (bj b c d F),.x C a (bj e f g E),.r 321 [.agg (bj b c d F),.agg (bj e f g E)] [ak q],.n q false,.u a]):
a7 (aq Tryz.f262 0) (Aa A C a) .normal (Aa A C (a+1)):=
h.aX [5,0,1] []
def TY:aI:=bg 27 [] []
theorem ajG(h:ad [.f A a false]):
a7 (aq Tryz.f262 0) (Aa A C a) (.exit 0) TY:=
h.aX [] []
theorem ajH(h:ad (q0 A C [.l [] [5,0,1] [] (aq Tryz.f262 0) (Aa A C 0) (.exit 0) TY])):
av 262 [aP 4 A,aP 4 C] [ak true]:=
h.of
theorem ajI(h:ad [.r 262 [aP 4 A,aP 4 C] [ak q],.b q true,.b (a==c) true]):
av 159 [.agg (bq A a b),.agg (bq C c d)] [ak (b==d)]:=
h.of
theorem ajJ(h:ad [.b (a==i) true,.r 37 [aP 5 A,aP 5 C] [ak q],.b q true,.b (d==j) true,.b (e==k) true,.b (f==b) true]):
av 263 [.agg (ch a A d e f g),.agg (ch i C j k b c)] [ak (g==c)]:=
h.of
def Ab(A C:ae)(a:Int):aI:=bg 27 [(0,dw 6 A),(1,dw 6 C),(5,aY a)] []
theorem ajK(h:ad [.i A a (ch f F g i j k),.x C a (ch l E b c d e),.r 263 [.agg (ch f F g i j k),.agg (ch l E b c d e)] [ak q],.n q false,.u a]):
a7 (aq Tryz.f161 0) (Ab A C a) .normal (Ab A C (a+1)):=
h.aX [5,0,1] []
def TZ:aI:=bg 27 [] []
theorem ajL(h:ad [.f A a false]):
a7 (aq Tryz.f161 0) (Ab A C a) (.exit 0) TZ:=
h.aX [] []
theorem ajM(h:ad (q0 A C [.l [] [5,0,1] [] (aq Tryz.f161 0) (Ab A C 0) (.exit 0) TZ])):
av 161 [aP 6 A,aP 6 C] [ak true]:=
h.of
theorem ajN(h:ad [.r 37 [aP 5 A,aP 5 bm] [ak q],.b q true,.r 37 [aP 5 C,aP 5 V] [ak r],.b r true,.r 37 [aP 5 L,aP 5 E] [ak s],.b s true,.r 19 [aP 4 M,aP 4 F] [ak t],.b t true,.r 70 [aP 1 N,aP 1 G] [ak u],.b u true,.r 172 [aP 1 Q,aP 1 H] [ak v],.b v true,.r 172 [aP 1 R,aP 1 ao] [ak w],.b w true,.r 173 [aP 2 S,aP 2 K] [ak x]]):
av 47 [.agg (bb A C L M N Q R S),.agg (bb bm V E F G H ao K)] [ak x]:=
h.of
def Ac(A C:ae)(a:Int):aI:=bg 27 [(0,dw 8 A),(1,dw 8 C),(5,aY a)] []
theorem ajO(h:ad [.i A a (bb Q R S bm V X Y E),.x C a (bb F G H ao K L M N),.r 47 [.agg (bb Q R S bm V X Y E),.agg (bb F G H ao K L M N)] [ak q],.n q false,.u a]):
a7 (aq Tryz.f160 0) (Ac A C a) .normal (Ac A C (a+1)):=
h.aX [5,0,1] []
def T0:aI:=bg 27 [] []
theorem ajP(h:ad [.f A a false]):
a7 (aq Tryz.f160 0) (Ac A C a) (.exit 0) T0:=
h.aX [] []
theorem ajQ(h:ad (q0 A C [.l [] [5,0,1] [] (aq Tryz.f160 0) (Ac A C 0) (.exit 0) T0])):
av 160 [aP 8 A,aP 8 C] [ak true]:=
h.of
theorem ajR(h:ad [.r 159 [.agg (bq A a b),.agg (bq M c d)] [ak q],.b q true,.r 160 [aP 8 H,aP 8 C] [ak r],.b r true,.r 161 [aP 6 ao,aP 6 E] [ak s],.b s true,.r 162 [aP 5 K,aP 5 F] [ak t],.b t true,.r 163 [aP 3 L,aP 3 G] [ak u]]):
av 35 [.agg (cl A a b H ao K L),.agg (cl M c d C E F G)] [ak u]:=
h.of
end Go.Proofs.YtdchjefneblpgaaGreat
namespace Go.Proofs.YtdchjefneblpgaaGreat
open Go.Sx Go.RowKit
variable {a b c d e f g i j k l : Int} {A C E F G H ao K L M N Q R S bm V X Y : ae} {q r s t u v w x : Bool}
def Ad(A C:ae)(a:Int):aI:=bg 26 [(0,dw 5 A),(1,dw 5 C),(5,aY a)] []
theorem ai2(h:ad [.i A a (bn e f g i j),.x C a (bn k l b c d),.b (!(e==k&&(f==l&&g==b&&(i==c&&j==d)))) false,.u a]):
a7 (aq Tryz.f37 0) (Ad A C a) .normal (Ad A C (a+1)):=
h.aX [5,0,1] []
def T1:aI:=bg 26 [] []
theorem ai3(h:ad [.f A a false]):
a7 (aq Tryz.f37 0) (Ad A C a) (.exit 0) T1:=
h.aX [] []
theorem ai4(h:ad (q0 A C [.l [] [5,0,1] [] (aq Tryz.f37 0) (Ad A C 0) (.exit 0) T1])):
av 37 [aP 5 A,aP 5 C] [ak true]:=
h.of
def Ae(A C:ae)(a:Int):aI:=bg 26 [(0,dw 4 A),(1,dw 4 C),(5,aY a)] []
theorem ai5(h:ad [.i A a [I c,I d,I e,I f],.x C a [I g,I i,I j,I b],.b (!(c==g&&(d==i&&(e==j&&f==b)))) false,.u a]):
a7 (aq Tryz.f19 0) (Ae A C a) .normal (Ae A C (a+1)):=
h.aX [5,0,1] []
def T2:aI:=bg 26 [] []
theorem ai6(h:ad [.f A a false]):
a7 (aq Tryz.f19 0) (Ae A C a) (.exit 0) T2:=
h.aX [] []
theorem ai7(h:ad (q0 A C [.l [] [5,0,1] [] (aq Tryz.f19 0) (Ae A C 0) (.exit 0) T2])):
av 19 [aP 4 A,aP 4 C] [ak true]:=
h.of
