import Derived.Test.YthfnndblgbjniaaGreatDoorGE
namespace Go.Proofs.YthfnndblgbjniaaGreatDoor
open Go.Sx Go.RowKit
variable {a b c d e f g i j k l : Int} {A C E F G H ah K L M N Q R S a1 V X Y : af} {q r s t u v w x : Bool}
def A9(A C:af)(a:Int):aF:=bf 26 [(0,du 1 A),(1,du 1 C),(5,aU a)] []
theorem aob(h:ae [.i A a [I b],.x C a [I c],.b (b != c) false,.u a]):
 aY (ap Tryz.f145 0) (A9 A C a) .normal (A9 A C (a+1)):=
 h.aT [5,0,1] []
def Vp:aF:=bf 26 [] []
theorem aoc(h:ae [.f A a false]):
 aY (ap Tryz.f145 0) (A9 A C a) (.exit 0) Vp:=
 h.aT [] []
def qL(A C:af)(l:List O):List O:=.b ((A.length:Int) != (C.length:Int)) false::l
theorem aod(h:ae (qL A C [.l [] [5,0,1] [] (ap Tryz.f145 0) (A9 A C 0) (.exit 0) Vp])):
 al 145 [aO 1 A,aO 1 C] [ai true]:=
 h.of
def A'(A C:af)(a:Int):aF:=bf 26 [(0,du 1 A),(1,du 1 C),(5,aU a)] []
theorem aoe(h:ae [.i A a [B q],.x C a [B r],.b (!q==r) false,.u a]):
 aY (ap Tryz.f146 0) (A' A C a) .normal (A' A C (a+1)):=
 h.aT [5,0,1] []
def Vq:aF:=bf 26 [] []
theorem aof(h:ae [.f A a false]):
 aY (ap Tryz.f146 0) (A' A C a) (.exit 0) Vq:=
 h.aT [] []
theorem aog(h:ae (qL A C [.l [] [5,0,1] [] (ap Tryz.f146 0) (A' A C 0) (.exit 0) Vq])):
 al 146 [aO 1 A,aO 1 C] [ai true]:=
 h.of
def Ba(A C:af)(a:Int):aF:=bf 26 [(0,du 2 A),(1,du 2 C),(5,aU a)] []
theorem aoh(h:ae [.i A a [I b,B q],.x C a [I c,B r],.b (!(b==c&&q==r)) false,.u a]):
 aY (ap Tryz.f147 0) (Ba A C a) .normal (Ba A C (a+1)):=
 h.aT [5,0,1] []
def Vr:aF:=bf 26 [] []
theorem aoi(h:ae [.f A a false]):
 aY (ap Tryz.f147 0) (Ba A C a) (.exit 0) Vr:=
 h.aT [] []
theorem aoj(h:ae (qL A C [.l [] [5,0,1] [] (ap Tryz.f147 0) (Ba A C 0) (.exit 0) Vr])):
 al 147 [aO 2 A,aO 2 C] [ai true]:=
 h.of
def Bb(A C:af)(a:Int):aF:=bf 26 [(0,du 5 A),(1,du 5 C),(5,aU a)] []
theorem aok(h:ae [.i A a [B s,I c,I d,B t,B u],.x C a [B v,I e,I b,B q,B r],.b (!(s==v&&(c==e&&(d==b&&(t==q&&u==r))))) false,.u a]):
 aY (ap Tryz.f49 0) (Bb A C a) .normal (Bb A C (a+1)):=
 h.aT [5,0,1] []
def Vs:aF:=bf 26 [] []
theorem aol(h:ae [.f A a false]):
 aY (ap Tryz.f49 0) (Bb A C a) (.exit 0) Vs:=
 h.aT [] []
theorem aom(h:ae (qL A C [.l [] [5,0,1] [] (ap Tryz.f49 0) (Bb A C 0) (.exit 0) Vs])):
 al 49 [aO 5 A,aO 5 C] [ai true]:=
 h.of
def Bc(A C:af)(a:Int):aF:=bf 26 [(0,du 3 A),(1,du 3 C),(5,aU a)] []
theorem aon(h:ae [.i A a [I b,I c,B q],.x C a [I d,I e,B r],.b (!(b==d&&(c==e&&q==r))) false,.u a]):
 aY (ap Tryz.f10 0) (Bc A C a) .normal (Bc A C (a+1)):=
 h.aT [5,0,1] []
def Vt:aF:=bf 26 [] []
theorem aoo(h:ae [.f A a false]):
 aY (ap Tryz.f10 0) (Bc A C a) (.exit 0) Vt:=
 h.aT [] []
theorem aop(h:ae (qL A C [.l [] [5,0,1] [] (ap Tryz.f10 0) (Bc A C 0) (.exit 0) Vt])):
 al 10 [aO 3 A,aO 3 C] [ai true]:=
 h.of
theorem aoq(h:ae [.b (a==d) true,.b (b==e) true,.b (c==f) true,.r 145 [aO 1 A,aO 1 C] [ai q]]):
 al 142 [.agg (bk a b c A),.agg (bk d e f C)] [ai q]:=
 h.of
def Bd(A C:af)(a:Int):aF:=bf 27 [(0,du 4 A),(1,du 4 C),(5,aU a)] []
theorem aor(h:ae [.i A a (bk b c d F),.x C a (bk e f g E),.r 142 [.agg (bk b c d F),.agg (bk e f g E)] [ai q],.n q false,.u a]):
 aY (ap Tryz.f85 0) (Bd A C a) .normal (Bd A C (a+1)):=
 h.aT [5,0,1] []
def Vu:aF:=bf 27 [] []
theorem aos(h:ae [.f A a false]):
 aY (ap Tryz.f85 0) (Bd A C a) (.exit 0) Vu:=
 h.aT [] []
theorem aot(h:ae (qL A C [.l [] [5,0,1] [] (ap Tryz.f85 0) (Bd A C 0) (.exit 0) Vu])):
 al 85 [aO 4 A,aO 4 C] [ai true]:=
 h.of
theorem aou(h:ae [.r 85 [aO 4 A,aO 4 C] [ai q],.b q true,.b (a==c) true]):
 al 46 [.agg (bq A a b),.agg (bq C c d)] [ai (b==d)]:=
 h.of
theorem aov(h:ae [.b (a==i) true,.r 143 [aO 5 A,aO 5 C] [ai q],.b q true,.b (d==j) true,.b (e==k) true,.b (f==b) true]):
 al 87 [.agg (bT a A d e f g),.agg (bT i C j k b c)] [ai (g==c)]:=
 h.of
def Be(A C:af)(a:Int):aF:=bf 27 [(0,du 6 A),(1,du 6 C),(5,aU a)] []
theorem aow(h:ae [.i A a (bT f F g i j k),.x C a (bT l E b c d e),.r 87 [.agg (bT f F g i j k),.agg (bT l E b c d e)] [ai q],.n q false,.u a]):
 aY (ap Tryz.f48 0) (Be A C a) .normal (Be A C (a+1)):=
 h.aT [5,0,1] []
def Vv:aF:=bf 27 [] []
theorem aox(h:ae [.f A a false]):
 aY (ap Tryz.f48 0) (Be A C a) (.exit 0) Vv:=
 h.aT [] []
theorem aoy(h:ae (qL A C [.l [] [5,0,1] [] (ap Tryz.f48 0) (Be A C 0) (.exit 0) Vv])):
 al 48 [aO 6 A,aO 6 C] [ai true]:=
 h.of
theorem anJ(h:ae [.r 143 [aO 5 A,aO 5 a1] [ai q],.b q true,.r 143 [aO 5 C,aO 5 V] [ai r],.b r true,.r 143 [aO 5 L,aO 5 E] [ai s],.b s true,.r 144 [aO 4 M,aO 4 F] [ai t],.b t true,.r 145 [aO 1 N,aO 1 G] [ai u],.b u true,.r 146 [aO 1 Q,aO 1 H] [ai v],.b v true,.r 146 [aO 1 R,aO 1 ah] [ai w],.b w true,.r 147 [aO 2 S,aO 2 K] [ai x]]):
 al 86 [.agg (aX A C L M N Q R S),.agg (aX a1 V E F G H ah K)] [ai x]:=
 h.of
def Bf(A C:af)(a:Int):aF:=bf 27 [(0,du 8 A),(1,du 8 C),(5,aU a)] []
theorem anK(h:ae [.i A a (aX Q R S a1 V X Y E),.x C a (aX F G H ah K L M N),.r 86 [.agg (aX Q R S a1 V X Y E),.agg (aX F G H ah K L M N)] [ai q],.n q false,.u a]):
 aY (ap Tryz.f47 0) (Bf A C a) .normal (Bf A C (a+1)):=
 h.aT [5,0,1] []
def Vw:aF:=bf 27 [] []
theorem anL(h:ae [.f A a false]):
 aY (ap Tryz.f47 0) (Bf A C a) (.exit 0) Vw:=
 h.aT [] []
theorem anM(h:ae (qL A C [.l [] [5,0,1] [] (ap Tryz.f47 0) (Bf A C 0) (.exit 0) Vw])):
 al 47 [aO 8 A,aO 8 C] [ai true]:=
 h.of
theorem anN(h:ae [.r 46 [.agg (bq A a b),.agg (bq M c d)] [ai q],.b q true,.r 47 [aO 8 H,aO 8 C] [ai r],.b r true,.r 48 [aO 6 ah,aO 6 E] [ai s],.b s true,.r 49 [aO 5 K,aO 5 F] [ai t],.b t true,.r 10 [aO 3 L,aO 3 G] [ai u]]):
 al 9 [.agg (a8 A a b H ah K L),.agg (a8 M c d C E F G)] [ai u]:=
 h.of
def Bg(A C:af)(a:Int):aF:=bf 26 [(0,du 3 A),(1,du 3 C),(5,aU a)] []
theorem anO(h:ae [.i A a [I b,I c,I d],.x C a [I e,I f,I g],.b (!(b==e&&(c==f&&d==g))) false,.u a]):
 aY (ap Tryz.f30 0) (Bg A C a) .normal (Bg A C (a+1)):=
 h.aT [5,0,1] []
def Vx:aF:=bf 26 [] []
theorem anP(h:ae [.f A a false]):
 aY (ap Tryz.f30 0) (Bg A C a) (.exit 0) Vx:=
 h.aT [] []
theorem anQ(h:ae (qL A C [.l [] [5,0,1] [] (ap Tryz.f30 0) (Bg A C 0) (.exit 0) Vx])):
 al 30 [aO 3 A,aO 3 C] [ai true]:=
 h.of
end Go.Proofs.YthfnndblgbjniaaGreatDoor
namespace Go.Proofs.YthfnndblgbjniaaGreatDoor
open Go.Sx Go.RowKit
variable {a b c d e f g i j k l : Int} {A C E F G H ah K L M N Q R S a1 V X Y : af} {q r s t u v w x : Bool}
def Bh(A C:af)(a:Int):aF:=bf 26 [(0,du 5 A),(1,du 5 C),(5,aU a)] []
theorem anR(h:ae [.i A a (bj e f g i j),.x C a (bj k l b c d),.b (!(e==k&&(f==l&&g==b&&(i==c&&j==d)))) false,.u a]):
 aY (ap Tryz.f143 0) (Bh A C a) .normal (Bh A C (a+1)):=
 h.aT [5,0,1] []
def Vy:aF:=bf 26 [] []
theorem anS(h:ae [.f A a false]):
 aY (ap Tryz.f143 0) (Bh A C a) (.exit 0) Vy:=
 h.aT [] []
theorem anT(h:ae (qL A C [.l [] [5,0,1] [] (ap Tryz.f143 0) (Bh A C 0) (.exit 0) Vy])):
 al 143 [aO 5 A,aO 5 C] [ai true]:=
 h.of
def Bi(A C:af)(a:Int):aF:=bf 26 [(0,du 4 A),(1,du 4 C),(5,aU a)] []
theorem anU(h:ae [.i A a [I c,I d,I e,I f],.x C a [I g,I i,I j,I b],.b (!(c==g&&(d==i&&(e==j&&f==b)))) false,.u a]):
 aY (ap Tryz.f144 0) (Bi A C a) .normal (Bi A C (a+1)):=
 h.aT [5,0,1] []
def Vz:aF:=bf 26 [] []
theorem anV(h:ae [.f A a false]):
 aY (ap Tryz.f144 0) (Bi A C a) (.exit 0) Vz:=
 h.aT [] []
theorem anW(h:ae (qL A C [.l [] [5,0,1] [] (ap Tryz.f144 0) (Bi A C 0) (.exit 0) Vz])):
 al 144 [aO 4 A,aO 4 C] [ai true]:=
 h.of
