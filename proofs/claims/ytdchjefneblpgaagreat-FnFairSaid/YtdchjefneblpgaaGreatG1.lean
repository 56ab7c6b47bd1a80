import Derived.Test.YtdchjefneblpgaaGreatGE
set_option linter.unusedVariables false
set_option linter.unusedSimpArgs false
namespace Go.Proofs.YtdchjefneblpgaaGreat
open Go.Sx Go.RowKit
variable {a b c d e f g i j k l : Int} {A C E F G H ah K L M N Q R S ba V X Y : ag} {q r s t u v w x : Bool}
def CI(A C:ag)(a:Int):aC:=bb 26 [(0,dB 1 A),(1,dB 1 C),(5,aU a)] []
theorem ahc(h:ad [.i A a [I b],.x C a [I c],.b (b != c) false,.u a]):
 aV (ap Tryz.f70 0) (CI A C a) .normal (CI A C (a+1)):=
 h.aS [5,0,1] []
def Wd:aC:=bb 26 [] []
theorem ahd(h:ad [.f A a false]):
 aV (ap Tryz.f70 0) (CI A C a) (.exit 0) Wd:=
 h.aS [] []
def s'(A C:ag)(l:List O):List O:=.b ((A.length:Int) != (C.length:Int)) false::l
theorem ahe(h:ad (s' A C [.l [] [5,0,1] [] (ap Tryz.f70 0) (CI A C 0) (.exit 0) Wd])):
 aq 70 [aO 1 A,aO 1 C] [aj true]:=
 h.of
def CJ(A C:ag)(a:Int):aC:=bb 26 [(0,dB 1 A),(1,dB 1 C),(5,aU a)] []
theorem ahf(h:ad [.i A a [B q],.x C a [B r],.b (!q==r) false,.u a]):
 aV (ap Tryz.f172 0) (CJ A C a) .normal (CJ A C (a+1)):=
 h.aS [5,0,1] []
def Vp:aC:=bb 26 [] []
theorem ahg(h:ad [.f A a false]):
 aV (ap Tryz.f172 0) (CJ A C a) (.exit 0) Vp:=
 h.aS [] []
theorem ahh(h:ad (s' A C [.l [] [5,0,1] [] (ap Tryz.f172 0) (CJ A C 0) (.exit 0) Vp])):
 aq 172 [aO 1 A,aO 1 C] [aj true]:=
 h.of
def CK(A C:ag)(a:Int):aC:=bb 26 [(0,dB 2 A),(1,dB 2 C),(5,aU a)] []
theorem ahi(h:ad [.i A a [I b,B q],.x C a [I c,B r],.b (!(b==c&&q==r)) false,.u a]):
 aV (ap Tryz.f173 0) (CK A C a) .normal (CK A C (a+1)):=
 h.aS [5,0,1] []
def Vq:aC:=bb 26 [] []
theorem ahj(h:ad [.f A a false]):
 aV (ap Tryz.f173 0) (CK A C a) (.exit 0) Vq:=
 h.aS [] []
theorem agu(h:ad (s' A C [.l [] [5,0,1] [] (ap Tryz.f173 0) (CK A C 0) (.exit 0) Vq])):
 aq 173 [aO 2 A,aO 2 C] [aj true]:=
 h.of
def CL(A C:ag)(a:Int):aC:=bb 26 [(0,dB 5 A),(1,dB 5 C),(5,aU a)] []
theorem agv(h:ad [.i A a [B s,I c,I d,B t,B u],.x C a [B v,I e,I b,B q,B r],.b (!(s==v&&(c==e&&(d==b&&(t==q&&u==r))))) false,.u a]):
 aV (ap Tryz.f162 0) (CL A C a) .normal (CL A C (a+1)):=
 h.aS [5,0,1] []
def Vr:aC:=bb 26 [] []
theorem agw(h:ad [.f A a false]):
 aV (ap Tryz.f162 0) (CL A C a) (.exit 0) Vr:=
 h.aS [] []
theorem agx(h:ad (s' A C [.l [] [5,0,1] [] (ap Tryz.f162 0) (CL A C 0) (.exit 0) Vr])):
 aq 162 [aO 5 A,aO 5 C] [aj true]:=
 h.of
def CM(A C:ag)(a:Int):aC:=bb 26 [(0,dB 3 A),(1,dB 3 C),(5,aU a)] []
theorem agy(h:ad [.i A a [I b,I c,B q],.x C a [I d,I e,B r],.b (!(b==d&&(c==e&&q==r))) false,.u a]):
 aV (ap Tryz.f163 0) (CM A C a) .normal (CM A C (a+1)):=
 h.aS [5,0,1] []
def Vs:aC:=bb 26 [] []
theorem agz(h:ad [.f A a false]):
 aV (ap Tryz.f163 0) (CM A C a) (.exit 0) Vs:=
 h.aS [] []
theorem agA(h:ad (s' A C [.l [] [5,0,1] [] (ap Tryz.f163 0) (CM A C 0) (.exit 0) Vs])):
 aq 163 [aO 3 A,aO 3 C] [aj true]:=
 h.of
theorem agB(h:ad [.b (a==d) true,.b (b==e) true,.b (c==f) true,.r 70 [aO 1 A,aO 1 C] [aj q]]):
 aq 321 [.agg (bp a b c A),.agg (bp d e f C)] [aj q]:=
 h.of
def CN(A C:ag)(a:Int):aC:=bb 27 [(0,dB 4 A),(1,dB 4 C),(5,aU a)] []
theorem agC(h:ad [.i A a (bp b c d F),.x C a (bp e f g E),.r 321 [.agg (bp b c d F),.agg (bp e f g E)] [aj q],.n q false,.u a]):
 aV (ap Tryz.f262 0) (CN A C a) .normal (CN A C (a+1)):=
 h.aS [5,0,1] []
def Vt:aC:=bb 27 [] []
theorem agD(h:ad [.f A a false]):
 aV (ap Tryz.f262 0) (CN A C a) (.exit 0) Vt:=
 h.aS [] []
theorem agE(h:ad (s' A C [.l [] [5,0,1] [] (ap Tryz.f262 0) (CN A C 0) (.exit 0) Vt])):
 aq 262 [aO 4 A,aO 4 C] [aj true]:=
 h.of
theorem agF(h:ad [.r 262 [aO 4 A,aO 4 C] [aj q],.b q true,.b (a==c) true]):
 aq 159 [.agg (br A a b),.agg (br C c d)] [aj (b==d)]:=
 h.of
theorem agG(h:ad [.b (a==i) true,.r 37 [aO 5 A,aO 5 C] [aj q],.b q true,.b (d==j) true,.b (e==k) true,.b (f==b) true]):
 aq 263 [.agg (bY a A d e f g),.agg (bY i C j k b c)] [aj (g==c)]:=
 h.of
def CO(A C:ag)(a:Int):aC:=bb 27 [(0,dB 6 A),(1,dB 6 C),(5,aU a)] []
theorem agH(h:ad [.i A a (bY f F g i j k),.x C a (bY l E b c d e),.r 263 [.agg (bY f F g i j k),.agg (bY l E b c d e)] [aj q],.n q false,.u a]):
 aV (ap Tryz.f161 0) (CO A C a) .normal (CO A C (a+1)):=
 h.aS [5,0,1] []
def Vu:aC:=bb 27 [] []
theorem agI(h:ad [.f A a false]):
 aV (ap Tryz.f161 0) (CO A C a) (.exit 0) Vu:=
 h.aS [] []
theorem agJ(h:ad (s' A C [.l [] [5,0,1] [] (ap Tryz.f161 0) (CO A C 0) (.exit 0) Vu])):
 aq 161 [aO 6 A,aO 6 C] [aj true]:=
 h.of
theorem agK(h:ad [.r 37 [aO 5 A,aO 5 ba] [aj q],.b q true,.r 37 [aO 5 C,aO 5 V] [aj r],.b r true,.r 37 [aO 5 L,aO 5 E] [aj s],.b s true,.r 19 [aO 4 M,aO 4 F] [aj t],.b t true,.r 70 [aO 1 N,aO 1 G] [aj u],.b u true,.r 172 [aO 1 Q,aO 1 H] [aj v],.b v true,.r 172 [aO 1 R,aO 1 ah] [aj w],.b w true,.r 173 [aO 2 S,aO 2 K] [aj x]]):
 aq 47 [.agg (aW A C L M N Q R S),.agg (aW ba V E F G H ah K)] [aj x]:=
 h.of
def CP(A C:ag)(a:Int):aC:=bb 27 [(0,dB 8 A),(1,dB 8 C),(5,aU a)] []
theorem agL(h:ad [.i A a (aW Q R S ba V X Y E),.x C a (aW F G H ah K L M N),.r 47 [.agg (aW Q R S ba V X Y E),.agg (aW F G H ah K L M N)] [aj q],.n q false,.u a]):
 aV (ap Tryz.f160 0) (CP A C a) .normal (CP A C (a+1)):=
 h.aS [5,0,1] []
def Vv:aC:=bb 27 [] []
theorem agM(h:ad [.f A a false]):
 aV (ap Tryz.f160 0) (CP A C a) (.exit 0) Vv:=
 h.aS [] []
theorem agN(h:ad (s' A C [.l [] [5,0,1] [] (ap Tryz.f160 0) (CP A C 0) (.exit 0) Vv])):
 aq 160 [aO 8 A,aO 8 C] [aj true]:=
 h.of
theorem agO(h:ad [.r 159 [.agg (br A a b),.agg (br M c d)] [aj q],.b q true,.r 160 [aO 8 H,aO 8 C] [aj r],.b r true,.r 161 [aO 6 ah,aO 6 E] [aj s],.b s true,.r 162 [aO 5 K,aO 5 F] [aj t],.b t true,.r 163 [aO 3 L,aO 3 G] [aj u]]):
 aq 35 [.agg (cl A a b H ah K L),.agg (cl M c d C E F G)] [aj u]:=
 h.of
end Go.Proofs.YtdchjefneblpgaaGreat
namespace Go.Proofs.YtdchjefneblpgaaGreat
open Go.Sx Go.RowKit
variable {a b c d e f g i j k l : Int} {A C E F G H ah K L M N Q R S ba V X Y : ag} {q r s t u v w x : Bool}
end Go.Proofs.YtdchjefneblpgaaGreat
namespace Go.Proofs.YtdchjefneblpgaaGreat
open Go.Sx Go.RowKit
variable {a b c d e f g i j k l : Int} {A C E F G H ah K L M N Q R S ba V X Y : ag} {q r s t u v w x : Bool}
def CQ(A C:ag)(a:Int):aC:=bb 26 [(0,dB 5 A),(1,dB 5 C),(5,aU a)] []
theorem agP(h:ad [.i A a (bh e f g i j),.x C a (bh k l b c d),.b (!(e==k&&(f==l&&g==b&&(i==c&&j==d)))) false,.u a]):
 aV (ap Tryz.f37 0) (CQ A C a) .normal (CQ A C (a+1)):=
 h.aS [5,0,1] []
def Vw:aC:=bb 26 [] []
theorem agQ(h:ad [.f A a false]):
 aV (ap Tryz.f37 0) (CQ A C a) (.exit 0) Vw:=
 h.aS [] []
theorem agR(h:ad (s' A C [.l [] [5,0,1] [] (ap Tryz.f37 0) (CQ A C 0) (.exit 0) Vw])):
 aq 37 [aO 5 A,aO 5 C] [aj true]:=
 h.of
def CR(A C:ag)(a:Int):aC:=bb 26 [(0,dB 4 A),(1,dB 4 C),(5,aU a)] []
theorem agS(h:ad [.i A a [I c,I d,I e,I f],.x C a [I g,I i,I j,I b],.b (!(c==g&&(d==i&&(e==j&&f==b)))) false,.u a]):
 aV (ap Tryz.f19 0) (CR A C a) .normal (CR A C (a+1)):=
 h.aS [5,0,1] []
def Vx:aC:=bb 26 [] []
theorem agT(h:ad [.f A a false]):
 aV (ap Tryz.f19 0) (CR A C a) (.exit 0) Vx:=
 h.aS [] []
theorem agk(h:ad (s' A C [.l [] [5,0,1] [] (ap Tryz.f19 0) (CR A C 0) (.exit 0) Vx])):
 aq 19 [aO 4 A,aO 4 C] [aj true]:=
 h.of
