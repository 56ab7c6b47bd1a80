import Derived.Test.YtdchjefneblpgaaGreatGE
set_option linter.unusedVariables false
set_option linter.unusedSimpArgs false
namespace Go.Proofs.YtdchjefneblpgaaGreat
open Go.Sx Go.RowKit
variable {a b c d e f g i j k l : Int} {A C E F G H aj K L M N Q R S bi V X Y : ae} {q r s t u v w x : Bool}
def zw(A C:ae)(a:Int):aD:=bd 26 [(0,dj 1 A),(1,dj 1 C),(5,aW a)] []
theorem ahs(h:ad [.i A a [I b],.x C a [I c],.b (b != c) false,.u a]):
 aX (ao Tryz.f70 0) (zw A C a) .normal (zw A C (a+1)):=
 h.aV [5,0,1] []
def To:aD:=bd 26 [] []
theorem aht(h:ad [.f A a false]):
 aX (ao Tryz.f70 0) (zw A C a) (.exit 0) To:=
 h.aV [] []
def qJ(A C:ae)(l:List O):List O:=.b ((A.length:Int) != (C.length:Int)) false::l
theorem ahu(h:ad (qJ A C [.l [] [5,0,1] [] (ao Tryz.f70 0) (zw A C 0) (.exit 0) To])):
 ar 70 [aP 1 A,aP 1 C] [ag true]:=
 h.of
def zx(A C:ae)(a:Int):aD:=bd 26 [(0,dj 1 A),(1,dj 1 C),(5,aW a)] []
theorem ahv(h:ad [.i A a [B q],.x C a [B r],.b (!q==r) false,.u a]):
 aX (ao Tryz.f172 0) (zx A C a) .normal (zx A C (a+1)):=
 h.aV [5,0,1] []
def Tp:aD:=bd 26 [] []
theorem aiN(h:ad [.f A a false]):
 aX (ao Tryz.f172 0) (zx A C a) (.exit 0) Tp:=
 h.aV [] []
theorem aiO(h:ad (qJ A C [.l [] [5,0,1] [] (ao Tryz.f172 0) (zx A C 0) (.exit 0) Tp])):
 ar 172 [aP 1 A,aP 1 C] [ag true]:=
 h.of
def zy(A C:ae)(a:Int):aD:=bd 26 [(0,dj 2 A),(1,dj 2 C),(5,aW a)] []
theorem aiP(h:ad [.i A a [I b,B q],.x C a [I c,B r],.b (!(b==c&&q==r)) false,.u a]):
 aX (ao Tryz.f173 0) (zy A C a) .normal (zy A C (a+1)):=
 h.aV [5,0,1] []
def Tq:aD:=bd 26 [] []
theorem aiQ(h:ad [.f A a false]):
 aX (ao Tryz.f173 0) (zy A C a) (.exit 0) Tq:=
 h.aV [] []
theorem aiR(h:ad (qJ A C [.l [] [5,0,1] [] (ao Tryz.f173 0) (zy A C 0) (.exit 0) Tq])):
 ar 173 [aP 2 A,aP 2 C] [ag true]:=
 h.of
def zz(A C:ae)(a:Int):aD:=bd 26 [(0,dj 5 A),(1,dj 5 C),(5,aW a)] []
theorem aiS(h:ad [.i A a [B s,I c,I d,B t,B u],.x C a [B v,I e,I b,B q,B r],.b (!(s==v&&(c==e&&(d==b&&(t==q&&u==r))))) false,.u a]):
 aX (ao Tryz.f162 0) (zz A C a) .normal (zz A C (a+1)):=
 h.aV [5,0,1] []
def Tr:aD:=bd 26 [] []
theorem aiT(h:ad [.f A a false]):
 aX (ao Tryz.f162 0) (zz A C a) (.exit 0) Tr:=
 h.aV [] []
theorem aiU(h:ad (qJ A C [.l [] [5,0,1] [] (ao Tryz.f162 0) (zz A C 0) (.exit 0) Tr])):
 ar 162 [aP 5 A,aP 5 C] [ag true]:=
 h.of
def zA(A C:ae)(a:Int):aD:=bd 26 [(0,dj 3 A),(1,dj 3 C),(5,aW a)] []
theorem aiV(h:ad [.i A a [I b,I c,B q],.x C a [I d,I e,B r],.b (!(b==d&&(c==e&&q==r))) false,.u a]):
 aX (ao Tryz.f163 0) (zA A C a) .normal (zA A C (a+1)):=
 h.aV [5,0,1] []
def Ts:aD:=bd 26 [] []
theorem aiW(h:ad [.f A a false]):
 aX (ao Tryz.f163 0) (zA A C a) (.exit 0) Ts:=
 h.aV [] []
theorem aiX(h:ad (qJ A C [.l [] [5,0,1] [] (ao Tryz.f163 0) (zA A C 0) (.exit 0) Ts])):
 ar 163 [aP 3 A,aP 3 C] [ag true]:=
 h.of
theorem aiY(h:ad [.b (a==d) true,.b (b==e) true,.b (c==f) true,.r 70 [aP 1 A,aP 1 C] [ag q]]):
 ar 321 [.agg (bf a b c A),.agg (bf d e f C)] [ag q]:=
 h.of
def zB(A C:ae)(a:Int):aD:=bd 27 [(0,dj 4 A),(1,dj 4 C),(5,aW a)] []
theorem aiZ(h:ad [.i A a (bf b c d F),.x C a (bf e f g E),.r 321 [.agg (bf b c d F),.agg (bf e f g E)] [ag q],.n q false,.u a]):
 aX (ao Tryz.f262 0) (zB A C a) .normal (zB A C (a+1)):=
 h.aV [5,0,1] []
def Tt:aD:=bd 27 [] []
theorem ai0(h:ad [.f A a false]):
 aX (ao Tryz.f262 0) (zB A C a) (.exit 0) Tt:=
 h.aV [] []
theorem ai1(h:ad (qJ A C [.l [] [5,0,1] [] (ao Tryz.f262 0) (zB A C 0) (.exit 0) Tt])):
 ar 262 [aP 4 A,aP 4 C] [ag true]:=
 h.of
theorem ai2(h:ad [.r 262 [aP 4 A,aP 4 C] [ag q],.b q true,.b (a==c) true]):
 ar 159 [.agg (bk A a b),.agg (bk C c d)] [ag (b==d)]:=
 h.of
theorem ai3(h:ad [.b (a==i) true,.r 37 [aP 5 A,aP 5 C] [ag q],.b q true,.b (d==j) true,.b (e==k) true,.b (f==b) true]):
 ar 263 [.agg (cd a A d e f g),.agg (cd i C j k b c)] [ag (g==c)]:=
 h.of
def zC(A C:ae)(a:Int):aD:=bd 27 [(0,dj 6 A),(1,dj 6 C),(5,aW a)] []
theorem ai4(h:ad [.i A a (cd f F g i j k),.x C a (cd l E b c d e),.r 263 [.agg (cd f F g i j k),.agg (cd l E b c d e)] [ag q],.n q false,.u a]):
 aX (ao Tryz.f161 0) (zC A C a) .normal (zC A C (a+1)):=
 h.aV [5,0,1] []
def Tu:aD:=bd 27 [] []
theorem ai5(h:ad [.f A a false]):
 aX (ao Tryz.f161 0) (zC A C a) (.exit 0) Tu:=
 h.aV [] []
theorem ai6(h:ad (qJ A C [.l [] [5,0,1] [] (ao Tryz.f161 0) (zC A C 0) (.exit 0) Tu])):
 ar 161 [aP 6 A,aP 6 C] [ag true]:=
 h.of
theorem ai7(h:ad [.r 37 [aP 5 A,aP 5 bi] [ag q],.b q true,.r 37 [aP 5 C,aP 5 V] [ag r],.b r true,.r 37 [aP 5 L,aP 5 E] [ag s],.b s true,.r 19 [aP 4 M,aP 4 F] [ag t],.b t true,.r 70 [aP 1 N,aP 1 G] [ag u],.b u true,.r 172 [aP 1 Q,aP 1 H] [ag v],.b v true,.r 172 [aP 1 R,aP 1 aj] [ag w],.b w true,.r 173 [aP 2 S,aP 2 K] [ag x]]):
 ar 47 [.agg (ba A C L M N Q R S),.agg (ba bi V E F G H aj K)] [ag x]:=
 h.of
def zD(A C:ae)(a:Int):aD:=bd 27 [(0,dj 8 A),(1,dj 8 C),(5,aW a)] []
theorem ai8(h:ad [.i A a (ba Q R S bi V X Y E),.x C a (ba F G H aj K L M N),.r 47 [.agg (ba Q R S bi V X Y E),.agg (ba F G H aj K L M N)] [ag q],.n q false,.u a]):
 aX (ao Tryz.f160 0) (zD A C a) .normal (zD A C (a+1)):=
 h.aV [5,0,1] []
def Tv:aD:=bd 27 [] []
theorem ai9(h:ad [.f A a false]):
 aX (ao Tryz.f160 0) (zD A C a) (.exit 0) Tv:=
 h.aV [] []
theorem aja(h:ad (qJ A C [.l [] [5,0,1] [] (ao Tryz.f160 0) (zD A C 0) (.exit 0) Tv])):
 ar 160 [aP 8 A,aP 8 C] [ag true]:=
 h.of
theorem ajb(h:ad [.r 159 [.agg (bk A a b),.agg (bk M c d)] [ag q],.b q true,.r 160 [aP 8 H,aP 8 C] [ag r],.b r true,.r 161 [aP 6 aj,aP 6 E] [ag s],.b s true,.r 162 [aP 5 K,aP 5 F] [ag t],.b t true,.r 163 [aP 3 L,aP 3 G] [ag u]]):
 ar 35 [.agg (cl A a b H aj K L),.agg (cl M c d C E F G)] [ag u]:=
 h.of
end Go.Proofs.YtdchjefneblpgaaGreat
namespace Go.Proofs.YtdchjefneblpgaaGreat
open Go.Sx Go.RowKit
variable {a b c d e f g i j k l : Int} {A C E F G H aj K L M N Q R S bi V X Y : ae} {q r s t u v w x : Bool}
def zE(A C:ae)(a:Int):aD:=bd 26 [(0,dj 5 A),(1,dj 5 C),(5,aW a)] []
theorem ajc(h:ad [.i A a (bj e f g i j),.x C a (bj k l b c d),.b (!(e==k&&(f==l&&g==b&&(i==c&&j==d)))) false,.u a]):
 aX (ao Tryz.f37 0) (zE A C a) .normal (zE A C (a+1)):=
 h.aV [5,0,1] []
def Tw:aD:=bd 26 [] []
theorem ain(h:ad [.f A a false]):
 aX (ao Tryz.f37 0) (zE A C a) (.exit 0) Tw:=
 h.aV [] []
theorem aio(h:ad (qJ A C [.l [] [5,0,1] [] (ao Tryz.f37 0) (zE A C 0) (.exit 0) Tw])):
 ar 37 [aP 5 A,aP 5 C] [ag true]:=
 h.of
def zF(A C:ae)(a:Int):aD:=bd 26 [(0,dj 4 A),(1,dj 4 C),(5,aW a)] []
theorem aip(h:ad [.i A a [I c,I d,I e,I f],.x C a [I g,I i,I j,I b],.b (!(c==g&&(d==i&&(e==j&&f==b)))) false,.u a]):
 aX (ao Tryz.f19 0) (zF A C a) .normal (zF A C (a+1)):=
 h.aV [5,0,1] []
def Tx:aD:=bd 26 [] []
theorem aiq(h:ad [.f A a false]):
 aX (ao Tryz.f19 0) (zF A C a) (.exit 0) Tx:=
 h.aV [] []
theorem air(h:ad (qJ A C [.l [] [5,0,1] [] (ao Tryz.f19 0) (zF A C 0) (.exit 0) Tx])):
 ar 19 [aP 4 A,aP 4 C] [ag true]:=
 h.of
