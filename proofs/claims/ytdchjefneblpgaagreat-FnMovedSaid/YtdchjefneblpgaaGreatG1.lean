import Derived.Test.YtdchjefneblpgaaGreatGE
set_option linter.unusedVariables false
set_option linter.unusedSimpArgs false
namespace Go.Proofs.YtdchjefneblpgaaGreat
open Go.Sx Go.RowKit
variable {a b c d e f g i j k l : Int} {A C E F G H al K L M N Q R S bl V X Y : af} {q r s t u v w x : Bool}
def Ae(A C:af)(a:Int):aH:=bj 26 [(0,dJ 1 A),(1,dJ 1 C),(5,aZ a)] []
theorem aiq(h:ad [.i A a [I b],.x C a [I c],.b (b != c) false,.u a]):
 a1 (ar Tryz.f70 0) (Ae A C a) .normal (Ae A C (a+1)):=
 h.aW [5,0,1] []
def TA:aH:=bj 26 [] []
theorem air(h:ad [.f A a false]):
 a1 (ar Tryz.f70 0) (Ae A C a) (.exit 0) TA:=
 h.aW [] []
def rb(A C:af)(l:List O):List O:=.b ((A.length:Int) != (C.length:Int)) false::l
theorem ahR(h:ad (rb A C [.l [] [5,0,1] [] (ar Tryz.f70 0) (Ae A C 0) (.exit 0) TA])):
 av 70 [a7 1 A,a7 1 C] [ao true]:=
 h.of
def Af(A C:af)(a:Int):aH:=bj 26 [(0,dJ 1 A),(1,dJ 1 C),(5,aZ a)] []
theorem ahS(h:ad [.i A a [B q],.x C a [B r],.b (!q==r) false,.u a]):
 a1 (ar Tryz.f172 0) (Af A C a) .normal (Af A C (a+1)):=
 h.aW [5,0,1] []
def TB:aH:=bj 26 [] []
theorem ahT(h:ad [.f A a false]):
 a1 (ar Tryz.f172 0) (Af A C a) (.exit 0) TB:=
 h.aW [] []
theorem ahU(h:ad (rb A C [.l [] [5,0,1] [] (ar Tryz.f172 0) (Af A C 0) (.exit 0) TB])):
 av 172 [a7 1 A,a7 1 C] [ao true]:=
 h.of
def Ag(A C:af)(a:Int):aH:=bj 26 [(0,dJ 2 A),(1,dJ 2 C),(5,aZ a)] []
theorem ahV(h:ad [.i A a [I b,B q],.x C a [I c,B r],.b (!(b==c&&q==r)) false,.u a]):
 a1 (ar Tryz.f173 0) (Ag A C a) .normal (Ag A C (a+1)):=
 h.aW [5,0,1] []
def TC:aH:=bj 26 [] []
theorem ahW(h:ad [.f A a false]):
 a1 (ar Tryz.f173 0) (Ag A C a) (.exit 0) TC:=
 h.aW [] []
theorem ahX(h:ad (rb A C [.l [] [5,0,1] [] (ar Tryz.f173 0) (Ag A C 0) (.exit 0) TC])):
 av 173 [a7 2 A,a7 2 C] [ao true]:=
 h.of
def Ah(A C:af)(a:Int):aH:=bj 26 [(0,dJ 5 A),(1,dJ 5 C),(5,aZ a)] []
theorem ahY(h:ad [.i A a [B s,I c,I d,B t,B u],.x C a [B v,I e,I b,B q,B r],.b (!(s==v&&(c==e&&(d==b&&(t==q&&u==r))))) false,.u a]):
 a1 (ar Tryz.f162 0) (Ah A C a) .normal (Ah A C (a+1)):=
 h.aW [5,0,1] []
def TD:aH:=bj 26 [] []
theorem ahZ(h:ad [.f A a false]):
 a1 (ar Tryz.f162 0) (Ah A C a) (.exit 0) TD:=
 h.aW [] []
theorem ah0(h:ad (rb A C [.l [] [5,0,1] [] (ar Tryz.f162 0) (Ah A C 0) (.exit 0) TD])):
 av 162 [a7 5 A,a7 5 C] [ao true]:=
 h.of
def Ai(A C:af)(a:Int):aH:=bj 26 [(0,dJ 3 A),(1,dJ 3 C),(5,aZ a)] []
theorem ai9(h:ad [.i A a [I b,I c,B q],.x C a [I d,I e,B r],.b (!(b==d&&(c==e&&q==r))) false,.u a]):
 a1 (ar Tryz.f163 0) (Ai A C a) .normal (Ai A C (a+1)):=
 h.aW [5,0,1] []
def TE:aH:=bj 26 [] []
theorem aja(h:ad [.f A a false]):
 a1 (ar Tryz.f163 0) (Ai A C a) (.exit 0) TE:=
 h.aW [] []
theorem ajb(h:ad (rb A C [.l [] [5,0,1] [] (ar Tryz.f163 0) (Ai A C 0) (.exit 0) TE])):
 av 163 [a7 3 A,a7 3 C] [ao true]:=
 h.of
theorem ajc(h:ad [.b (a==d) true,.b (b==e) true,.b (c==f) true,.r 70 [a7 1 A,a7 1 C] [ao q]]):
 av 321 [.agg (bk a b c A),.agg (bk d e f C)] [ao q]:=
 h.of
def Aj(A C:af)(a:Int):aH:=bj 27 [(0,dJ 4 A),(1,dJ 4 C),(5,aZ a)] []
theorem ajd(h:ad [.i A a (bk b c d F),.x C a (bk e f g E),.r 321 [.agg (bk b c d F),.agg (bk e f g E)] [ao q],.n q false,.u a]):
 a1 (ar Tryz.f262 0) (Aj A C a) .normal (Aj A C (a+1)):=
 h.aW [5,0,1] []
def TF:aH:=bj 27 [] []
theorem aje(h:ad [.f A a false]):
 a1 (ar Tryz.f262 0) (Aj A C a) (.exit 0) TF:=
 h.aW [] []
theorem ajf(h:ad (rb A C [.l [] [5,0,1] [] (ar Tryz.f262 0) (Aj A C 0) (.exit 0) TF])):
 av 262 [a7 4 A,a7 4 C] [ao true]:=
 h.of
theorem ajg(h:ad [.r 262 [a7 4 A,a7 4 C] [ao q],.b q true,.b (a==c) true]):
 av 159 [.agg (bD A a b),.agg (bD C c d)] [ao (b==d)]:=
 h.of
theorem ajh(h:ad [.b (a==i) true,.r 37 [a7 5 A,a7 5 C] [ao q],.b q true,.b (d==j) true,.b (e==k) true,.b (f==b) true]):
 av 263 [.agg (bO a A d e f g),.agg (bO i C j k b c)] [ao (g==c)]:=
 h.of
def Ak(A C:af)(a:Int):aH:=bj 27 [(0,dJ 6 A),(1,dJ 6 C),(5,aZ a)] []
theorem aji(h:ad [.i A a (bO f F g i j k),.x C a (bO l E b c d e),.r 263 [.agg (bO f F g i j k),.agg (bO l E b c d e)] [ao q],.n q false,.u a]):
 a1 (ar Tryz.f161 0) (Ak A C a) .normal (Ak A C (a+1)):=
 h.aW [5,0,1] []
def TG:aH:=bj 27 [] []
theorem ajj(h:ad [.f A a false]):
 a1 (ar Tryz.f161 0) (Ak A C a) (.exit 0) TG:=
 h.aW [] []
theorem ajk(h:ad (rb A C [.l [] [5,0,1] [] (ar Tryz.f161 0) (Ak A C 0) (.exit 0) TG])):
 av 161 [a7 6 A,a7 6 C] [ao true]:=
 h.of
theorem ajl(h:ad [.r 37 [a7 5 A,a7 5 bl] [ao q],.b q true,.r 37 [a7 5 C,a7 5 V] [ao r],.b r true,.r 37 [a7 5 L,a7 5 E] [ao s],.b s true,.r 19 [a7 4 M,a7 4 F] [ao t],.b t true,.r 70 [a7 1 N,a7 1 G] [ao u],.b u true,.r 172 [a7 1 Q,a7 1 H] [ao v],.b v true,.r 172 [a7 1 R,a7 1 al] [ao w],.b w true,.r 173 [a7 2 S,a7 2 K] [ao x]]):
 av 47 [.agg (ba A C L M N Q R S),.agg (ba bl V E F G H al K)] [ao x]:=
 h.of
def Al(A C:af)(a:Int):aH:=bj 27 [(0,dJ 8 A),(1,dJ 8 C),(5,aZ a)] []
theorem ajm(h:ad [.i A a (ba Q R S bl V X Y E),.x C a (ba F G H al K L M N),.r 47 [.agg (ba Q R S bl V X Y E),.agg (ba F G H al K L M N)] [ao q],.n q false,.u a]):
 a1 (ar Tryz.f160 0) (Al A C a) .normal (Al A C (a+1)):=
 h.aW [5,0,1] []
def TH:aH:=bj 27 [] []
theorem ajn(h:ad [.f A a false]):
 a1 (ar Tryz.f160 0) (Al A C a) (.exit 0) TH:=
 h.aW [] []
theorem ajo(h:ad (rb A C [.l [] [5,0,1] [] (ar Tryz.f160 0) (Al A C 0) (.exit 0) TH])):
 av 160 [a7 8 A,a7 8 C] [ao true]:=
 h.of
theorem ajp(h:ad [.r 159 [.agg (bD A a b),.agg (bD M c d)] [ao q],.b q true,.r 160 [a7 8 H,a7 8 C] [ao r],.b r true,.r 161 [a7 6 al,a7 6 E] [ao s],.b s true,.r 162 [a7 5 K,a7 5 F] [ao t],.b t true,.r 163 [a7 3 L,a7 3 G] [ao u]]):
 av 35 [.agg (cl A a b H al K L),.agg (cl M c d C E F G)] [ao u]:=
 h.of
end Go.Proofs.YtdchjefneblpgaaGreat
namespace Go.Proofs.YtdchjefneblpgaaGreat
open Go.Sx Go.RowKit
variable {a b c d e f g i j k l : Int} {A C E F G H al K L M N Q R S bl V X Y : af} {q r s t u v w x : Bool}
def Am(A C:af)(a:Int):aH:=bj 26 [(0,dJ 5 A),(1,dJ 5 C),(5,aZ a)] []
theorem ajq(h:ad [.i A a (bi e f g i j),.x C a (bi k l b c d),.b (!(e==k&&(f==l&&g==b&&(i==c&&j==d)))) false,.u a]):
 a1 (ar Tryz.f37 0) (Am A C a) .normal (Am A C (a+1)):=
 h.aW [5,0,1] []
def TI:aH:=bj 26 [] []
theorem ajr(h:ad [.f A a false]):
 a1 (ar Tryz.f37 0) (Am A C a) (.exit 0) TI:=
 h.aW [] []
theorem ajs(h:ad (rb A C [.l [] [5,0,1] [] (ar Tryz.f37 0) (Am A C 0) (.exit 0) TI])):
 av 37 [a7 5 A,a7 5 C] [ao true]:=
 h.of
def An(A C:af)(a:Int):aH:=bj 26 [(0,dJ 4 A),(1,dJ 4 C),(5,aZ a)] []
theorem ajt(h:ad [.i A a [I c,I d,I e,I f],.x C a [I g,I i,I j,I b],.b (!(c==g&&(d==i&&(e==j&&f==b)))) false,.u a]):
 a1 (ar Tryz.f19 0) (An A C a) .normal (An A C (a+1)):=
 h.aW [5,0,1] []
def TJ:aH:=bj 26 [] []
theorem aju(h:ad [.f A a false]):
 a1 (ar Tryz.f19 0) (An A C a) (.exit 0) TJ:=
 h.aW [] []
theorem ajv(h:ad (rb A C [.l [] [5,0,1] [] (ar Tryz.f19 0) (An A C 0) (.exit 0) TJ])):
 av 19 [a7 4 A,a7 4 C] [ao true]:=
 h.of
