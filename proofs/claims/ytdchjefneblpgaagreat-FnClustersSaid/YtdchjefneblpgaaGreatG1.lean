import Derived.Test.YtdchjefneblpgaaGreatGE
set_option linter.unusedVariables false
set_option linter.unusedSimpArgs false
namespace Go.Proofs.YtdchjefneblpgaaGreat
open Go.Sx Go.RowKit Go.Proofs.Tryz
variable {a b c d e f g i j k l : Int} {A C E F G H au K L M N Q R S bz V X Y : ah} {q r s t u v w x : Bool}
def mn(A C:ah)(l:List O):List O:=.b ((A.length:Int) != (C.length:Int)) true::l
theorem ake(h:af (mn A C [])):
 aw 70 [aM 1 A,aM 1 C] [al false]:=
 h.of
def vf(A C:ah)(a:Int):aF:=bf 26 [(0,cX 1 A),(1,cX 1 C),(5,a1 a)] []
def MS(q:Bool):aF:=bf 26 [(4,.aI (.one (.bc q)))] []
theorem akf(h:af [.i A a [I b],.x C a [I c],.b (b != c) true]):
 aY (aq f70 0) (vf A C a) .ret (MS false):=
 h.aW [4] []
theorem UA(h:af [.i A a [I b],.x C a [I c],.b (b != c) false,.u a]):
 aY (aq f70 0) (vf A C a) .normal (vf A C (a+1)):=
 h.aW [5,0,1] []
def V1:aF:=bf 26 [] []
theorem V2(h:af [.f A a false]):
 aY (aq f70 0) (vf A C a) (.exit 0) V1:=
 h.aW [] []
def gV(A C:ah)(l:List O):List O:=.b ((A.length:Int) != (C.length:Int)) false::l
theorem akg(h:af (gV A C [.l [] [5,0,1] [] (aq f70 0) (vf A C 0) .ret (MS q)])):
 aw 70 [aM 1 A,aM 1 C] [al q]:=
 h.of
theorem V3(h:af (gV A C [.l [] [5,0,1] [] (aq f70 0) (vf A C 0) (.exit 0) V1])):
 aw 70 [aM 1 A,aM 1 C] [al true]:=
 h.of
theorem akh(h:af (mn A C [])):
 aw 172 [aM 1 A,aM 1 C] [al false]:=
 h.of
def vg(A C:ah)(a:Int):aF:=bf 26 [(0,cX 1 A),(1,cX 1 C),(5,a1 a)] []
def MT(q:Bool):aF:=bf 26 [(4,.aI (.one (.bc q)))] []
theorem aki(h:af [.i A a [B q],.x C a [B r],.b (!q==r) true]):
 aY (aq f172 0) (vg A C a) .ret (MT false):=
 h.aW [4] []
theorem V4(h:af [.i A a [B q],.x C a [B r],.b (!q==r) false,.u a]):
 aY (aq f172 0) (vg A C a) .normal (vg A C (a+1)):=
 h.aW [5,0,1] []
def V5:aF:=bf 26 [] []
theorem V6(h:af [.f A a false]):
 aY (aq f172 0) (vg A C a) (.exit 0) V5:=
 h.aW [] []
theorem akj(h:af (gV A C [.l [] [5,0,1] [] (aq f172 0) (vg A C 0) .ret (MT q)])):
 aw 172 [aM 1 A,aM 1 C] [al q]:=
 h.of
theorem V7(h:af (gV A C [.l [] [5,0,1] [] (aq f172 0) (vg A C 0) (.exit 0) V5])):
 aw 172 [aM 1 A,aM 1 C] [al true]:=
 h.of
theorem akk(h:af (mn A C [])):
 aw 173 [aM 2 A,aM 2 C] [al false]:=
 h.of
def vh(A C:ah)(a:Int):aF:=bf 26 [(0,cX 2 A),(1,cX 2 C),(5,a1 a)] []
def MU(q:Bool):aF:=bf 26 [(4,.aI (.one (.bc q)))] []
theorem akl(h:af [.i A a [I b,B q],.x C a [I c,B r],.b (!(b==c&&q==r)) true]):
 aY (aq f173 0) (vh A C a) .ret (MU false):=
 h.aW [4] []
theorem V8(h:af [.i A a [I b,B q],.x C a [I c,B r],.b (!(b==c&&q==r)) false,.u a]):
 aY (aq f173 0) (vh A C a) .normal (vh A C (a+1)):=
 h.aW [5,0,1] []
def V9:aF:=bf 26 [] []
theorem V'(h:af [.f A a false]):
 aY (aq f173 0) (vh A C a) (.exit 0) V9:=
 h.aW [] []
theorem akm(h:af (gV A C [.l [] [5,0,1] [] (aq f173 0) (vh A C 0) .ret (MU q)])):
 aw 173 [aM 2 A,aM 2 C] [al q]:=
 h.of
theorem Wa(h:af (gV A C [.l [] [5,0,1] [] (aq f173 0) (vh A C 0) (.exit 0) V9])):
 aw 173 [aM 2 A,aM 2 C] [al true]:=
 h.of
theorem akn(h:af (mn A C [])):
 aw 162 [aM 5 A,aM 5 C] [al false]:=
 h.of
def vi(A C:ah)(a:Int):aF:=bf 26 [(0,cX 5 A),(1,cX 5 C),(5,a1 a)] []
def MV(q:Bool):aF:=bf 26 [(4,.aI (.one (.bc q)))] []
theorem ako(h:af [.i A a [B s,I c,I d,B t,B u],.x C a [B v,I e,I b,B q,B r],.b (!(s==v&&(c==e&&(d==b&&(t==q&&u==r))))) true]):
 aY (aq f162 0) (vi A C a) .ret (MV false):=
 h.aW [4] []
theorem Wb(h:af [.i A a [B s,I c,I d,B t,B u],.x C a [B v,I e,I b,B q,B r],.b (!(s==v&&(c==e&&(d==b&&(t==q&&u==r))))) false,.u a]):
 aY (aq f162 0) (vi A C a) .normal (vi A C (a+1)):=
 h.aW [5,0,1] []
def Wc:aF:=bf 26 [] []
theorem Wd(h:af [.f A a false]):
 aY (aq f162 0) (vi A C a) (.exit 0) Wc:=
 h.aW [] []
theorem akp(h:af (gV A C [.l [] [5,0,1] [] (aq f162 0) (vi A C 0) .ret (MV q)])):
 aw 162 [aM 5 A,aM 5 C] [al q]:=
 h.of
theorem We(h:af (gV A C [.l [] [5,0,1] [] (aq f162 0) (vi A C 0) (.exit 0) Wc])):
 aw 162 [aM 5 A,aM 5 C] [al true]:=
 h.of
theorem akq(h:af (mn A C [])):
 aw 163 [aM 3 A,aM 3 C] [al false]:=
 h.of
def uK(A C:ah)(a:Int):aF:=bf 26 [(0,cX 3 A),(1,cX 3 C),(5,a1 a)] []
def MW(q:Bool):aF:=bf 26 [(4,.aI (.one (.bc q)))] []
theorem akr(h:af [.i A a [I b,I c,B q],.x C a [I d,I e,B r],.b (!(b==d&&(c==e&&q==r))) true]):
 aY (aq f163 0) (uK A C a) .ret (MW false):=
 h.aW [4] []
theorem Wf(h:af [.i A a [I b,I c,B q],.x C a [I d,I e,B r],.b (!(b==d&&(c==e&&q==r))) false,.u a]):
 aY (aq f163 0) (uK A C a) .normal (uK A C (a+1)):=
 h.aW [5,0,1] []
def Wg:aF:=bf 26 [] []
theorem Wh(h:af [.f A a false]):
 aY (aq f163 0) (uK A C a) (.exit 0) Wg:=
 h.aW [] []
theorem ajS(h:af (gV A C [.l [] [5,0,1] [] (aq f163 0) (uK A C 0) .ret (MW q)])):
 aw 163 [aM 3 A,aM 3 C] [al q]:=
 h.of
theorem Wi(h:af (gV A C [.l [] [5,0,1] [] (aq f163 0) (uK A C 0) (.exit 0) Wg])):
 aw 163 [aM 3 A,aM 3 C] [al true]:=
 h.of
def vt(a b:Int)(l:List O):List O:=.b (a==b) true::l
theorem Wj(h:af (vt a d [.b (b==e) true,.b (c==f) true,.r 70 [aM 1 A,aM 1 C] [al q]])):
 aw 321 [.agg (bn a b c A),.agg (bn d e f C)] [al q]:=
 h.of
theorem ajT(h:af (vt a d [.b (b==e) true,.b (c==f) false])):
 aw 321 [.agg (bn a b c A),.agg (bn d e f C)] [al false]:=
 h.of
theorem ajU(h:af (vt a c [.b (b==d) false])):
 aw 321 [.agg (bn a b e A),.agg (bn c d f C)] [al false]:=
 h.of
theorem ajV(h:af [.b (a==b) false]):
 aw 321 [.agg (bn a c d A),.agg (bn b e f C)] [al false]:=
 h.of
theorem ajW(h:af (mn A C [])):
 aw 262 [aM 4 A,aM 4 C] [al false]:=
 h.of
def uL(A C:ah)(a:Int):aF:=bf 27 [(0,cX 4 A),(1,cX 4 C),(5,a1 a)] []
def MX(q:Bool):aF:=bf 27 [(4,.aI (.one (.bc q)))] []
theorem ajX(h:af [.i A a (bn b c d F),.x C a (bn e f g E),.r 321 [.agg (bn b c d F),.agg (bn e f g E)] [al q],.n q true]):
 aY (aq f262 0) (uL A C a) .ret (MX false):=
 h.aW [4] []
theorem Wk(h:af [.i A a (bn b c d F),.x C a (bn e f g E),.r 321 [.agg (bn b c d F),.agg (bn e f g E)] [al q],.n q false,.u a]):
 aY (aq f262 0) (uL A C a) .normal (uL A C (a+1)):=
 h.aW [5,0,1] []
def Wl:aF:=bf 27 [] []
theorem Wm(h:af [.f A a false]):
 aY (aq f262 0) (uL A C a) (.exit 0) Wl:=
 h.aW [] []
theorem ajY(h:af (gV A C [.l [] [5,0,1] [] (aq f262 0) (uL A C 0) .ret (MX q)])):
 aw 262 [aM 4 A,aM 4 C] [al q]:=
 h.of
theorem Wn(h:af (gV A C [.l [] [5,0,1] [] (aq f262 0) (uL A C 0) (.exit 0) Wl])):
 aw 262 [aM 4 A,aM 4 C] [al true]:=
 h.of
theorem Wo(h:af [.r 262 [aM 4 A,aM 4 C] [al q],.b q true,.b (a==c) true]):
 aw 159 [.agg (bt A a b),.agg (bt C c d)] [al (b==d)]:=
 h.of
theorem ajZ(h:af [.r 262 [aM 4 A,aM 4 C] [al q],.b q true,.b (a==b) false]):
 aw 159 [.agg (bt A a c),.agg (bt C b d)] [al false]:=
 h.of
theorem aj0(h:af [.r 262 [aM 4 A,aM 4 C] [al q],.b q false]):
 aw 159 [.agg (bt A a b),.agg (bt C c d)] [al false]:=
 h.of
def Cw(a b:Int)(A C:ah)(q:Bool)(l:List O):List O:=vt a b (.r 37 [aM 5 A,aM 5 C] [al q]::l)
theorem Wp(h:af (Cw a i A C q [.b q true,.b (d==j) true,.b (e==k) true,.b (f==b) true])):
 aw 263 [.agg (b5 a A d e f g),.agg (b5 i C j k b c)] [al (g==c)]:=
 h.of
theorem aj1(h:af (Cw a f A C q [.b q true,.b (c==g) true,.b (d==i) true,.b (e==b) false])):
 aw 263 [.agg (b5 a A c d e k),.agg (b5 f C g i b j)] [al false]:=
 h.of
theorem alu(h:af (Cw a d A C q [.b q true,.b (b==e) true,.b (c==f) false])):
 aw 263 [.agg (b5 a A b c j k),.agg (b5 d C e f g i)] [al false]:=
 h.of
theorem alv(h:af (Cw a c A C q [.b q true,.b (b==d) false])):
 aw 263 [.agg (b5 a A b g i j),.agg (b5 c C d k e f)] [al false]:=
 h.of
theorem alw(h:af (Cw a b A C q [.b q false])):
 aw 263 [.agg (b5 a A e f g i),.agg (b5 b C j k c d)] [al false]:=
 h.of
theorem alx(h:af [.b (a==b) false]):
 aw 263 [.agg (b5 a A e f g i),.agg (b5 b C j k c d)] [al false]:=
 h.of
theorem aly(h:af (mn A C [])):
 aw 161 [aM 6 A,aM 6 C] [al false]:=
 h.of
def uM(A C:ah)(a:Int):aF:=bf 27 [(0,cX 6 A),(1,cX 6 C),(5,a1 a)] []
def MY(q:Bool):aF:=bf 27 [(4,.aI (.one (.bc q)))] []
theorem alz(h:af [.i A a (b5 f F g i j k),.x C a (b5 l E b c d e),.r 263 [.agg (b5 f F g i j k),.agg (b5 l E b c d e)] [al q],.n q true]):
 aY (aq f161 0) (uM A C a) .ret (MY false):=
 h.aW [4] []
theorem VB(h:af [.i A a (b5 f F g i j k),.x C a (b5 l E b c d e),.r 263 [.agg (b5 f F g i j k),.agg (b5 l E b c d e)] [al q],.n q false,.u a]):
 aY (aq f161 0) (uM A C a) .normal (uM A C (a+1)):=
 h.aW [5,0,1] []
def VC:aF:=bf 27 [] []
theorem VD(h:af [.f A a false]):
 aY (aq f161 0) (uM A C a) (.exit 0) VC:=
 h.aW [] []
theorem alA(h:af (gV A C [.l [] [5,0,1] [] (aq f161 0) (uM A C 0) .ret (MY q)])):
 aw 161 [aM 6 A,aM 6 C] [al q]:=
 h.of
theorem VE(h:af (gV A C [.l [] [5,0,1] [] (aq f161 0) (uM A C 0) (.exit 0) VC])):
 aw 161 [aM 6 A,aM 6 C] [al true]:=
 h.of
def X0(A C:ah)(q:Bool)(l:List O):List O:=.r 37 [aM 5 A,aM 5 C] [al q]::l
def X1(A C:ah)(q:Bool)(E F:ah)(r:Bool)(l:List O):List O:=X0 A C q (.b q true::.r 37 [aM 5 E,aM 5 F] [al r]::l)
def X2(A C:ah)(q:Bool)(E F:ah)(r:Bool)(G H:ah)(s:Bool)(l:List O):List O:=X1 A C q E F r (.b r true::.r 37 [aM 5 G,aM 5 H] [al s]::l)
def NR(A C:ah)(q:Bool)(E F:ah)(r:Bool)(G H:ah)(s:Bool)(au K:ah)(t:Bool)(l:List O):List O:=X2 A C q E F r G H s (.b s true::.r 19 [aM 4 au,aM 4 K] [al t]::l)
def NS(A C:ah)(q:Bool)(E F:ah)(r:Bool)(G H:ah)(s:Bool)(au K:ah)(t:Bool)(L M:ah)(u:Bool)(N P:ah)(v:Bool)(l:List O):List O:=NR A C q E F r G H s au K t (.b t true::.r 70 [aM 1 L,aM 1 M] [al u]::.b u true::.r 172 [aM 1 N,aM 1 P] [al v]::l)
theorem VF(h:af (NS A bz q C V r L E s M F t N G u Q H v [.b v true,.r 172 [aM 1 R,aM 1 au] [al w],.b w true,.r 173 [aM 2 S,aM 2 K] [al x]])):
 aw 47 [.agg (bj A C L M N Q R S),.agg (bj bz V E F G H au K)] [al x]:=
 h.of
theorem alB(h:af (NS A R q C S r K E s L F t M G u N H v [.b v true,.r 172 [aM 1 Q,aM 1 au] [al w],.b w false])):
 aw 47 [.agg (bj A C K L M N Q V),.agg (bj R S E F G H au bz)] [al false]:=
 h.of
theorem alC(h:af (NS A N q C Q r au E s K F t L G u M H v [.b v false])):
 aw 47 [.agg (bj A C au K L M bz V),.agg (bj N Q E F G H R S)] [al false]:=
 h.of
theorem alD(h:af (NR A L q C M r H E s au F t [.b t true,.r 70 [aM 1 K,aM 1 G] [al u],.b u false])):
 aw 47 [.agg (bj A C H au K S bz V),.agg (bj L M E F G N Q R)] [al false]:=
 h.of
theorem alE(h:af (NR A au q C K r G E s H F t [.b t false])):
 aw 47 [.agg (bj A C G H R S bz V),.agg (bj au K E F L M N Q)] [al false]:=
 h.of
theorem alF(h:af (X2 A G q C H r F E s [.b s false])):
 aw 47 [.agg (bj A C F Q R S bz V),.agg (bj G H E au K L M N)] [al false]:=
 h.of
theorem alG(h:af (X1 A E q C F r [.b r false])):
 aw 47 [.agg (bj A C N Q R S bz V),.agg (bj E F G H au K L M)] [al false]:=
 h.of
theorem alH(h:af (X0 A C q [.b q false])):
 aw 47 [.agg (bj A E M N Q R S bz),.agg (bj C V F G H au K L)] [al false]:=
 h.of
theorem alI(h:af (mn A C [])):
 aw 160 [aM 8 A,aM 8 C] [al false]:=
 h.of
def uN(A C:ah)(a:Int):aF:=bf 27 [(0,cX 8 A),(1,cX 8 C),(5,a1 a)] []
def MZ(q:Bool):aF:=bf 27 [(4,.aI (.one (.bc q)))] []
theorem alJ(h:af [.i A a (bj Q R S bz V X Y E),.x C a (bj F G H au K L M N),.r 47 [.agg (bj Q R S bz V X Y E),.agg (bj F G H au K L M N)] [al q],.n q true]):
 aY (aq f160 0) (uN A C a) .ret (MZ false):=
 h.aW [4] []
theorem VG(h:af [.i A a (bj Q R S bz V X Y E),.x C a (bj F G H au K L M N),.r 47 [.agg (bj Q R S bz V X Y E),.agg (bj F G H au K L M N)] [al q],.n q false,.u a]):
 aY (aq f160 0) (uN A C a) .normal (uN A C (a+1)):=
 h.aW [5,0,1] []
def VH:aF:=bf 27 [] []
theorem VI(h:af [.f A a false]):
 aY (aq f160 0) (uN A C a) (.exit 0) VH:=
 h.aW [] []
theorem alK(h:af (gV A C [.l [] [5,0,1] [] (aq f160 0) (uN A C 0) .ret (MZ q)])):
 aw 160 [aM 8 A,aM 8 C] [al q]:=
 h.of
theorem VJ(h:af (gV A C [.l [] [5,0,1] [] (aq f160 0) (uN A C 0) (.exit 0) VH])):
 aw 160 [aM 8 A,aM 8 C] [al true]:=
 h.of
def N4(A:ah)(a b:Int)(C:ah)(c d:Int)(q:Bool)(l:List O):List O:=.r 159 [.agg (bt A a b),.agg (bt C c d)] [al q]::l
def N5(A:ah)(a b:Int)(C:ah)(c d:Int)(q:Bool)(E F:ah)(r:Bool)(G H:ah)(s:Bool)(l:List O):List O:=N4 A a b C c d q (.b q true::.r 160 [aM 8 E,aM 8 F] [al r]::.b r true::.r 161 [aM 6 G,aM 6 H] [al s]::l)
theorem VK(h:af (N5 A a b M c d q H C r au E s [.b s true,.r 162 [aM 5 K,aM 5 F] [al t],.b t true,.r 163 [aM 3 L,aM 3 G] [al u]])):
 aw 35 [.agg (cl A a b H au K L),.agg (cl M c d C E F G)] [al u]:=
 h.of
theorem alL(h:af (N5 A a b K c d q G C r H E s [.b s true,.r 162 [aM 5 au,aM 5 F] [al t],.b t false])):
 aw 35 [.agg (cl A a b G H au M),.agg (cl K c d C E F L)] [al false]:=
 h.of
theorem alM(h:af (N5 A a b H c d q F C r G E s [.b s false])):
 aw 35 [.agg (cl A a b F G L M),.agg (cl H c d C E au K)] [al false]:=
 h.of
theorem alN(h:af (N4 A a b F c d q [.b q true,.r 160 [aM 8 E,aM 8 C] [al r],.b r false])):
 aw 35 [.agg (cl A a b E K L M),.agg (cl F c d C G H au)] [al false]:=
 h.of
theorem alO(h:af (N4 A a b C c d q [.b q false])):
 aw 35 [.agg (cl A a b au K L M),.agg (cl C c d E F G H)] [al false]:=
 h.of
end Go.Proofs.YtdchjefneblpgaaGreat
namespace Go.Proofs.YtdchjefneblpgaaGreat
open Go.Sx Go.RowKit Go.Proofs.Tryz
variable {a b c d e f g i j k l : Int} {A C E F G H au K L M N Q R S bz V X Y : ah} {q r s t u v w x : Bool}
def X8(A:ah)(a b:Int)(C:ah)(c d:Int)(q:Bool)(l:List O):List O:=.r 193 [.agg (bt A a b),.agg (bt C c d)] [al q]::l
def Gp(A:ah)(a b:Int)(C:ah)(c d:Int)(q:Bool)(E F:ah)(r:Bool)(l:List O):List O:=X8 A a b C c d q (.b q true::.r 194 [aM 8 E,aM 8 F,.one (.cl 195 [])] [al r]::l)
theorem alP(h:af (Gp A a b M c d q H C r [.b r true,.r 196 [aM 6 au,aM 6 E,.one (.cl 197 [])] [al s],.b s true,.r 198 [aM 5 K,aM 5 F] [al t],.b t true,.r 199 [aM 3 L,aM 3 G] [al u]])):
 aw 57 [.agg (cl A a b H au K L),.agg (cl M c d C E F G)] [al u]:=
 h.of
theorem alQ(h:af (Gp A a b K c d q G C r [.b r true,.r 196 [aM 6 H,aM 6 E,.one (.cl 197 [])] [al s],.b s true,.r 198 [aM 5 au,aM 5 F] [al t],.b t false])):
 aw 57 [.agg (cl A a b G H au M),.agg (cl K c d C E F L)] [al false]:=
 h.of
theorem alR(h:af (Gp A a b H c d q F C r [.b r true,.r 196 [aM 6 G,aM 6 E,.one (.cl 197 [])] [al s],.b s false])):
 aw 57 [.agg (cl A a b F G L M),.agg (cl H c d C E au K)] [al false]:=
 h.of
theorem alS(h:af (Gp A a b F c d q E C r [.b r false])):
 aw 57 [.agg (cl A a b E K L M),.agg (cl F c d C G H au)] [al false]:=
 h.of
theorem alT(h:af (X8 A a b C c d q [.b q false])):
 aw 57 [.agg (cl A a b au K L M),.agg (cl C c d E F G H)] [al false]:=
 h.of
def N6(A C:ah)(q:Bool)(l:List O):List O:=.r 283 [aM 4 A,aM 4 C,.one (.cl 284 [])] [al q]::l
theorem ak2(h:af (N6 A C q [.b q true,.b (a==c) true])):
 aw 193 [.agg (bt A a b),.agg (bt C c d)] [al (b==d)]:=
 h.of
theorem ak3(h:af (N6 A C q [.b q true,.b (a==b) false])):
 aw 193 [.agg (bt A a c),.agg (bt C b d)] [al false]:=
 h.of
theorem ak4(h:af (N6 A C q [.b q false])):
 aw 193 [.agg (bt A a b),.agg (bt C c d)] [al false]:=
 h.of
def X9(A C:ah)(q:Bool)(l:List O):List O:=.r 226 [aM 5 A,aM 5 C] [al q]::l
def X'(A C:ah)(q:Bool)(E F:ah)(r:Bool)(l:List O):List O:=X9 A C q (.b q true::.r 226 [aM 5 E,aM 5 F] [al r]::l)
def Ya(A C:ah)(q:Bool)(E F:ah)(r:Bool)(G H:ah)(s:Bool)(l:List O):List O:=X' A C q E F r (.b r true::.r 226 [aM 5 G,aM 5 H] [al s]::l)
def N7(A C:ah)(q:Bool)(E F:ah)(r:Bool)(G H:ah)(s:Bool)(au K:ah)(t:Bool)(l:List O):List O:=Ya A C q E F r G H s (.b s true::.r 248 [aM 4 au,aM 4 K] [al t]::l)
def N8(A C:ah)(q:Bool)(E F:ah)(r:Bool)(G H:ah)(s:Bool)(au K:ah)(t:Bool)(L M:ah)(u:Bool)(N P:ah)(v:Bool)(l:List O):List O:=N7 A C q E F r G H s au K t (.b t true::.r 285 [aM 1 L,aM 1 M] [al u]::.b u true::.r 286 [aM 1 N,aM 1 P] [al v]::l)
theorem ak5(h:af (N8 A bz q C V r L E s M F t N G u Q H v [.b v true,.r 286 [aM 1 R,aM 1 au] [al w],.b w true,.r 287 [aM 2 S,aM 2 K] [al x]])):
 aw 195 [.agg (bj A C L M N Q R S),.agg (bj bz V E F G H au K)] [al x]:=
 h.of
theorem ak6(h:af (N8 A R q C S r K E s L F t M G u N H v [.b v true,.r 286 [aM 1 Q,aM 1 au] [al w],.b w false])):
 aw 195 [.agg (bj A C K L M N Q V),.agg (bj R S E F G H au bz)] [al false]:=
 h.of
theorem ak7(h:af (N8 A N q C Q r au E s K F t L G u M H v [.b v false])):
 aw 195 [.agg (bj A C au K L M bz V),.agg (bj N Q E F G H R S)] [al false]:=
 h.of
theorem ak8(h:af (N7 A L q C M r H E s au F t [.b t true,.r 285 [aM 1 K,aM 1 G] [al u],.b u false])):
 aw 195 [.agg (bj A C H au K S bz V),.agg (bj L M E F G N Q R)] [al false]:=
 h.of
theorem ak9(h:af (N7 A au q C K r G E s H F t [.b t false])):
 aw 195 [.agg (bj A C G H R S bz V),.agg (bj au K E F L M N Q)] [al false]:=
 h.of
theorem ala(h:af (Ya A G q C H r F E s [.b s false])):
 aw 195 [.agg (bj A C F Q R S bz V),.agg (bj G H E au K L M N)] [al false]:=
 h.of
theorem alb(h:af (X' A E q C F r [.b r false])):
 aw 195 [.agg (bj A C N Q R S bz V),.agg (bj E F G H au K L M)] [al false]:=
 h.of
theorem alc(h:af (X9 A C q [.b q false])):
 aw 195 [.agg (bj A E M N Q R S bz),.agg (bj C V F G H au K L)] [al false]:=
 h.of
def Cx(a b:Int)(A C:ah)(q:Bool)(l:List O):List O:=vt a b (.r 226 [aM 5 A,aM 5 C] [al q]::l)
theorem ald(h:af (Cx a i A C q [.b q true,.b (d==j) true,.b (e==k) true,.b (f==b) true])):
 aw 197 [.agg (b5 a A d e f g),.agg (b5 i C j k b c)] [al (g==c)]:=
 h.of
theorem ale(h:af (Cx a f A C q [.b q true,.b (c==g) true,.b (d==i) true,.b (e==b) false])):
 aw 197 [.agg (b5 a A c d e k),.agg (b5 f C g i b j)] [al false]:=
 h.of
theorem alf(h:af (Cx a d A C q [.b q true,.b (b==e) true,.b (c==f) false])):
 aw 197 [.agg (b5 a A b c j k),.agg (b5 d C e f g i)] [al false]:=
 h.of
theorem alg(h:af (Cx a c A C q [.b q true,.b (b==d) false])):
 aw 197 [.agg (b5 a A b g i j),.agg (b5 c C d k e f)] [al false]:=
 h.of
theorem alh(h:af (Cx a b A C q [.b q false])):
 aw 197 [.agg (b5 a A e f g i),.agg (b5 b C j k c d)] [al false]:=
 h.of
theorem ali(h:af [.b (a==b) false]):
 aw 197 [.agg (b5 a A e f g i),.agg (b5 b C j k c d)] [al false]:=
 h.of
theorem alj(h:af (vt a d [.b (b==e) true,.b (c==f) true,.r 285 [aM 1 A,aM 1 C] [al q]])):
 aw 284 [.agg (bn a b c A),.agg (bn d e f C)] [al q]:=
 h.of
theorem alk(h:af (vt a d [.b (b==e) true,.b (c==f) false])):
 aw 284 [.agg (bn a b c A),.agg (bn d e f C)] [al false]:=
 h.of
theorem alm(h:af (vt a c [.b (b==d) false])):
 aw 284 [.agg (bn a b e A),.agg (bn c d f C)] [al false]:=
 h.of
theorem aln(h:af [.b (a==b) false]):
 aw 284 [.agg (bn a c d A),.agg (bn b e f C)] [al false]:=
 h.of
theorem alo{A C:ah}{g2:Nat}{cE:List D}(h:af (mn A C [])):
 aw 194 [aM 8 A,aM 8 C,.one (.cl g2 cE)] [al false]:=
 h.of
def xD(A C:ah)(g2:Nat)(cE:List D)(a:Int):aF:=bf 32 [(1,cX 8 C),(2,.aI (.one (.fd (D.cl g2 cE)))),(15,cX 8 A),(16,a1 (A.length:Int)),(17,a1 a)] []
def M0(q:Bool):aF:=bf 32 [(6,.aI (.one (.bc q)))] []
theorem alp{A C:ah}{g2:Nat}{cE:List D}{a:Int}{S bz V X Y E F G H au K L M N Q R:ah}{q:Bool}(h:af [.i A a (bj S bz V X Y E F G),.x C a (bj H au K L M N Q R),.p (jJ prog g2=true),.r g2 ([.agg (bj S bz V X Y E F G),.agg (bj H au K L M N Q R)]++List.map .one cE) [al q],.n q true]):
 aY (aq f194 0) (xD A C g2 cE a) .ret (M0 false):=
 h.aW [6] []
theorem alq{A C:ah}{g2:Nat}{cE:List D}{a:Int}{S bz V X Y E F G H au K L M N Q R:ah}{q:Bool}(h:af [.i A a (bj S bz V X Y E F G),.x C a (bj H au K L M N Q R),.p (jJ prog g2=true),.r g2 ([.agg (bj S bz V X Y E F G),.agg (bj H au K L M N Q R)]++List.map .one cE) [al q],.n q false,.u a]):
 aY (aq f194 0) (xD A C g2 cE a) .normal (xD A C g2 cE (a+1)):=
 h.aW [17,16,15,1,2] []
def VL:aF:=bf 32 [] []
theorem alr{A C:ah}{g2:Nat}{cE:List D}{a:Int}(h:af [.f A a false]):
 aY (aq f194 0) (xD A C g2 cE a) (.exit 0) VL:=
 h.aW [] []
theorem als{A C:ah}{g2:Nat}{cE:List D}{q:Bool}(h:af (gV A C [.l [] [17,16,15,1,2] [] (aq f194 0) (xD A C g2 cE 0) .ret (M0 q)])):
 aw 194 [aM 8 A,aM 8 C,.one (.cl g2 cE)] [al q]:=
 h.of
theorem akS{A C:ah}{g2:Nat}{cE:List D}(h:af (gV A C [.l [] [17,16,15,1,2] [] (aq f194 0) (xD A C g2 cE 0) (.exit 0) VL])):
 aw 194 [aM 8 A,aM 8 C,.one (.cl g2 cE)] [al true]:=
 h.of
theorem akT{A C:ah}{g2:Nat}{cE:List D}(h:af (mn A C [])):
 aw 196 [aM 6 A,aM 6 C,.one (.cl g2 cE)] [al false]:=
 h.of
def wY(A C:ah)(g2:Nat)(cE:List D)(a:Int):aF:=bf 32 [(1,cX 6 C),(2,.aI (.one (.fd (D.cl g2 cE)))),(15,cX 6 A),(16,a1 (A.length:Int)),(17,a1 a)] []
def M1(q:Bool):aF:=bf 32 [(6,.aI (.one (.bc q)))] []
theorem akU{A C:ah}{g2:Nat}{cE:List D}{a i:Int}{F:ah}{j k l b c:Int}{E:ah}{d e f g:Int}{q:Bool}(h:af [.i A a (b5 i F j k l b),.x C a (b5 c E d e f g),.p (jJ prog g2=true),.r g2 ([.agg (b5 i F j k l b),.agg (b5 c E d e f g)]++List.map .one cE) [al q],.n q true]):
 aY (aq f196 0) (wY A C g2 cE a) .ret (M1 false):=
 h.aW [6] []
theorem akV{A C:ah}{g2:Nat}{cE:List D}{a i:Int}{F:ah}{j k l b c:Int}{E:ah}{d e f g:Int}{q:Bool}(h:af [.i A a (b5 i F j k l b),.x C a (b5 c E d e f g),.p (jJ prog g2=true),.r g2 ([.agg (b5 i F j k l b),.agg (b5 c E d e f g)]++List.map .one cE) [al q],.n q false,.u a]):
 aY (aq f196 0) (wY A C g2 cE a) .normal (wY A C g2 cE (a+1)):=
 h.aW [17,16,15,1,2] []
def VM:aF:=bf 32 [] []
theorem akW{A C:ah}{g2:Nat}{cE:List D}{a:Int}(h:af [.f A a false]):
 aY (aq f196 0) (wY A C g2 cE a) (.exit 0) VM:=
 h.aW [] []
theorem akX{A C:ah}{g2:Nat}{cE:List D}{q:Bool}(h:af (gV A C [.l [] [17,16,15,1,2] [] (aq f196 0) (wY A C g2 cE 0) .ret (M1 q)])):
 aw 196 [aM 6 A,aM 6 C,.one (.cl g2 cE)] [al q]:=
 h.of
theorem akY{A C:ah}{g2:Nat}{cE:List D}(h:af (gV A C [.l [] [17,16,15,1,2] [] (aq f196 0) (wY A C g2 cE 0) (.exit 0) VM])):
 aw 196 [aM 6 A,aM 6 C,.one (.cl g2 cE)] [al true]:=
 h.of
theorem akZ{A C:ah}{g2:Nat}{cE:List D}(h:af (mn A C [])):
 aw 283 [aM 4 A,aM 4 C,.one (.cl g2 cE)] [al false]:=
 h.of
def wZ(A C:ah)(g2:Nat)(cE:List D)(a:Int):aF:=bf 32 [(1,cX 4 C),(2,.aI (.one (.fd (D.cl g2 cE)))),(15,cX 4 A),(16,a1 (A.length:Int)),(17,a1 a)] []
def M3(q:Bool):aF:=bf 32 [(6,.aI (.one (.bc q)))] []
theorem ak0{A C:ah}{g2:Nat}{cE:List D}{a d e f:Int}{F:ah}{g b c:Int}{E:ah}{q:Bool}(h:af [.i A a (bn d e f F),.x C a (bn g b c E),.p (jJ prog g2=true),.r g2 ([.agg (bn d e f F),.agg (bn g b c E)]++List.map .one cE) [al q],.n q true]):
 aY (aq f283 0) (wZ A C g2 cE a) .ret (M3 false):=
 h.aW [6] []
theorem ak1{A C:ah}{g2:Nat}{cE:List D}{a d e f:Int}{F:ah}{g b c:Int}{E:ah}{q:Bool}(h:af [.i A a (bn d e f F),.x C a (bn g b c E),.p (jJ prog g2=true),.r g2 ([.agg (bn d e f F),.agg (bn g b c E)]++List.map .one cE) [al q],.n q false,.u a]):
 aY (aq f283 0) (wZ A C g2 cE a) .normal (wZ A C g2 cE (a+1)):=
 h.aW [17,16,15,1,2] []
def VN:aF:=bf 32 [] []
theorem amu{A C:ah}{g2:Nat}{cE:List D}{a:Int}(h:af [.f A a false]):
 aY (aq f283 0) (wZ A C g2 cE a) (.exit 0) VN:=
 h.aW [] []
theorem amv{A C:ah}{g2:Nat}{cE:List D}{q:Bool}(h:af (gV A C [.l [] [17,16,15,1,2] [] (aq f283 0) (wZ A C g2 cE 0) .ret (M3 q)])):
 aw 283 [aM 4 A,aM 4 C,.one (.cl g2 cE)] [al q]:=
 h.of
theorem amw{A C:ah}{g2:Nat}{cE:List D}(h:af (gV A C [.l [] [17,16,15,1,2] [] (aq f283 0) (wZ A C g2 cE 0) (.exit 0) VN])):
 aw 283 [aM 4 A,aM 4 C,.one (.cl g2 cE)] [al true]:=
 h.of
theorem amx(h:af (mn A C [])):
 aw 198 [aM 5 A,aM 5 C] [al false]:=
 h.of
def w2(A C:ah)(a:Int):aF:=bf 26 [(0,cX 5 A),(1,cX 5 C),(12,a1 (A.length:Int)),(13,a1 a)] []
def M4(q:Bool):aF:=bf 26 [(4,.aI (.one (.bc q)))] []
theorem amy(h:af [.i A a [B s,I c,I d,B t,B u],.x C a [B v,I e,I b,B q,B r],.b (!(s==v&&(c==e&&(d==b&&(t==q&&u==r))))) true]):
 aY (aq f198 0) (w2 A C a) .ret (M4 false):=
 h.aW [4] []
theorem amz(h:af [.i A a [B s,I c,I d,B t,B u],.x C a [B v,I e,I b,B q,B r],.b (!(s==v&&(c==e&&(d==b&&(t==q&&u==r))))) false,.u a]):
 aY (aq f198 0) (w2 A C a) .normal (w2 A C (a+1)):=
 h.aW [13,12,0,1] []
def VO:aF:=bf 26 [] []
theorem amA(h:af [.f A a false]):
 aY (aq f198 0) (w2 A C a) (.exit 0) VO:=
 h.aW [] []
theorem amB(h:af (gV A C [.l [] [13,12,0,1] [] (aq f198 0) (w2 A C 0) .ret (M4 q)])):
 aw 198 [aM 5 A,aM 5 C] [al q]:=
 h.of
theorem amC(h:af (gV A C [.l [] [13,12,0,1] [] (aq f198 0) (w2 A C 0) (.exit 0) VO])):
 aw 198 [aM 5 A,aM 5 C] [al true]:=
 h.of
theorem amD(h:af (mn A C [])):
 aw 199 [aM 3 A,aM 3 C] [al false]:=
 h.of
def w3(A C:ah)(a:Int):aF:=bf 26 [(0,cX 3 A),(1,cX 3 C),(12,a1 (A.length:Int)),(13,a1 a)] []
def M5(q:Bool):aF:=bf 26 [(4,.aI (.one (.bc q)))] []
theorem amE(h:af [.i A a [I b,I c,B q],.x C a [I d,I e,B r],.b (!(b==d&&(c==e&&q==r))) true]):
 aY (aq f199 0) (w3 A C a) .ret (M5 false):=
 h.aW [4] []
theorem amF(h:af [.i A a [I b,I c,B q],.x C a [I d,I e,B r],.b (!(b==d&&(c==e&&q==r))) false,.u a]):
 aY (aq f199 0) (w3 A C a) .normal (w3 A C (a+1)):=
 h.aW [13,12,0,1] []
def VP:aF:=bf 26 [] []
theorem amG(h:af [.f A a false]):
 aY (aq f199 0) (w3 A C a) (.exit 0) VP:=
 h.aW [] []
theorem amH(h:af (gV A C [.l [] [13,12,0,1] [] (aq f199 0) (w3 A C 0) .ret (M5 q)])):
 aw 199 [aM 3 A,aM 3 C] [al q]:=
 h.of
theorem amI(h:af (gV A C [.l [] [13,12,0,1] [] (aq f199 0) (w3 A C 0) (.exit 0) VP])):
 aw 199 [aM 3 A,aM 3 C] [al true]:=
 h.of
theorem amJ(h:af (mn A C [])):
 aw 285 [aM 1 A,aM 1 C] [al false]:=
 h.of
def w4(A C:ah)(a:Int):aF:=bf 26 [(0,cX 1 A),(1,cX 1 C),(12,a1 (A.length:Int)),(13,a1 a)] []
def Me(q:Bool):aF:=bf 26 [(4,.aI (.one (.bc q)))] []
theorem amK(h:af [.i A a [I b],.x C a [I c],.b (b != c) true]):
 aY (aq f285 0) (w4 A C a) .ret (Me false):=
 h.aW [4] []
theorem amL(h:af [.i A a [I b],.x C a [I c],.b (b != c) false,.u a]):
 aY (aq f285 0) (w4 A C a) .normal (w4 A C (a+1)):=
 h.aW [13,12,0,1] []
def VQ:aF:=bf 26 [] []
theorem amM(h:af [.f A a false]):
 aY (aq f285 0) (w4 A C a) (.exit 0) VQ:=
 h.aW [] []
theorem amN(h:af (gV A C [.l [] [13,12,0,1] [] (aq f285 0) (w4 A C 0) .ret (Me q)])):
 aw 285 [aM 1 A,aM 1 C] [al q]:=
 h.of
theorem amO(h:af (gV A C [.l [] [13,12,0,1] [] (aq f285 0) (w4 A C 0) (.exit 0) VQ])):
 aw 285 [aM 1 A,aM 1 C] [al true]:=
 h.of
theorem amP(h:af (mn A C [])):
 aw 286 [aM 1 A,aM 1 C] [al false]:=
 h.of
def w5(A C:ah)(a:Int):aF:=bf 26 [(0,cX 1 A),(1,cX 1 C),(12,a1 (A.length:Int)),(13,a1 a)] []
def Mf(q:Bool):aF:=bf 26 [(4,.aI (.one (.bc q)))] []
theorem amQ(h:af [.i A a [B q],.x C a [B r],.b (!q==r) true]):
 aY (aq f286 0) (w5 A C a) .ret (Mf false):=
 h.aW [4] []
theorem amR(h:af [.i A a [B q],.x C a [B r],.b (!q==r) false,.u a]):
 aY (aq f286 0) (w5 A C a) .normal (w5 A C (a+1)):=
 h.aW [13,12,0,1] []
def VR:aF:=bf 26 [] []
theorem amS(h:af [.f A a false]):
 aY (aq f286 0) (w5 A C a) (.exit 0) VR:=
 h.aW [] []
theorem amT(h:af (gV A C [.l [] [13,12,0,1] [] (aq f286 0) (w5 A C 0) .ret (Mf q)])):
 aw 286 [aM 1 A,aM 1 C] [al q]:=
 h.of
theorem al4(h:af (gV A C [.l [] [13,12,0,1] [] (aq f286 0) (w5 A C 0) (.exit 0) VR])):
 aw 286 [aM 1 A,aM 1 C] [al true]:=
 h.of
theorem al5(h:af (mn A C [])):
 aw 287 [aM 2 A,aM 2 C] [al false]:=
 h.of
def w6(A C:ah)(a:Int):aF:=bf 26 [(0,cX 2 A),(1,cX 2 C),(12,a1 (A.length:Int)),(13,a1 a)] []
def Mg(q:Bool):aF:=bf 26 [(4,.aI (.one (.bc q)))] []
theorem al6(h:af [.i A a [I b,B q],.x C a [I c,B r],.b (!(b==c&&q==r)) true]):
 aY (aq f287 0) (w6 A C a) .ret (Mg false):=
 h.aW [4] []
theorem al7(h:af [.i A a [I b,B q],.x C a [I c,B r],.b (!(b==c&&q==r)) false,.u a]):
 aY (aq f287 0) (w6 A C a) .normal (w6 A C (a+1)):=
 h.aW [13,12,0,1] []
def VS:aF:=bf 26 [] []
theorem al8(h:af [.f A a false]):
 aY (aq f287 0) (w6 A C a) (.exit 0) VS:=
 h.aW [] []
theorem al9(h:af (gV A C [.l [] [13,12,0,1] [] (aq f287 0) (w6 A C 0) .ret (Mg q)])):
 aw 287 [aM 2 A,aM 2 C] [al q]:=
 h.of
theorem ama(h:af (gV A C [.l [] [13,12,0,1] [] (aq f287 0) (w6 A C 0) (.exit 0) VS])):
 aw 287 [aM 2 A,aM 2 C] [al true]:=
 h.of
