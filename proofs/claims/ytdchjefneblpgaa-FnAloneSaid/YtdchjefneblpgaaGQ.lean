import Derived.Test.YtdchjefneblpgaaGE
set_option linter.unusedVariables false
set_option linter.unusedSimpArgs false
namespace Go.Proofs.Ytdchjefneblpgaa
open Go.Sx Go.RowKit
variable {a b c d e f g i j k l : Int} {A C E F : aE} {q r s t : Bool}
def NO(A:aE)(q:Bool)(l:List O):List O:=.r 56 [ao (A.length:Int),ao 1,ao 8] [au q]::l
theorem Ug(h:al (NO A q [.n q true])):
 aA 33 [.agg (bj A a b)] [au false]:=
 h.of
def Aa(A:aE)(q:Bool)(a:Int)(r:Bool)(l:List O):List O:=NO A q (.n q false::.r 56 [ao a,ao 1,ao 4] [au r]::l)
theorem VH(h:al (Aa A q a r [.n r true])):
 aA 33 [.agg (bj A a b)] [au false]:=
 h.of
theorem VI(h:al (Aa A q a r [.n r false,.r 56 [ao b,ao 1,ao 4] [au s],.n s true])):
 aA 33 [.agg (bj A a b)] [au false]:=
 h.of
def lB(a:Int)(A:aE)(b c:Int):aG:=bR 97 [(1,bC 1),(3,bB a)] [(1,[.aa .free 4 A,aS b,aS c])]
def sa(q:Bool):aG:=bR 97 [(2,.aN (.one (.bP q)))] []
def Ab(A:aE)(a b c d:Int)(C:aE)(q:Bool)(l:List O):List O:=.i A a (aX b c d C)::.r 57 [.agg (aX b c d C)] [au q]::l
theorem VJ(h:al (Ab C d a b c A q [.n q true])):
 bp (aF Try.f33 0) (lB d C e f) .ret (sa false):=
 h.bu [2] []
theorem VK(h:al (Ab C b a c d A q [.n q false,.b (!(a==1)==(b==0)) true])):
 bp (aF Try.f33 0) (lB b C e f) .ret (sa false):=
 h.bu [2] []
def gy(a:Int)(A:aE)(b c d e f:Int)(C:aE)(g:Int):aG:=bR 97 [(1,bC 1),(3,bB a),(4,bC 4),(5,bB g)] [(4,[aS d,aS e,aS f,.aa .free 1 C]),(1,[.aa .free 4 A,aS b,aS c])]
def oF(q:Bool):aG:=bR 97 [(2,.aN (.one (.bP q)))] []
theorem VL(h:al [.i A a [I b],.b (decide (b>=(C.length:Int))) true]):
 bp (aF Try.f33 1) (gy f C g i c d e A a) .ret (oF false):=
 h.bu [2] []
def Ad(A:aE)(a b:Int)(C:aE)(l:List O):List O:=.i A a [I b]::.b (decide (b>=(C.length:Int))) false::l
theorem VM(h:al (Ad A c a C [.b (b != 7) true,.b (decide (a<=d)) true])):
 bp (aF Try.f33 1) (gy d C g i b e f A c) .ret (oF false):=
 h.bu [2] []
def xf(A:aE)(a b:Int)(C:aE)(c d e f g:Int)(E:aE)(l:List O):List O:=Ad A a b C (.b (c != 7) true::.b (decide (b<=d)) false::.x C b (aX e f g E)::l)
theorem VN(h:al (xf C d a A b c g i j E [.b (b==7) true,.b (decide (a>c)) true])):
 bp (aF Try.f33 1) (gy c A k l b e f C d) .ret (oF false):=
 h.bu [2] []
theorem VO(h:al (xf C e a A b d c i j E [.b (b==7) true,.b (decide (a>d)) false,.b (c != 5) true,.b (c != 6) true])):
 bp (aF Try.f33 1) (gy d A k l b f g C e) .ret (oF false):=
 h.bu [2] []
theorem VP(h:al (xf C c a A b d e k l E [.b (b==7) true,.b (decide (a>d)) false,.b (e != 5) true,.b (e != 6) false,.u c])):
 bp (aF Try.f33 1) (gy d A i j b f g C c) .normal (gy d A i j b f g C (c+1)):=
 h.bu [5,4,1,3] [4,1]
theorem VQ(h:al (xf C c a A b d g k l E [.b (b==7) true,.b (decide (a>d)) false,.b (g != 5) false,.u c])):
 bp (aF Try.f33 1) (gy d A i j b e f C c) .normal (gy d A i j b e f C (c+1)):=
 h.bu [5,4,1,3] [4,1]
theorem VR(h:al (xf C b c A a d j k l E [.b (a==7) false,.u b])):
 bp (aF Try.f33 1) (gy d A g i a e f C b) .normal (gy d A g i a e f C (b+1)):=
 h.bu [5,4,1,3] [4,1]
def xg(A:aE)(a b:Int)(C:aE)(c d e f:Int)(E:aE)(l:List O):List O:=Ad A a b C (.b (c != 7) false::.x C b (aX d e f E)::l)
theorem VS(h:al (xg C c a A b g i j E [.b (b==7) true,.b (decide (a>d)) true])):
 bp (aF Try.f33 1) (gy d A k l b e f C c) .ret (oF false):=
 h.bu [2] []
theorem VT(h:al (xg C d a A b c i j E [.b (b==7) true,.b (decide (a>e)) false,.b (c != 5) true,.b (c != 6) true])):
 bp (aF Try.f33 1) (gy e A k l b f g C d) .ret (oF false):=
 h.bu [2] []
theorem VU(h:al (xg C b c A a d k l E [.b (a==7) true,.b (decide (c>e)) false,.b (d != 5) true,.b (d != 6) false,.u b])):
 bp (aF Try.f33 1) (gy e A i j a f g C b) .normal (gy e A i j a f g C (b+1)):=
 h.bu [5,4,1,3] [4,1]
theorem VV(h:al (xg C b c A a g k l E [.b (a==7) true,.b (decide (c>d)) false,.b (g != 5) false,.u b])):
 bp (aF Try.f33 1) (gy d A i j a e f C b) .normal (gy d A i j a e f C (b+1)):=
 h.bu [5,4,1,3] [4,1]
theorem VW(h:al (xg C b c A a j k l E [.b (a==7) false,.u b])):
 bp (aF Try.f33 1) (gy f A g i a d e C b) .normal (gy f A g i a d e C (b+1)):=
 h.bu [5,4,1,3] [4,1]
def DV(a:Int)(A:aE)(b c:Int):aG:=bR 97 [(1,bC 1),(3,bB a)] [(1,[.aa .free 4 A,aS b,aS c])]
theorem VX(h:al [.f A a false]):
 bp (aF Try.f33 1) (gy b C c d e f g A a) (.exit 2) (DV b C c d):=
 h.bu [3,1] [1]
theorem VY(h:al (Ab C b a c d A q [.n q false,.b (!(a==1)==(b==0)) false,.l [] [5,4,1,3] [4,1] (aF Try.f33 1) (gy b C e f a c d A 0) .ret (oF r)])):
 bp (aF Try.f33 0) (lB b C e f) .ret (sa r):=
 h.bu [2] []
theorem VZ(h:al (Ab A a b e f C q [.n q false,.b (!(b==1)==(a==0)) false,.l [] [5,4,1,3] [4,1] (aF Try.f33 1) (gy a A c d b e f C 0) (.exit 2) (DV a A c d),.u a])):
 bp (aF Try.f33 0) (lB a A c d) .normal (lB (a+1) A c d):=
 h.bu [3,1] [1]
def DW:aG:=bR 97 [] []
theorem V0(h:al [.f A a false]):
 bp (aF Try.f33 0) (lB a A b c) (.exit 0) DW:=
 h.bu [] []
theorem V1(h:al (Aa A q a r [.n r false,.r 56 [ao b,ao 1,ao 4] [au s],.n s false,.l [] [3,1] [1] (aF Try.f33 0) (lB 0 A a b) .ret (sa t)])):
 aA 33 [.agg (bj A a b)] [au t]:=
 h.of
theorem V2(h:al (Aa A q a r [.n r false,.r 56 [ao b,ao 1,ao 4] [au s],.n s false,.l [] [3,1] [1] (aF Try.f33 0) (lB 0 A a b) (.exit 0) DW])):
 aA 33 [.agg (bj A a b)] [au true]:=
 h.of
def NP(A:aE)(q:Bool)(l:List O):List O:=.r 49 [ao (A.length:Int),ao 1,ao 8] [au q]::l
theorem V3(h:al (NP A q [.n q true])):
 aA 29 [.agg (bj A a b)] [au false]:=
 h.of
def Ae(A:aE)(q:Bool)(a:Int)(r:Bool)(l:List O):List O:=NP A q (.n q false::.r 49 [ao a,ao 1,ao 4] [au r]::l)
theorem V4(h:al (Ae A q a r [.n r true])):
 aA 29 [.agg (bj A a b)] [au false]:=
 h.of
theorem V5(h:al (Ae A q a r [.n r false,.r 49 [ao b,ao 1,ao 4] [au s],.n s true])):
 aA 29 [.agg (bj A a b)] [au false]:=
 h.of
def lC(A:aE)(a:Int)(C:aE)(b c:Int):aG:=bR 90 [(1,bC 1),(26,eB 4 A),(27,bB (A.length:Int)),(28,bB a)] [(1,[.aa .free 4 C,aS b,aS c])]
def sb(q:Bool):aG:=bR 90 [(2,.aN (.one (.bP q)))] []
def Ac(A:aE)(a b c d:Int)(C:aE)(q:Bool)(l:List O):List O:=.i A a (aX b c d C)::.r 50 [.agg (aX b c d C)] [au q]::l
theorem V6(h:al (Ac A d a b c C q [.n q true])):
 bp (aF Try.f29 0) (lC A d E e f) .ret (sb false):=
 h.bu [2] []
theorem Vh(h:al (Ac A b a c d C q [.n q false,.b (!(a==1)==(b==0)) true])):
 bp (aF Try.f29 0) (lC A b E e f) .ret (sb false):=
 h.bu [2] []
def gz(C:aE)(a:Int)(E:aE)(b c d e f:Int)(A:aE)(g:Int):aG:=bR 90 [(1,bC 1),(3,bB a),(4,bC 4),(26,eB 4 C),(27,bB (C.length:Int)),(28,bB a),(45,eB 1 A),(46,bB (A.length:Int)),(47,bB g)] [(4,[aS d,aS e,aS f,.aa .free 1 A]),(1,[.aa .free 4 E,aS b,aS c])]
def oG(q:Bool):aG:=bR 90 [(2,.aN (.one (.bP q)))] []
theorem Vi(h:al [.i A a [I b],.b (decide (b>=(C.length:Int))) true]):
 bp (aF Try.f29 1) (gz E f C g i c d e A a) .ret (oG false):=
 h.bu [2] []
def xh(A:aE)(a b:Int)(C:aE)(c d e:Int)(E:aE)(l:List O):List O:=Ad A a b C (.x C b (aX c d e E)::l)
theorem Vj(h:al (xh C c a A g i j F [.b (b==7) true,.b (decide (a>d)) true])):
 bp (aF Try.f29 1) (gz E d A k l b e f C c) .ret (oG false):=
 h.bu [2] []
def sV(A:aE)(a b:Int)(C:aE)(c d e:Int)(E:aE)(f g:Int)(l:List O):List O:=xh A a b C c d e E (.b (f==7) true::.b (decide (b>g)) false::l)
theorem Vk(h:al (sV C d a A b i j F c e [.b (b != 5) true,.b (b != 6) true])):
 bp (aF Try.f29 1) (gz E e A k l c f g C d) .ret (oG false):=
 h.bu [2] []
theorem Vl(h:al (sV C e a A c i j F b d [.b (c != 5) true,.b (c != 6) false,.b (b != 7) true,.b (decide (a<=d)) true])):
 bp (aF Try.f29 1) (gz E d A k l b f g C e) .ret (oG false):=
 h.bu [2] []
theorem Vm(h:al (sV C c a A e k l F b d [.b (e != 5) true,.b (e != 6) false,.b (b != 7) true,.b (decide (a<=d)) false,.u c])):
 bp (aF Try.f29 1) (gz E d A i j b f g C c) .normal (gz E d A i j b f g C (c+1)):=
 h.bu [47,46,45,1,4,3,28,27,26] [4,1]
theorem Vn(h:al (sV C b c A d k l F a e [.b (d != 5) true,.b (d != 6) false,.b (a != 7) false,.u b])):
 bp (aF Try.f29 1) (gz E e A i j a f g C b) .normal (gz E e A i j a f g C (b+1)):=
 h.bu [47,46,45,1,4,3,28,27,26] [4,1]
theorem Vo(h:al (sV C d a A e i j F b c [.b (e != 5) false,.b (b != 7) true,.b (decide (a<=c)) true])):
 bp (aF Try.f29 1) (gz E c A k l b f g C d) .ret (oG false):=
 h.bu [2] []
theorem Vp(h:al (sV C c a A g k l F b d [.b (g != 5) false,.b (b != 7) true,.b (decide (a<=d)) false,.u c])):
 bp (aF Try.f29 1) (gz E d A i j b e f C c) .normal (gz E d A i j b e f C (c+1)):=
 h.bu [47,46,45,1,4,3,28,27,26] [4,1]
theorem Vq(h:al (sV C b c A g k l F a d [.b (g != 5) false,.b (a != 7) false,.u b])):
 bp (aF Try.f29 1) (gz E d A i j a e f C b) .normal (gz E d A i j a e f C (b+1)):=
 h.bu [47,46,45,1,4,3,28,27,26] [4,1]
theorem Vr(h:al (xh C c a A g i j F [.b (b==7) false,.b (b != 7) true,.b (decide (a<=d)) true])):
 bp (aF Try.f29 1) (gz E d A k l b e f C c) .ret (oG false):=
 h.bu [2] []
theorem Vs(h:al (xh C b c A j k l F [.b (a==7) false,.b (a != 7) true,.b (decide (c<=d)) false,.u b])):
 bp (aF Try.f29 1) (gz E d A g i a e f C b) .normal (gz E d A g i a e f C (b+1)):=
 h.bu [47,46,45,1,4,3,28,27,26] [4,1]
theorem Vt(h:al (xh C b c A j k l F [.b (a==7) false,.b (a != 7) false,.u b])):
 bp (aF Try.f29 1) (gz E f A g i a d e C b) .normal (gz E f A g i a d e C (b+1)):=
 h.bu [47,46,45,1,4,3,28,27,26] [4,1]
def DX(A:aE)(a:Int)(C:aE)(b c:Int):aG:=bR 90 [(1,bC 1),(26,eB 4 A),(27,bB (A.length:Int)),(28,bB a)] [(1,[.aa .free 4 C,aS b,aS c])]
theorem Vu(h:al [.f C a false]):
 bp (aF Try.f29 1) (gz A b E c d e f g C a) (.exit 2) (DX A b E c d):=
 h.bu [28,27,26,1] [1]
theorem Vv(h:al (Ac A b a c d C q [.n q false,.b (!(a==1)==(b==0)) false,.l [] [47,46,45,1,4,3,28,27,26] [4,1] (aF Try.f29 1) (gz A b E e f a c d C 0) .ret (oG r)])):
 bp (aF Try.f29 0) (lC A b E e f) .ret (sb r):=
 h.bu [2] []
theorem Vw(h:al (Ac A a b e f E q [.n q false,.b (!(b==1)==(a==0)) false,.l [] [47,46,45,1,4,3,28,27,26] [4,1] (aF Try.f29 1) (gz A a C c d b e f E 0) (.exit 2) (DX A a C c d),.u a])):
 bp (aF Try.f29 0) (lC A a C c d) .normal (lC A (a+1) C c d):=
 h.bu [28,27,26,1] [1]
def DY:aG:=bR 90 [] []
theorem Vx(h:al [.f A a false]):
 bp (aF Try.f29 0) (lC A a C b c) (.exit 0) DY:=
 h.bu [] []
theorem Vy(h:al (Ae A q a r [.n r false,.r 49 [ao b,ao 1,ao 4] [au s],.n s false,.l [] [28,27,26,1] [1] (aF Try.f29 0) (lC A 0 A a b) .ret (sb t)])):
 aA 29 [.agg (bj A a b)] [au t]:=
 h.of
theorem Vz(h:al (Ae A q a r [.n r false,.r 49 [ao b,ao 1,ao 4] [au s],.n s false,.l [] [28,27,26,1] [1] (aF Try.f29 0) (lC A 0 A a b) (.exit 0) DY])):
 aA 29 [.agg (bj A a b)] [au true]:=
 h.of
def Gd(a:Int)(q:Bool)(b c:Int)(r:Bool)(l:List O):List O:=.r 56 [ao a,ao 0,ao 7] [au q]::.b q true::.r 58 [.agg [I b,I c]] [au r]::l
theorem VA(h:al (Gd a q b c r [.b r true,.r 56 [ao d,ao 0,ao 99] [au s],.b s true,.r 56 [ao e,ao 0,ao 999] [au t]])):
 aA 34 [.agg (bx a b c d e)] [au t]:=
 h.of
theorem VB(h:al (Gd a q b c r [.b r true,.r 56 [ao d,ao 0,ao 99] [au s],.b s false])):
 aA 34 [.agg (bx a b c d e)] [au false]:=
 h.of
theorem VC(h:al (Gd a q b c r [.b r false])):
 aA 34 [.agg (bx a b c d e)] [au false]:=
 h.of
theorem VD(h:al [.r 56 [ao a,ao 0,ao 7] [au q],.b q false]):
 aA 34 [.agg (bx a b c d e)] [au false]:=
 h.of
theorem VE(h:al [.r 49 [ao a,ao 0,ao 7] [au q],.b q true,.r 51 [.agg [I b,I c]] [au r],.b r true,.r 52 [ao d,ao e] [au s]]):
 aA 31 [.agg (bx a b c d e)] [au s]:=
 h.of
theorem VF(h:al [.r 49 [ao a,ao 0,ao 7] [au q],.b q true,.r 51 [.agg [I b,I c]] [au r],.b r false]):
 aA 31 [.agg (bx a b c d e)] [au false]:=
 h.of
theorem VG(h:al [.r 49 [ao a,ao 0,ao 7] [au q],.b q false]):
 aA 31 [.agg (bx a b c d e)] [au false]:=
 h.of
theorem U8(h:al [.r 56 [ao a,ao 0,ao 3] [au q],.b q true,.r 56 [ao b,ao 0,ao 6] [au r]]):
 aA 58 [.agg [I a,I b]] [au r]:=
 h.of
theorem U9(h:al [.r 56 [ao a,ao 0,ao 3] [au q],.b q false]):
 aA 58 [.agg [I a,I b]] [au false]:=
 h.of
theorem U'(h:al [.r 49 [ao a,ao 0,ao 3] [au q],.b q true,.r 49 [ao b,ao 0,ao 6] [au r]]):
 aA 51 [.agg [I a,I b]] [au r]:=
 h.of
theorem Va(h:al [.r 49 [ao a,ao 0,ao 3] [au q],.b q false]):
 aA 51 [.agg [I a,I b]] [au false]:=
 h.of
theorem Vb(h:al [.r 58 [.agg [I a,I b]] [au q],.n q true]):
 aA 59 [.agg [I a,I b]] [.agg [I a,I b],au false]:=
 h.of
theorem Vc(h:al [.r 58 [.agg [I b,I a]] [au q],.n q false,.b (decide (a>=6)) true]):
 aA 59 [.agg [I b,I a]] [.agg [I b,I a],au false]:=
 h.of
theorem Vd(h:al [.r 58 [.agg [I b,I a]] [au q],.n q false,.b (decide (a>=6)) false,.u a]):
 aA 59 [.agg [I b,I a]] [.agg [I b,I (a+1)],au true]:=
 h.of
theorem Ve(h:al [.r 51 [.agg [I a,I b]] [au q],.n q true]):
 aA 38 [.agg [I a,I b]] [.agg [I a,I b],au false]:=
 h.of
theorem Vf(h:al [.r 51 [.agg [I b,I a]] [au q],.n q false,.b (a==6) true]):
 aA 38 [.agg [I b,I a]] [.agg [I b,I a],au false]:=
 h.of
theorem Vg(h:al [.r 51 [.agg [I b,I a]] [au q],.n q false,.b (a==6) false,.u a]):
 aA 38 [.agg [I b,I a]] [.agg [I b,I (a+1)],au true]:=
 h.of
def NQ(a b c:Int)(A:aE)(q:Bool)(l:List O):List O:=.r 57 [.agg (aX a b c A)] [au q]::l
theorem WH(h:al (NQ a b c A q [.n q true])):
 aA 60 [.agg (aX a b c A),ao d,ao e] [ao d,ao e,au false]:=
 h.of
def NB(a b c:Int)(A:aE)(q:Bool)(d:Int)(r:Bool)(l:List O):List O:=NQ a b c A q (.n q false::.r 56 [ao d,ao 0,ao 99] [au r]::l)
theorem WI(h:al (NB b c d A q a r [.n r true])):
 aA 60 [.agg (aX b c d A),ao a,ao e] [ao a,ao e,au false]:=
 h.of
def w6(a b c:Int)(A:aE)(q:Bool)(d:Int)(r:Bool)(e:Int)(s:Bool)(l:List O):List O:=NB a b c A q d r (.n r false::.r 56 [ao e,ao 0,ao 999] [au s]::l)
theorem WJ(h:al (w6 c d e A q a r b s [.n s true])):
 aA 60 [.agg (aX c d e A),ao a,ao b] [ao a,ao b,au false]:=
 h.of
theorem WK(h:al (w6 c a e A q d r b s [.n s false,.b (c==2) true,.v (b+a),.r 74 [ao (b+a),ao 999] [ao f]])):
 aA 60 [.agg (aX c a e A),ao d,ao b] [ao d,ao f,au true]:=
 h.of
theorem WL(h:al (w6 a b e A q c r d s [.n s false,.b (a==2) false,.b (a==4) true,.v (c+b),.p ((100:Int)≠0)])):
 aA 60 [.agg (aX a b e A),ao c,ao d] [ao ((c+b).tmod 100),ao d,au true]:=
 h.of
theorem WM(h:al (w6 a b d A q c r e s [.n s false,.b (a==2) false,.b (a==4) false,.b (a==3) true,.p (b≠0)])):
 aA 60 [.agg (aX a b d A),ao c,ao e] [ao c,ao e,au (c.tmod b==d)]:=
 h.of
theorem WN(h:al (w6 a d e A q b r c s [.n s false,.b (a==2) false,.b (a==4) false,.b (a==3) false])):
 aA 60 [.agg (aX a d e A),ao b,ao c] [ao b,ao c,au (a != 8)]:=
 h.of
theorem WO(h:al [.r 50 [.agg (aX a b c A)] [au q],.n q true]):
 aA 54 [.agg (aX a b c A),ao d,ao e] [ao d,ao e,au false]:=
 h.of
def w7(a b c:Int)(A:aE)(q:Bool)(d e:Int)(r:Bool)(l:List O):List O:=.r 50 [.agg (aX a b c A)] [au q]::.n q false::.r 52 [ao d,ao e] [au r]::l
theorem WQ(h:al (w7 c d e A q a b r [.n r true])):
 aA 54 [.agg (aX c d e A),ao a,ao b] [ao a,ao b,au false]:=
 h.of
theorem WR(h:al (w7 c a e A q d b r [.n r false,.b (c==2) true,.v (b+a)])):
 aA 54 [.agg (aX c a e A),ao d,ao b] [ao d,ao (if b+a<999 then b+a else 999),au true]:=
 h.of
theorem WS(h:al (w7 a b e A q c d r [.n r false,.b (a==2) false,.b (a==4) true,.v (c+b),.p ((100:Int)≠0)])):
 aA 54 [.agg (aX a b e A),ao c,ao d] [ao ((c+b).tmod 100),ao d,au true]:=
 h.of
theorem WT(h:al (w7 a b d A q c e r [.n r false,.b (a==2) false,.b (a==4) false,.b (a==3) true,.p (b≠0)])):
 aA 54 [.agg (aX a b d A),ao c,ao e] [ao c,ao e,au (c.tmod b==d)]:=
 h.of
theorem WU(h:al (w7 a d e A q b c r [.n r false,.b (a==2) false,.b (a==4) false,.b (a==3) false])):
 aA 54 [.agg (aX a d e A),ao b,ao c] [ao b,ao c,au (a != 8)]:=
 h.of
theorem WV(h:al [.b (decide (a<b)) true]):
 aA 74 [ao b,ao a] [ao a]:=
 h.of
theorem WW(h:al [.b (decide (b<a)) false]):
 aA 74 [ao a,ao b] [ao a]:=
 h.of
theorem WX(h:al [.r 49 [ao a,ao 0,ao 99] [au q],.b q true,.r 49 [ao b,ao 0,ao 999] [au r]]):
 aA 52 [ao a,ao b] [au r]:=
 h.of
theorem WY(h:al [.r 49 [ao a,ao 0,ao 99] [au q],.b q false]):
 aA 52 [ao a,ao b] [au false]:=
 h.of
