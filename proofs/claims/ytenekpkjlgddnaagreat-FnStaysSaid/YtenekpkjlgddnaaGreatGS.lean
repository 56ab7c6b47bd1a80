import Derived.Test.YtenekpkjlgddnaaGreatRows
import Derived.Test.YtenekpkjlgddnaaGreatGE
set_option linter.unusedVariables false
set_option linter.unusedSimpArgs false
namespace Go.Proofs.YtenekpkjlgddnaaGreat
open Go.Sx Go.RowKit
variable {a b c d e f g i j k l m n o : Int} {A C E F G : LL} {q r s t u v : Bool}
theorem qld(h:Oo [.r 59 [.agg (gr A a b)] [cB q],.n q true,.r 71 [cS 4 E] [cS 4 C]]):
 Rt 61 [.agg (gr A a b),cS 4 E,.agg (ri c d e f g)] [cS 4 C,cS 5 [],cB false]:=
 h.of
theorem qle(h:Oo [.r 59 [.agg (gr A a b)] [cB r],.n r false,.r 64 [.agg (ri c d e f g)] [cB q],.n q true,.r 71 [cS 4 E] [cS 4 C]]):
 Rt 61 [.agg (gr A a b),cS 4 E,.agg (ri c d e f g)] [cS 4 C,cS 5 [],cB false]:=
 h.of
theorem qu6(h:Oo [.r 59 [.agg (gr A a b)] [cB s],.n s false,.r 64 [.agg (ri c d e f g)] [cB q],.n q false,.r 74 [.agg (gr A a b),cI c] [cB r],.n r true,.r 71 [cS 4 E] [cS 4 C]]):
 Rt 61 [.agg (gr A a b),cS 4 E,.agg (ri c d e f g)] [cS 4 C,cS 5 [],cB false]:=
 h.of
theorem qu7(h:Oo [.r 59 [.agg (gr A b d)] [cB t],.n t false,.r 64 [.agg (ri a j k e f)] [cB q],.n q false,.r 74 [.agg (gr A b d),cI a] [cB r],.n r false,.p (0≤a),.p (a<(A.length:Int)),.e A a.toNat (nd c g i C),.r 75 [.agg (nd c g i C),cI e,cI f] [cI l,cI m,cB s],.n s true,.b (c != 8) true,.r 71 [cS 4 F] [cS 4 E]]):
 Rt 61 [.agg (gr A b d),cS 4 F,.agg (ri a j k e f)] [cS 4 E,cS 5 [],cB true]:=
 h.of
theorem qu8(h:Oo [.r 59 [.agg (gr A e f)] [cB u],.n u false,.r 64 [.agg (ri a g k c d)] [cB q],.n q false,.r 74 [.agg (gr A e f),cI a] [cB r],.n r false,.p (0≤a),.p (a<(A.length:Int)),.e A a.toNat (nd b i j C),.r 75 [.agg (nd b i j C),cI c,cI d] [cI l,cI m,cB s],.n s true,.b (b != 8) false,.r 76 [cI b,cS 4 F,.agg [I a,I g,I c,I d]] [cS 4 E,cB t],.n t true]):
 Rt 61 [.agg (gr A e f),cS 4 F,.agg (ri a g k c d)] [cS 4 E,cS 5 [],cB true]:=
 h.of
def qcr(A:LL)(a b:Int)(C:LL)(c d:Int)(q:Bool)(e:Int)(E:LL):St:=
 { env:=envOf 111 [(10,vI a),(11,vI b),(13,PV.al (AL.one (lO 760000 4 C))),(14,vP 14),(15,.al (.one (.sb q))),(16,PV.al (AL.one (lO 107 5 E))),(93,vF 1 A),(94,vI (A.length:Int)),(95,vI e)],boxes:=[(14,[lI c,lI d])] }
theorem qu9(h:Oo [.b (decide (a<(A.length:Int))) true,.p (0≤a),.p (a<(A.length:Int)),.e A a.toNat [I f],.b q true,.g C [(ri f d e b c)] 40,.h [(ri f d e b c)],.u a]):
 Tp (qab Tryz.f61 0) (qcr A b c E d e q a C) .normal (qcr A b c E d e q (a+1) (C++[(ri f d e b c)])):=
 h.lp [95,94,93,15,16,14,10,11,13] [14]
theorem qva(h:Oo [.b (decide (a<(A.length:Int))) true,.p (0≤a),.p (a<(A.length:Int)),.e A a.toNat [I f],.b q false,.u a]):
 Tp (qab Tryz.f61 0) (qcr A b c C d e q a E) .normal (qcr A b c C d e q (a+1) E):=
 h.lp [95,94,93,15,16,14,10,11,13] [14]
def qc6(A C:LL):St:=
 { env:=envOf 111 [(13,PV.al (AL.one (lO 760000 4 A))),(16,PV.al (AL.one (lO 107 5 C)))],boxes:=[] }
theorem qlf(h:Oo [.b (decide (a<(A.length:Int))) false]):
 Tp (qab Tryz.f61 0) (qcr A b c C d e q a E) (.exit 0) (qc6 C E):=
 h.lp [13,16] []
theorem qvb(h:Oo [.r 59 [.agg (gr A f g)] [cB v],.n v false,.r 64 [.agg (ri a c i d e)] [cB q],.n q false,.r 74 [.agg (gr A f g),cI a] [cB r],.n r false,.p (0≤a),.p (a<(A.length:Int)),.e A a.toNat (nd b j k E),.r 75 [.agg (nd b j k E),cI d,cI e] [cI l,cI m,cB s],.n s true,.b (b != 8) false,.r 76 [cI b,cS 4 G,.agg [I a,I c,I d,I e]] [cS 4 C,cB t],.n t false,.b (b==7) true,.r 77 [.agg [I c,I i]] [.agg [I n,I o],cB u],.l [(16,107,5)] [95,94,93,15,16,14,10,11,13] [14] (qab Tryz.f61 0) (qcr E l m C n o u 0 []) (.exit 0) (qc6 C F)]):
 Rt 61 [.agg (gr A f g),cS 4 G,.agg (ri a c i d e)] [cS 4 C,cS 5 F,cB true]:=
 h.of
def qdL(a b:Int)(A:LL)(c d:Int)(C:LL)(e:Int)(E:LL):St:=
 { env:=envOf 111 [(10,vI c),(11,vI d),(13,PV.al (AL.one (lO 760000 4 C))),(14,vP 14),(15,.al (.one (.sb true))),(16,PV.al (AL.one (lO 107 5 E))),(93,vF 1 A),(94,vI (A.length:Int)),(95,vI e)],boxes:=[(14,[lI a,lI b])] }
theorem qvc(h:Oo [.b (decide (a<(A.length:Int))) true,.p (0≤a),.p (a<(A.length:Int)),.e A a.toNat [I f],.b true true,.g C [(ri f d e b c)] 40,.h [(ri f d e b c)],.u a]):
 Tp (qab Tryz.f61 0) (qdL d e A b c E a C) .normal (qdL d e A b c E (a+1) (C++[(ri f d e b c)])):=
 h.lp [95,94,93,15,16,14,10,11,13] [14]
theorem qvd(h:Oo [.b (decide (a<(A.length:Int))) false]):
 Tp (qab Tryz.f61 0) (qdL d e A b c C a E) (.exit 0) (qc6 C E):=
 h.lp [13,16] []
theorem qve(h:Oo [.r 59 [.agg (gr A f g)] [cB u],.n u false,.r 64 [.agg (ri a c i d e)] [cB q],.n q false,.r 74 [.agg (gr A f g),cI a] [cB r],.n r false,.p (0≤a),.p (a<(A.length:Int)),.e A a.toNat (nd b j k E),.r 75 [.agg (nd b j k E),cI d,cI e] [cI l,cI m,cB s],.n s true,.b (b != 8) false,.r 76 [cI b,cS 4 G,.agg [I a,I c,I d,I e]] [cS 4 C,cB t],.n t false,.b (b==7) false,.l [(16,107,5)] [95,94,93,15,16,14,10,11,13] [14] (qab Tryz.f61 0) (qdL c i E l m C 0 []) (.exit 0) (qc6 C F)]):
 Rt 61 [.agg (gr A f g),cS 4 G,.agg (ri a c i d e)] [cS 4 C,cS 5 F,cB true]:=
 h.of
theorem qvf(h:Oo [.r 59 [.agg (gr A d f)] [cB u],.n u false,.r 64 [.agg (ri a g k b c)] [cB q],.n q false,.r 74 [.agg (gr A d f),cI a] [cB r],.n r false,.p (0≤a),.p (a<(A.length:Int)),.e A a.toNat (nd e i j C),.r 75 [.agg (nd e i j C),cI b,cI c] [cI l,cI m,cB s],.n s false,.r 76 [cI e,cS 4 F,.agg [I a,I g,I b,I c]] [cS 4 E,cB t],.n t true]):
 Rt 61 [.agg (gr A d f),cS 4 F,.agg (ri a g k b c)] [cS 4 E,cS 5 [],cB true]:=
 h.of
theorem qvg(h:Oo [.r 59 [.agg (gr A f g)] [cB v],.n v false,.r 64 [.agg (ri a c i d e)] [cB q],.n q false,.r 74 [.agg (gr A f g),cI a] [cB r],.n r false,.p (0≤a),.p (a<(A.length:Int)),.e A a.toNat (nd b j k E),.r 75 [.agg (nd b j k E),cI d,cI e] [cI l,cI m,cB s],.n s false,.r 76 [cI b,cS 4 G,.agg [I a,I c,I d,I e]] [cS 4 C,cB t],.n t false,.b (b==7) true,.r 77 [.agg [I c,I i]] [.agg [I n,I o],cB u],.l [(16,107,5)] [95,94,93,15,16,14,10,11,13] [14] (qab Tryz.f61 0) (qcr E l m C n o u 0 []) (.exit 0) (qc6 C F)]):
 Rt 61 [.agg (gr A f g),cS 4 G,.agg (ri a c i d e)] [cS 4 C,cS 5 F,cB true]:=
 h.of
theorem qvh(h:Oo [.r 59 [.agg (gr A f g)] [cB u],.n u false,.r 64 [.agg (ri a c i d e)] [cB q],.n q false,.r 74 [.agg (gr A f g),cI a] [cB r],.n r false,.p (0≤a),.p (a<(A.length:Int)),.e A a.toNat (nd b j k E),.r 75 [.agg (nd b j k E),cI d,cI e] [cI l,cI m,cB s],.n s false,.r 76 [cI b,cS 4 G,.agg [I a,I c,I d,I e]] [cS 4 C,cB t],.n t false,.b (b==7) false,.l [(16,107,5)] [95,94,93,15,16,14,10,11,13] [14] (qab Tryz.f61 0) (qdL c i E l m C 0 []) (.exit 0) (qc6 C F)]):
 Rt 61 [.agg (gr A f g),cS 4 G,.agg (ri a c i d e)] [cS 4 C,cS 5 F,cB true]:=
 h.of
theorem qvi(h:Oo [.r 59 [.agg (gr A a b)] [cB q],.n q true]):
 Rt 62 [.agg (gr A a b),.agg (ri c d e f g)] [cB false]:=
 h.of
theorem qvj(h:Oo [.r 59 [.agg (gr A a b)] [cB q],.n q false,.r 64 [.agg (ri c d e f g)] [cB r],.n r true]):
 Rt 62 [.agg (gr A a b),.agg (ri c d e f g)] [cB false]:=
 h.of
theorem qvk(h:Oo [.r 59 [.agg (gr A a b)] [cB r],.n r false,.r 64 [.agg (ri c d e f g)] [cB s],.n s false,.r 74 [.agg (gr A a b),cI c] [cB q],.n q true]):
 Rt 62 [.agg (gr A a b),.agg (ri c d e f g)] [cB false]:=
 h.of
theorem qvl(h:Oo [.r 59 [.agg (gr A b c)] [cB s],.n s false,.r 64 [.agg (ri a d e g i)] [cB t],.n t false,.r 74 [.agg (gr A b c),cI a] [cB q],.n q false,.p (0≤a),.p (a<(A.length:Int)),.e A a.toNat (nd f j k C),.r 77 [.agg [I d,I e]] [.agg [I l,I m],cB r],.b (f==7) true,.b (decide ((C.length:Int)>0)) true]):
 Rt 62 [.agg (gr A b c),.agg (ri a d e g i)] [.one (B !r)]:=
 h.of
theorem qvm(h:Oo [.r 59 [.agg (gr A b c)] [cB r],.n r false,.r 64 [.agg (ri a d e g i)] [cB s],.n s false,.r 74 [.agg (gr A b c),cI a] [cB q],.n q false,.p (0≤a),.p (a<(A.length:Int)),.e A a.toNat (nd f j k C),.r 77 [.agg [I d,I e]] [.agg [I l,I m],cB t],.b (f==7) true,.b (decide ((C.length:Int)>0)) false]):
 Rt 62 [.agg (gr A b c),.agg (ri a d e g i)] [cB false]:=
 h.of
theorem qvn(h:Oo [.r 59 [.agg (gr A b c)] [cB r],.n r false,.r 64 [.agg (ri a d e g i)] [cB s],.n s false,.r 74 [.agg (gr A b c),cI a] [cB q],.n q false,.p (0≤a),.p (a<(A.length:Int)),.e A a.toNat (nd f j k C),.r 77 [.agg [I d,I e]] [.agg [I l,I m],cB t],.b (f==7) false]):
 Rt 62 [.agg (gr A b c),.agg (ri a d e g i)] [cB false]:=
 h.of
end Go.Proofs.YtenekpkjlgddnaaGreat
