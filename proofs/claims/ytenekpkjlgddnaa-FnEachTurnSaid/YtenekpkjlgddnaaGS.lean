import Derived.Test.YtenekpkjlgddnaaRows
import Derived.Test.YtenekpkjlgddnaaGE
namespace Go.Proofs.Ytenekpkjlgddnaa
open Go.Sx Go.RowKit
variable {a b c d e f g i j k l m n o : Int} {A C E F G : LL} {q r s t u v : Bool}
theorem qiu(h:Oo [.r 40 [.agg (gr A a b)] [cB q],.n q true,.r 44 [cS 4 E] [cS 4 C]]):
 Rt 21 [.agg (gr A a b),cS 4 E,.agg (ri c d e f g)] [cS 4 C,cS 5 [],cB false]:=
 h.of
theorem qiv(h:Oo [.r 40 [.agg (gr A a b)] [cB r],.n r false,.r 41 [.agg (ri c d e f g)] [cB q],.n q true,.r 44 [cS 4 E] [cS 4 C]]):
 Rt 21 [.agg (gr A a b),cS 4 E,.agg (ri c d e f g)] [cS 4 C,cS 5 [],cB false]:=
 h.of
theorem qn3(h:Oo [.r 40 [.agg (gr A a b)] [cB s],.n s false,.r 41 [.agg (ri c d e f g)] [cB q],.n q false,.r 42 [.agg (gr A a b),cI c] [cB r],.n r true,.r 44 [cS 4 E] [cS 4 C]]):
 Rt 21 [.agg (gr A a b),cS 4 E,.agg (ri c d e f g)] [cS 4 C,cS 5 [],cB false]:=
 h.of
theorem qn4(h:Oo [.r 40 [.agg (gr A b d)] [cB t],.n t false,.r 41 [.agg (ri a j k e f)] [cB q],.n q false,.r 42 [.agg (gr A b d),cI a] [cB r],.n r false,.p (0≤a),.p (a<(A.length:Int)),.e A a.toNat (nd c g i C),.r 45 [.agg (nd c g i C),cI e,cI f] [cI l,cI m,cB s],.n s true,.b (c != 8) true,.r 44 [cS 4 F] [cS 4 E]]):
 Rt 21 [.agg (gr A b d),cS 4 F,.agg (ri a j k e f)] [cS 4 E,cS 5 [],cB true]:=
 h.of
theorem qn5(h:Oo [.r 40 [.agg (gr A e f)] [cB u],.n u false,.r 41 [.agg (ri a g k c d)] [cB q],.n q false,.r 42 [.agg (gr A e f),cI a] [cB r],.n r false,.p (0≤a),.p (a<(A.length:Int)),.e A a.toNat (nd b i j C),.r 45 [.agg (nd b i j C),cI c,cI d] [cI l,cI m,cB s],.n s true,.b (b != 8) false,.r 46 [cI b,cS 4 F,.agg [I a,I g,I c,I d]] [cS 4 E,cB t],.n t true]):
 Rt 21 [.agg (gr A e f),cS 4 F,.agg (ri a g k c d)] [cS 4 E,cS 5 [],cB true]:=
 h.of
def qbH(A:LL)(a b:Int)(C:LL)(c d:Int)(q:Bool)(e:Int)(E:LL):St:=
 { env:=envOf 111 [(10,vI a),(11,vI b),(13,PV.al (AL.one (lO 760000 4 C))),(14,vP 14),(15,.al (.one (.sb q))),(16,PV.al (AL.one (lO 107 5 E))),(93,vF 1 A),(94,vI (A.length:Int)),(95,vI e)],boxes:=[(14,[lI c,lI d])] }
theorem qn6(h:Oo [.b (decide (a<(A.length:Int))) true,.p (0≤a),.p (a<(A.length:Int)),.e A a.toNat [I f],.b q true,.g C [(ri f d e b c)] 40,.h [(ri f d e b c)],.u a]):
 Tp (qab Try.f21 0) (qbH A b c E d e q a C) .normal (qbH A b c E d e q (a+1) (C++[(ri f d e b c)])):=
 h.lp [95,94,93,15,16,14,10,11,13] [14]
theorem qn7(h:Oo [.b (decide (a<(A.length:Int))) true,.p (0≤a),.p (a<(A.length:Int)),.e A a.toNat [I f],.b q false,.u a]):
 Tp (qab Try.f21 0) (qbH A b c C d e q a E) .normal (qbH A b c C d e q (a+1) E):=
 h.lp [95,94,93,15,16,14,10,11,13] [14]
def qb6(A C:LL):St:=
 { env:=envOf 111 [(13,PV.al (AL.one (lO 760000 4 A))),(16,PV.al (AL.one (lO 107 5 C)))],boxes:=[] }
theorem qiw(h:Oo [.b (decide (a<(A.length:Int))) false]):
 Tp (qab Try.f21 0) (qbH A b c C d e q a E) (.exit 0) (qb6 C E):=
 h.lp [13,16] []
theorem qn8(h:Oo [.r 40 [.agg (gr A f g)] [cB v],.n v false,.r 41 [.agg (ri a c i d e)] [cB q],.n q false,.r 42 [.agg (gr A f g),cI a] [cB r],.n r false,.p (0≤a),.p (a<(A.length:Int)),.e A a.toNat (nd b j k E),.r 45 [.agg (nd b j k E),cI d,cI e] [cI l,cI m,cB s],.n s true,.b (b != 8) false,.r 46 [cI b,cS 4 G,.agg [I a,I c,I d,I e]] [cS 4 C,cB t],.n t false,.b (b==7) true,.r 43 [.agg [I c,I i]] [.agg [I n,I o],cB u],.l [(16,107,5)] [95,94,93,15,16,14,10,11,13] [14] (qab Try.f21 0) (qbH E l m C n o u 0 []) (.exit 0) (qb6 C F)]):
 Rt 21 [.agg (gr A f g),cS 4 G,.agg (ri a c i d e)] [cS 4 C,cS 5 F,cB true]:=
 h.of
def qcy(a b:Int)(A:LL)(c d:Int)(C:LL)(e:Int)(E:LL):St:=
 { env:=envOf 111 [(10,vI c),(11,vI d),(13,PV.al (AL.one (lO 760000 4 C))),(14,vP 14),(15,.al (.one (.sb true))),(16,PV.al (AL.one (lO 107 5 E))),(93,vF 1 A),(94,vI (A.length:Int)),(95,vI e)],boxes:=[(14,[lI a,lI b])] }
theorem qn9(h:Oo [.b (decide (a<(A.length:Int))) true,.p (0≤a),.p (a<(A.length:Int)),.e A a.toNat [I f],.b true true,.g C [(ri f d e b c)] 40,.h [(ri f d e b c)],.u a]):
 Tp (qab Try.f21 0) (qcy d e A b c E a C) .normal (qcy d e A b c E (a+1) (C++[(ri f d e b c)])):=
 h.lp [95,94,93,15,16,14,10,11,13] [14]
theorem qoa(h:Oo [.b (decide (a<(A.length:Int))) false]):
 Tp (qab Try.f21 0) (qcy d e A b c C a E) (.exit 0) (qb6 C E):=
 h.lp [13,16] []
theorem qob(h:Oo [.r 40 [.agg (gr A f g)] [cB u],.n u false,.r 41 [.agg (ri a c i d e)] [cB q],.n q false,.r 42 [.agg (gr A f g),cI a] [cB r],.n r false,.p (0≤a),.p (a<(A.length:Int)),.e A a.toNat (nd b j k E),.r 45 [.agg (nd b j k E),cI d,cI e] [cI l,cI m,cB s],.n s true,.b (b != 8) false,.r 46 [cI b,cS 4 G,.agg [I a,I c,I d,I e]] [cS 4 C,cB t],.n t false,.b (b==7) false,.l [(16,107,5)] [95,94,93,15,16,14,10,11,13] [14] (qab Try.f21 0) (qcy c i E l m C 0 []) (.exit 0) (qb6 C F)]):
 Rt 21 [.agg (gr A f g),cS 4 G,.agg (ri a c i d e)] [cS 4 C,cS 5 F,cB true]:=
 h.of
theorem qoc(h:Oo [.r 40 [.agg (gr A d f)] [cB u],.n u false,.r 41 [.agg (ri a g k b c)] [cB q],.n q false,.r 42 [.agg (gr A d f),cI a] [cB r],.n r false,.p (0≤a),.p (a<(A.length:Int)),.e A a.toNat (nd e i j C),.r 45 [.agg (nd e i j C),cI b,cI c] [cI l,cI m,cB s],.n s false,.r 46 [cI e,cS 4 F,.agg [I a,I g,I b,I c]] [cS 4 E,cB t],.n t true]):
 Rt 21 [.agg (gr A d f),cS 4 F,.agg (ri a g k b c)] [cS 4 E,cS 5 [],cB true]:=
 h.of
theorem qod(h:Oo [.r 40 [.agg (gr A f g)] [cB v],.n v false,.r 41 [.agg (ri a c i d e)] [cB q],.n q false,.r 42 [.agg (gr A f g),cI a] [cB r],.n r false,.p (0≤a),.p (a<(A.length:Int)),.e A a.toNat (nd b j k E),.r 45 [.agg (nd b j k E),cI d,cI e] [cI l,cI m,cB s],.n s false,.r 46 [cI b,cS 4 G,.agg [I a,I c,I d,I e]] [cS 4 C,cB t],.n t false,.b (b==7) true,.r 43 [.agg [I c,I i]] [.agg [I n,I o],cB u],.l [(16,107,5)] [95,94,93,15,16,14,10,11,13] [14] (qab Try.f21 0) (qbH E l m C n o u 0 []) (.exit 0) (qb6 C F)]):
 Rt 21 [.agg (gr A f g),cS 4 G,.agg (ri a c i d e)] [cS 4 C,cS 5 F,cB true]:=
 h.of
theorem qoe(h:Oo [.r 40 [.agg (gr A f g)] [cB u],.n u false,.r 41 [.agg (ri a c i d e)] [cB q],.n q false,.r 42 [.agg (gr A f g),cI a] [cB r],.n r false,.p (0≤a),.p (a<(A.length:Int)),.e A a.toNat (nd b j k E),.r 45 [.agg (nd b j k E),cI d,cI e] [cI l,cI m,cB s],.n s false,.r 46 [cI b,cS 4 G,.agg [I a,I c,I d,I e]] [cS 4 C,cB t],.n t false,.b (b==7) false,.l [(16,107,5)] [95,94,93,15,16,14,10,11,13] [14] (qab Try.f21 0) (qcy c i E l m C 0 []) (.exit 0) (qb6 C F)]):
 Rt 21 [.agg (gr A f g),cS 4 G,.agg (ri a c i d e)] [cS 4 C,cS 5 F,cB true]:=
 h.of
theorem qof(h:Oo [.r 40 [.agg (gr A a b)] [cB q],.n q true]):
 Rt 20 [.agg (gr A a b),.agg (ri c d e f g)] [cB false]:=
 h.of
theorem qog(h:Oo [.r 40 [.agg (gr A a b)] [cB q],.n q false,.r 41 [.agg (ri c d e f g)] [cB r],.n r true]):
 Rt 20 [.agg (gr A a b),.agg (ri c d e f g)] [cB false]:=
 h.of
theorem qoh(h:Oo [.r 40 [.agg (gr A a b)] [cB r],.n r false,.r 41 [.agg (ri c d e f g)] [cB s],.n s false,.r 42 [.agg (gr A a b),cI c] [cB q],.n q true]):
 Rt 20 [.agg (gr A a b),.agg (ri c d e f g)] [cB false]:=
 h.of
theorem qoi(h:Oo [.r 40 [.agg (gr A b c)] [cB s],.n s false,.r 41 [.agg (ri a d e g i)] [cB t],.n t false,.r 42 [.agg (gr A b c),cI a] [cB q],.n q false,.p (0≤a),.p (a<(A.length:Int)),.e A a.toNat (nd f j k C),.r 43 [.agg [I d,I e]] [.agg [I l,I m],cB r],.b (f==7) true,.b (decide ((C.length:Int)>0)) true]):
 Rt 20 [.agg (gr A b c),.agg (ri a d e g i)] [.one (B !r)]:=
 h.of
theorem qoj(h:Oo [.r 40 [.agg (gr A b c)] [cB r],.n r false,.r 41 [.agg (ri a d e g i)] [cB s],.n s false,.r 42 [.agg (gr A b c),cI a] [cB q],.n q false,.p (0≤a),.p (a<(A.length:Int)),.e A a.toNat (nd f j k C),.r 43 [.agg [I d,I e]] [.agg [I l,I m],cB t],.b (f==7) true,.b (decide ((C.length:Int)>0)) false]):
 Rt 20 [.agg (gr A b c),.agg (ri a d e g i)] [cB false]:=
 h.of
theorem qok(h:Oo [.r 40 [.agg (gr A b c)] [cB r],.n r false,.r 41 [.agg (ri a d e g i)] [cB s],.n s false,.r 42 [.agg (gr A b c),cI a] [cB q],.n q false,.p (0≤a),.p (a<(A.length:Int)),.e A a.toNat (nd f j k C),.r 43 [.agg [I d,I e]] [.agg [I l,I m],cB t],.b (f==7) false]):
 Rt 20 [.agg (gr A b c),.agg (ri a d e g i)] [cB false]:=
 h.of
end Go.Proofs.Ytenekpkjlgddnaa
