import Derived.Test.YtenekpkjlgddnaaGreatRows
import Derived.Test.YtenekpkjlgddnaaGreatGE
set_option linter.unusedVariables false
set_option linter.unusedSimpArgs false
namespace Go.Proofs.YtenekpkjlgddnaaGreat
open Go.Sx Go.RowKit
variable {a b c d e f g i j k : Int} {A C E F G H J K L M N P Q R S U V W X Y Z A0 A1 C0 C1 E0 F0 G0 H0 J0 K0 L0 M0 N0 P0 Q0 R0 S0 U0 V0 W0 X0 Y0 Z0 : LL} {q r : Bool}
theorem qmc(A:LL)(h:Oo []):
 Rt 4 [cS 1 A] [cB (decide ((A.length:Int)>1048576))]:=
 h.of
theorem qze(h:Oo [.r 4 [cS 1 A] [cB q],.b q true]):
 Rt 3 [cS 1 A] [cB true]:=
 h.of
def qeo(A:LL)(a:Int)(C:LL)(d e:Int)(E F G H J:LL)(b c:Int):St:=
 { env:=envOf 94 [(3,vP 3),(5,PV.al (AL.one (lO 170200 3 A))),(6,vP 6),(8,vI a)],boxes:=[(6,[lO 900007000 4 C,lI d,lI e,lO 900007003 8 E,lO 900007004 6 F,lO 900007005 5 G,lO 900007006 3 H]),(3,[lO 170000 4 J,lI b,lI c])] }
def qep(A:LL)(a:Int)(J:LL)(g i:Int)(K L M N P:LL)(b c:Int)(C:LL)(d e:Int)(E F G H:LL)(f:Int):St:=
 { env:=envOf 94 [(3,vP 3),(5,PV.al (AL.one (lO 170200 3 A))),(6,vP 6),(8,vI a),(9,vP 9),(11,vI f)],boxes:=[(9,[lO 390000 4 C,lI d,lI e,lO 390003 8 E,lO 390004 6 F,lO 390005 5 G,lO 390006 3 H]),(6,[lO 900007000 4 J,lI g,lI i,lO 900007003 8 K,lO 900007004 6 L,lO 900007005 5 M,lO 900007006 3 N]),(3,[lO 170000 4 P,lI b,lI c])] }
theorem qzf(h:Oo [.b (decide (a<(A.length:Int))) true,.p (0≤a),.p (a<(C.length:Int)),.e C a.toNat (wk V W X Y Z A0 C0 P),.p (0≤a),.p (a<(A.length:Int)),.e A a.toNat (wk E0 F0 G0 H0 J0 K0 L0 Q),.b (decide ((P.length:Int)<(Q.length:Int))) false,.p (0≤a),.p (a<(C.length:Int)),.e C a.toNat (wk M0 N0 R P0 Q0 R0 S0 U0),.p (0≤a),.p (a<(A.length:Int)),.e A a.toNat (wk V0 W0 U X0 Y0 Z0 A1 C1),.b (decide ((R.length:Int)>(U.length:Int))) false,.u a]):
 Tp (qab Tryz.f3 1) (qep S b E c d A F G H J e f K g i C L M N a) .normal (qep S b E c d A F G H J e f K g i C L M N (a+1)):=
 h.lp [11,6,9,8,5,3] [9,6,3]
def qix(A:LL)(a:Int)(J:LL)(f g:Int)(K L M N P:LL)(b c:Int)(C:LL)(d e:Int)(E F G H:LL):St:=
 { env:=envOf 94 [(3,vP 3),(5,PV.al (AL.one (lO 170200 3 A))),(6,vP 6),(8,vI a),(9,vP 9)],boxes:=[(9,[lO 390000 4 C,lI d,lI e,lO 390003 8 E,lO 390004 6 F,lO 390005 5 G,lO 390006 3 H]),(6,[lO 900007000 4 J,lI f,lI g,lO 900007003 8 K,lO 900007004 6 L,lO 900007005 5 M,lO 900007006 3 N]),(3,[lO 170000 4 P,lI b,lI c])] }
theorem qzg(h:Oo [.b (decide (i<(A.length:Int))) false]):
 Tp (qab Tryz.f3 1) (qep P a C b c A E F G H d e J f g K L M N i) (.exit 2) (qix P a C b c A E F G H d e J f g K L M N):=
 h.lp [9,6,8,5,3] [9,6,3]
theorem qzh(h:Oo [.b (decide (a<(A.length:Int))) true,.p (0≤a),.p (a<(A.length:Int)),.e A a.toNat [I i,I j,I k],.r 7 [.agg (cl F b c C G H J),.agg [I i,I j,I k]] [.agg (cl L f g E M N P),cB q],.b ((E.length:Int) != (C.length:Int)) false,.l [] [11,6,9,8,5,3] [9,6,3] (qab Tryz.f3 1) (qep A a F b c C G H J K d e L f g E M N P 0) (.exit 2) (qix A a F b c C G H J K d e L f g E M N P),.u a]):
 Tp (qab Tryz.f3 0) (qeo A a F b c C G H J K d e) .normal (qeo A (a+1) L f g E M N P K d e):=
 h.lr [(7000000,900007000,4),(7000003,900007003,8),(7000004,900007004,6),(7000005,900007005,5),(7000006,900007006,3)] [8,5,6,3] [6,3]
def qgf(A:LL)(a b:Int)(C E F G H:LL)(c d:Int):St:=
 { env:=envOf 94 [(3,vP 3),(6,vP 6)],boxes:=[(6,[lO 900007000 4 A,lI a,lI b,lO 900007003 8 C,lO 900007004 6 E,lO 900007005 5 F,lO 900007006 3 G]),(3,[lO 170000 4 H,lI c,lI d])] }
theorem qzi(h:Oo [.b (decide (a<(J.length:Int))) false]):
 Tp (qab Tryz.f3 0) (qeo J a A b c C E F G H d e) (.exit 0) (qgf A b c C E F G H d e):=
 h.lp [6,3] [6,3]
theorem qzj(h:Oo [.r 4 [cS 1 A] [cB q],.b q false,.r 5 [cS 1 A] [.agg (gr C a b),cS 5 K,cS 3 L],.r 6 [.agg (gr C a b),cS 5 K] [.agg (cl M d e E F G H),cB r],.l [(7000000,900007000,4),(7000003,900007003,8),(7000004,900007004,6),(7000005,900007005,5),(7000006,900007006,3)] [8,5,6,3] [6,3] (qab Tryz.f3 0) (qeo L 0 M d e E F G H C a b) (.exit 0) (qgf N f g J P Q R S c i)]):
 Rt 3 [cS 1 A] [cB ((J.length:Int)==c)]:=
 h.of
end Go.Proofs.YtenekpkjlgddnaaGreat
