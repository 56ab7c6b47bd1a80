import Derived.Test.YtdkobdhckkjmeaaGreatRows
import Derived.Test.YtdkobdhckkjmeaaGreatGE
set_option linter.unusedVariables false
set_option linter.unusedSimpArgs false
namespace Go.Proofs.YtdkobdhckkjmeaaGreat
open Go.Sx Go.RowKit Go.Proofs.Tryz
variable {a b c d e f g i j k l m : Int} {A C E F G H J K L M N P Q R S U V W X Y Z A0 C0 E0 F0 G0 : LL} {q r s t u v w : Bool}
theorem qPK(h:Oo [.r 15 [cS 1 A] [cB q],.b q true]):
 Rt 4 [cS 1 A] [cB true]:=
 h.of
def qeF(A C:LL)(c:Int)(F:LL)(d e:Int)(G H J K E:LL)(a b:Int):St:=
 { env:=envOf 79 [(3,vP 3),(4,PV.al (AL.one (lO 180100 5 A))),(5,PV.al (AL.one (lO 180200 3 C))),(6,vP 6),(8,vI c)],boxes:=[(6,[lO 900007000 4 F,lI d,lI e,lO 900007003 8 G,lO 900007004 6 H,lO 900007005 5 J,lO 900007006 3 K]),(3,[lO 180000 4 E,lI a,lI b])] }
def qnL(C A:LL)(a:Int)(F:LL)(d e:Int)(G H J K E:LL)(b c:Int):St:=
 { env:=envOf 79 [(3,vP 3),(4,PV.al (AL.one (lO 180100 5 C))),(5,PV.al (AL.one (lO 180200 3 A))),(6,vP 6),(8,vI a),(29,vI a),(30,PV.al (AL.one (lO 180200 3 A))),(31,vI (A.length:Int)),(32,.al (.one (.sb (decide (a<(A.length:Int))))))],boxes:=[(6,[lO 900007000 4 F,lI d,lI e,lO 900007003 8 G,lO 900007004 6 H,lO 900007005 5 J,lO 900007006 3 K]),(3,[lO 180000 4 E,lI b,lI c])] }
def qis(J A:LL)(a:Int)(L:LL)(j k:Int)(M N P Q K:LL)(d e f g i:Int)(C:LL)(b c:Int)(E F G H:LL)(q:Bool):St:=
 { env:=envOf 79 [(3,vP 3),(4,PV.al (AL.one (lO 180100 5 J))),(5,PV.al (AL.one (lO 180200 3 A))),(6,vP 6),(8,vI a),(29,vI a),(30,PV.al (AL.one (lO 180200 3 A))),(31,vI (A.length:Int)),(32,.al (.one (.sb (decide (a<(A.length:Int)))))),(35,PV.tup [AL.agg [lO 420000 4 C,lI b,lI c,lO 420003 8 E,lO 420004 6 F,lO 420005 5 G,lO 420006 3 H],AL.one (Leaf.sb q)]),(36,PV.al (AL.agg [lO 900007000 4 L,lI j,lI k,lO 900007003 8 M,lO 900007004 6 N,lO 900007005 5 P,lO 900007006 3 Q])),(37,PV.al (AL.one (lO 180200 3 A))),(38,vI a),(39,.al (.one (.ep (Tag.own 180200) 3 A a.toNat 0))),(40,PV.al (AL.agg [lI f,lI g,lI i])),(41,PV.tup [AL.agg [lO 420000 4 C,lI b,lI c,lO 420003 8 E,lO 420004 6 F,lO 420005 5 G,lO 420006 3 H],AL.one (Leaf.sb q)]),(42,PV.al (AL.agg [lO 420000 4 C,lI b,lI c,lO 420003 8 E,lO 420004 6 F,lO 420005 5 G,lO 420006 3 H])),(43,.al (.one (.sb q)))],boxes:=[(6,[lO 420000 4 C,lI b,lI c,lO 420003 8 E,lO 420004 6 F,lO 420005 5 G,lO 420006 3 H]),(3,[lO 180000 4 K,lI d,lI e])] }
theorem qt6(Q A:LL)(a:Int)(C:LL)(e f:Int)(E F G H P:LL)(j k b c d:Int)(J:LL)(g i:Int)(K L M N:LL)(q:Bool)
  (h:Obs [0≤a,a<(A.length:Int),A[a.toNat]?=some [I b,I c,I d],Rt 31 [.agg (cl C e f E F G H),.agg [I b,I c,I d]] [.agg (cl J g i K L M N),cB q]]):
  RegOk prog (regOf f4 10) (qnL Q A a C e f E F G H P j k) (qis Q A a C e f E F G H P j k b c d J g i K L M N q):=
 .of [[],[],[],[],[.el [I b,I c,I d]],[.res [.agg (cl J g i K L M N),cB q]],[],[],[],[]] [[],[],[],[0≤a,a<(A.length:Int)],[A[a.toNat]?=some [I b,I c,I d]],[Rt 31 [.agg (cl C e f E F G H),.agg [I b,I c,I d]] [.agg (cl J g i K L M N),cB q]],[],[],[],[]] (by kernel_rfl) (by kernel_rfl) (by kernel_rfl) h
theorem qPL(h:Oo [.f A a true,.a (.reg (qis E A a F d e G H J K C b c i j k L f g M N P Q q)),.p (RegOk prog (regOf f4 10) (qnL E A a F d e G H J K C b c) (qis E A a F d e G H J K C b c i j k L f g M N P Q q)),.p ((8:Int)≠0),.b (a.tmod 8==7) true,.r 32 [.agg (cl L f g M N P Q)] [cB r],.n r false,.u a]):
 Tp (qaa f4 0) (qeF E A a F d e G H J K C b c) .normal (qeF E A (a+1) L f g M N P Q C b c):=
 h.lr [(7000000,900007000,4),(7000003,900007003,8),(7000004,900007004,6),(7000005,900007005,5),(7000006,900007006,3)] [8,5,6,3,4] [6,3]
theorem qPM(h:Oo [.f A a true,.a (.reg (qis E A a F d e G H J K C b c i j k L f g M N P Q q)),.p (RegOk prog (regOf f4 10) (qnL E A a F d e G H J K C b c) (qis E A a F d e G H J K C b c i j k L f g M N P Q q)),.p ((8:Int)≠0),.b (a.tmod 8==7) false,.u a]):
 Tp (qaa f4 0) (qeF E A a F d e G H J K C b c) .normal (qeF E A (a+1) L f g M N P Q C b c):=
 h.lr [(7000000,900007000,4),(7000003,900007003,8),(7000004,900007004,6),(7000005,900007005,5),(7000006,900007006,3)] [8,5,6,3,4] [6,3]
def qkt(A C E:LL)(c d:Int)(F G H J K:LL)(a b:Int):St:=
 { env:=envOf 79 [(3,vP 3),(4,PV.al (AL.one (lO 180100 5 A))),(5,PV.al (AL.one (lO 180200 3 C))),(6,vP 6)],boxes:=[(6,[lO 900007000 4 E,lI c,lI d,lO 900007003 8 F,lO 900007004 6 G,lO 900007005 5 H,lO 900007006 3 J]),(3,[lO 180000 4 K,lI a,lI b])] }
theorem qPN(h:Oo [.f A a false]):
 Tp (qaa f4 0) (qeF K A a C b c E F G H J d e) (.exit 0) (qkt K A C b c E F G H J d e):=
 h.lp [3,4,5,6] [6,3]
theorem qPO(h:Oo [.r 15 [cS 1 K] [cB q],.b q false,.r 16 [cS 1 K] [.agg (gr L c d),cS 5 H,cS 3 J],.r 30 [.agg (gr L c d),cS 5 H] [.agg (cl F0 l m M N P Q),cB r],.n r false,.l [(7000000,900007000,4),(7000003,900007003,8),(7000004,900007004,6),(7000005,900007005,5),(7000006,900007006,3)] [8,5,6,3,4] [6,3] (qaa f4 0) (qeF H J 0 F0 l m M N P Q L c d) (.exit 0) (qkt H J A a b C E F G R e f),.r 17 [.agg (gr R e f),cS 5 H] [.agg (cl S g i U V W X),cB w],.r 18 [.agg (cl S g i U V W X),cS 3 J] [.agg (cl Y j k Z A0 C0 E0),cS 1 G0],.r 33 [.agg (cl A a b C E F G),.agg (cl Y j k Z A0 C0 E0)] [cB s],.b s true,.r 32 [.agg (cl A a b C E F G)] [cB t],.b t true,.r 34 [.agg (cl A a b C E F G)] [cB u],.b u true,.r 35 [.agg (cl A a b C E F G)] [cB v]]):
 Rt 4 [cS 1 K] [cB v]:=
 h.of
end Go.Proofs.YtdkobdhckkjmeaaGreat
namespace Go.Proofs.YtdkobdhckkjmeaaGreat
open Go.Sx Go.RowKit Go.Proofs.Tryz
theorem qku(A:LL)(h:Oo []):
 Rt 15 [cS 1 A] [cB (decide ((A.length:Int)>1048576))]:=
 h.of
end Go.Proofs.YtdkobdhckkjmeaaGreat
