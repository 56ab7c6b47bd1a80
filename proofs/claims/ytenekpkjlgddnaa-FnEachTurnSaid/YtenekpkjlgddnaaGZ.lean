import Derived.Test.YtenekpkjlgddnaaRows
import Derived.Test.YtenekpkjlgddnaaGE
namespace Go.Proofs.Ytenekpkjlgddnaa
open Go.Sx Go.RowKit Go.Proofs.Try
variable {a b c d e f g i j k l m n o p a0 b0 : Int} {A C E F G H J K : LL} {q r s t : Bool}
theorem qoB(h:Oo [.r 40 [.agg (gr A a b)] [cB r],.n r true]):
 Rr 26 [RA.ro (.agg (gr A a b)),RA.ro (cS 5 E),RA.ro (cI e),RA.fn 27 [4,5],RA.ref [B q] [B q],RA.cur (gr C c d) (gr C c d)] (RR.vals [cS 4 [],cI 0,cB false]):=
 h.ofR
def qb7(C A:LL)(a:Int)(E F:LL)(b c:Int)(q:Bool)(d e:Int):St:=
 { env:=envOf 74 [(3,.al (.one (.clo 27 [1000000004,1000000005]))),(4,vP 4),(11,PV.al (AL.one (lO 38 5 E))),(24,PV.al (AL.one (lO 250000 5 A))),(25,vI (A.length:Int)),(26,vI a)],boxes:=[(4,[.sl .free 4 F,lI b,lI c]),(1000000004,[.sb q]),(1000000005,[.sv 1000000600 4 C,lI d,lI e])] }
theorem qoC(h:Oo [.b (decide (a<(A.length:Int))) true,.p (0≤a),.p (a<(A.length:Int)),.e A a.toNat (ri j b k c d),.r 41 [.agg (ri j b k c d)] [cB r],.b r true,.g C [(ri 0 b 0 c d)] 40,.h [(ri 0 b 0 c d)],.u a]):
 Tp (qab f26 0) (qb7 F A a C E e f q g i) .normal (qb7 F A (a+1) (C++[(ri 0 b 0 c d)]) E e f q g i):=
 h.lp [26,25,24,11,3,4] [4,1000000004,1000000005]
theorem qoD(h:Oo [.b (decide (a<(A.length:Int))) true,.p (0≤a),.p (a<(A.length:Int)),.e A a.toNat (ri f g i j k),.r 41 [.agg (ri f g i j k)] [cB r],.b r false,.u a]):
 Tp (qab f26 0) (qb7 F A a C E b c q d e) .normal (qb7 F A (a+1) C E b c q d e):=
 h.lp [26,25,24,11,3,4] [4,1000000004,1000000005]
def qf8(A C E:LL)(a b:Int)(q:Bool)(c d:Int):St:=
 { env:=envOf 74 [(3,.al (.one (.clo 27 [1000000004,1000000005]))),(4,vP 4),(11,PV.al (AL.one (lO 38 5 C)))],boxes:=[(4,[.sl .free 4 E,lI a,lI b]),(1000000004,[.sb q]),(1000000005,[.sv 1000000600 4 A,lI c,lI d])] }
theorem qoE(h:Oo [.b (decide (a<(A.length:Int))) false]):
 Tp (qab f26 0) (qb7 F A a C E b c q d e) (.exit 0) (qf8 F C E b c q d e):=
 h.lp [11,3,4] [4,1000000004,1000000005]
def qcA(A C:LL)(a:Int)(E F:LL)(b c:Int)(q:Bool)(d e:Int):St:=
 { env:=envOf 74 [(3,.al (.one (.clo 27 [1000000004,1000000005]))),(4,vP 4),(11,PV.al (AL.one (lO 38 5 C))),(14,PV.al (AL.one (lO 590000 4 E))),(15,vI a)],boxes:=[(4,[.sl .free 4 F,lI b,lI c]),(1000000004,[.sb q]),(1000000005,[.sv 1000000600 4 A,lI d,lI e])] }
theorem qoF(h:Oo [.b (decide ((A.length:Int)>0)) true,.b (decide (a<20000)) true,.p ((0:Int)≤0),.p (0<(A.length:Int)),.e A 0 (ri i j k l m),.a (.resR [none,some [B q],some (gr C d e)] (RR.vals [])),.p (RetR prog 27 [RA.ro (.agg (ri i j k l m)),RA.ref [B r] [B q],RA.cur (gr C f g) (gr C d e)] (RR.vals [])),.p ((0:Int)≤0),.p (0<(A.length:Int)),.e A 0 (ri n o p a0 b0),.r 21 [.agg (gr F b c),cS 4 G,.agg (ri n o p a0 b0)] [cS 4 H,cS 5 E,cB s],.a .own,.p ((0:Int)≤(some (1:Int)).getD 0),.p ((some (1:Int)).getD 0≤none.getD (A.length:Int)),.p (none.getD (A.length:Int)≤(A.length:Int)),.g (List.take (A.length-1) (List.drop 1 A)) E 40,.h E,.u a]):
 Tp (qab f26 1) (qcA C A a G F b c r f g) .normal (qcA C (List.take (A.length-1) (List.drop 1 A)++E) (a+1) H F b c q d e):=
 h.lp [11,15,3,4,14] [4,1000000004,1000000005]
def qer(A C:LL)(a:Int)(E:LL)(q:Bool)(b c:Int):St:=
 { env:=envOf 74 [(3,.al (.one (.clo 27 [1000000004,1000000005]))),(11,PV.al (AL.one (lO 38 5 E))),(14,PV.al (AL.one (lO 590000 4 C))),(15,vI a)],boxes:=[(1000000004,[.sb q]),(1000000005,[.sv 1000000600 4 A,lI b,lI c])] }
theorem qoG(h:Oo [.b (decide ((A.length:Int)>0)) true,.b (decide (a<20000)) false]):
 Tp (qab f26 1) (qcA E A a C F d e q b c) (.exit 2) (qer E C a A q b c):=
 h.lp [14,15,11,3] [1000000004,1000000005]
theorem qiO(h:Oo [.b (decide ((A.length:Int)>0)) false]):
 Tp (qab f26 1) (qcA E A a C F d e q b c) (.exit 2) (qer E C a A q b c):=
 h.lp [14,15,11,3] [1000000004,1000000005]
theorem qoH(h:Oo [.r 40 [.agg (gr C a b)] [cB t],.n t false,.r 54 [cS 5 K,cI k] [cS 5 E],.l [(11,38,5)] [26,25,24,11,3,4] [4,1000000004,1000000005] (qab f26 0) (qb7 A E 0 [] C a b s l m) (.exit 0) (qf8 A F G c d q e f),.l [(14,590000,4)] [11,15,3,4,14] [4,1000000004,1000000005] (qab f26 1) (qcA A F 0 [] G c d q e f) (.exit 2) (qer A H g J r i j)]):
 Rr 26 [RA.ro (.agg (gr C a b)),RA.ro (cS 5 K),RA.ro (cI k),RA.fn 27 [4,5],RA.ref [B s] [B r],RA.cur (gr A l m) (gr A i j)] (RR.vals [cS 4 H,cI g,cB ((J.length:Int)==0)]):=
 h.ofR
theorem qiP(h:Oo [.a (.resR [none,none,none,none,some [B q],some (gr A d e)] (RR.vals [cS 4 E,cI f,cB r])),.p (RetR prog 26 [RA.ro (.agg (gr A a b)),RA.ro (cS 5 C),RA.ro (cI c),RA.fn 27 [4,5],RA.ref [B false] [B q],RA.cur (gr A a b) (gr A d e)] (RR.vals [cS 4 E,cI f,cB r]))]):
 Rt 11 [.agg (gr A a b),cS 5 C,cI c] [cB q]:=
 h.of
theorem qoI(h:Oo [.b q true]):
 Rr 27 [RA.ro (.agg (ri c d e f g)),RA.ref [B q] [B true],RA.cur (gr A a b) (gr A a b)] (RR.vals []):=
 h.ofR
theorem qoJ(h:Oo [.b q false,.r 20 [.agg (gr A a b),.agg (ri c d e f g)] [cB r]]):
 Rr 27 [RA.ro (.agg (ri c d e f g)),RA.ref [B q] [B r],RA.cur (gr A a b) (gr A a b)] (RR.vals []):=
 h.ofR
end Go.Proofs.Ytenekpkjlgddnaa
