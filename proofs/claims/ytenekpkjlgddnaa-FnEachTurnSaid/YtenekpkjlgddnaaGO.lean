import Derived.Test.YtenekpkjlgddnaaRows
import Derived.Test.YtenekpkjlgddnaaGE
namespace Go.Proofs.Ytenekpkjlgddnaa
open Go.Sx Go.RowKit
variable {a b c d e f g i j k l m : Int} {A C E F G : LL} {q r s : Bool}
theorem qiU(A:LL)(h:Oo []):
 Rt 14 [cS 1 A] [cB (decide ((A.length:Int)>1048576))]:=
 h.of
theorem qo9(h:Oo [.r 14 [cS 1 A] [cB q],.b q true]):
 Rt 5 [cS 1 A] [cB true]:=
 h.of
def qb8(A:LL)(a:Int)(C:LL)(b:Int)(q:Bool)(E:LL):St:=
 { env:=envOf 104 [(3,PV.al (AL.one (lO 160000 1 A))),(4,vP 4),(5,PV.al (AL.one (lO 5 5 C))),(6,PV.al (AL.one (lO 6 4 E))),(7,vI b),(8,.al (.one (.sb q)))],boxes:=[(4,[.sl (.own 29) 4 [[I 1,I 0,I 0,D.sl 1 [[I 1]]],[I 6,I 0,I 0,D.sl 1 [[I 2]]],[I 4,I (1+a.tmod 5),I 0,D.sl 1 [[I 3]]],[I 7,I 0,I 0,D.sl 1 [[I 1]]]],lI 1,lI 1])] }
theorem qpa(h:Oo [.b (decide ((A.length:Int)>0)) true,.b (decide (b<100)) true,.b s false,.p ((0:Int)≤0),.p (0<(A.length:Int)),.e A 0 (ri c d e f g),.r 20 [.agg [D.sl 4 [[I 1,I 0,I 0,D.sl 1 [[I 1]]],[I 6,I 0,I 0,D.sl 1 [[I 2]]],[I 4,I (1+a.tmod 5),I 0,D.sl 1 [[I 3]]],[I 7,I 0,I 0,D.sl 1 [[I 1]]]],I 1,I 1],.agg (ri c d e f g)] [cB q],.p ((0:Int)≤0),.p (0<(A.length:Int)),.e A 0 (ri i j k l m),.r 21 [.agg [D.sl 4 [[I 1,I 0,I 0,D.sl 1 [[I 1]]],[I 6,I 0,I 0,D.sl 1 [[I 2]]],[I 4,I (1+a.tmod 5),I 0,D.sl 1 [[I 3]]],[I 7,I 0,I 0,D.sl 1 [[I 1]]]],I 1,I 1],cS 4 G,.agg (ri i j k l m)] [cS 4 F,cS 5 C,cB r],.n r false,.b (decide ((C.length:Int)>1)) false,.g ([]:LL) C 40,.h C,.u b]):
 Tp (qab Try.f5 0) (qb8 E a A b s G) .normal (qb8 E a ([]++C) (b+1) q F):=
 h.lr [(5,5,5),(6,6,4)] [5,7,8,4,6,3] [4]
def qgb(A:LL)(a:Int)(q:Bool)(b:Int)(C:LL):St:=
 { env:=envOf 104 [(3,PV.al (AL.one (lO 160000 1 A))),(4,vP 4),(6,PV.al (AL.one (lO 6 4 C))),(7,vI b),(8,.al (.one (.sb q)))],boxes:=[(4,[.sl (.own 29) 4 [[I 1,I 0,I 0,D.sl 1 [[I 1]]],[I 6,I 0,I 0,D.sl 1 [[I 2]]],[I 4,I (1+a.tmod 5),I 0,D.sl 1 [[I 3]]],[I 7,I 0,I 0,D.sl 1 [[I 1]]]],lI 1,lI 1])] }
theorem qpb(h:Oo [.b (decide ((C.length:Int)>0)) false]):
 Tp (qab Try.f5 0) (qb8 A a C b q E) (.exit 0) (qgb A a q b E):=
 h.lp [8,7,6,4,3] [4]
theorem qpc(h:Oo [.r 14 [cS 1 C] [cB q],.b q false,.r 19 [cS 1 C] [cS 1 A],.p ((0:Int)≤0),.p (0<(A.length:Int)),.e A 0 [I a],.p ((5:Int)≠0),.v (1+a.tmod 5),.p ((0:Int)≤1),.p (1<(A.length:Int)),.e A 1 [I c],.p ((100:Int)≠0),.p ((0:Int)≤2),.p (2<(A.length:Int)),.e A 2 [I d],.p ((1000:Int)≠0),.l [(5,5,5),(6,6,4)] [5,7,8,4,6,3] [4] (qab Try.f5 0) (qb8 A a [(ri 0 0 0 (c.tmod 100) (d.tmod 1000))] 0 false []) (.exit 0) (qgb A a s e E),.b s true,.b (e==22) true,.b ((E.length:Int)==7) true,.p ((0:Int)≤1),.p (1<(A.length:Int)),.e A 1 [I f],.p ((100:Int)≠0),.p ((0:Int)≤2),.p (2<(A.length:Int)),.e A 2 [I b],.p ((1000:Int)≠0),.r 11 [.agg [D.sl 4 [[I 1,I 0,I 0,D.sl 1 [[I 1]]],[I 6,I 0,I 0,D.sl 1 [[I 2]]],[I 4,I (1+a.tmod 5),I 0,D.sl 1 [[I 3]]],[I 7,I 0,I 0,D.sl 1 [[I 1]]]],I 1,I 1],.one (.sl 5 [(ri 0 0 0 (f.tmod 100) (b.tmod 1000))]),cI 0] [cB r]]):
 Rt 5 [cS 1 C] [cB r]:=
 h.of
end Go.Proofs.Ytenekpkjlgddnaa
