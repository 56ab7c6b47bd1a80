import Derived.Test.YtdchjefneblpgaaGreatGE
namespace Go.Proofs.YtdchjefneblpgaaGreat
open Go.Sx Go.RowKit
variable {a b c d e f g : Int} {A C E F G H ao K L M N Q R S bm V X Y Z ew il iX iY iZ i' ka sx sy ui uj uk sA sB x8 : ae} {q r s t : Bool}
def E6(A:ae)(a b:Int)(C E F G H:ae)(c d:Int)(ao K L M:ae)(e:Int)(q:Bool)(l:List O):List O:=.r 144 [.agg (cl A a b C E F G)] [.agg (cl H c d ao K L M)]::.r 145 [.agg (cl A a b C E F G),af e] [ak q]::l
theorem TB(h:ad (E6 A a b C E F G M e c H ao K L d q [.n q true])):
av 36 [.agg (cl A a b C E F G),af d] [.agg (cl M e c H ao K L),ak false]:=
h.of
theorem agn{A:ae}{b c:Int}{C F G H:ae}{a:Int}{ka:ae}{e d:Int}{E ao K L:ae}{q:Bool}{M N Q R S bm V X Y Z ew il iX iY iZ i':ae}{r:Bool}{d33 d34 d35 d36 d37 d38 d39 d40:D}(h:ad (E6 A b c C F G H ka e d E ao K L a q [.n q false,.x C a (bb M N Q R S bm V X),.r 164 [.agg (bq A b c),.agg (bb M N Q R S bm V X)] [.agg (bb Y Z ew il iX iY iZ i'),ak r],.x E a [d33,d34,d35,d36,d37,d38,d39,d40]])):
av 36 [.agg (cl A b c C F G H),af a] [.agg (cl ka e d (E.set a.toNat (bb Y Z ew il iX iY iZ i')) ao K L),ak r]:=
h.of
theorem TC(h:ad (E6 A a b C E F G M e c H ao K L d q [.n q true])):
av 44 [.agg (cl A a b C E F G),af d] [.agg (cl M e c H ao K L),ak false]:=
h.of
theorem ago(h:ad (E6 A b c C F G H ka e d E ao K L a q [.n q false,.x C a (bb M N Q R S bm V X),.r 169 [.agg (bq A b c),.agg (bb M N Q R S bm V X)] [.agg (bb Y Z ew il iX iY iZ i'),ak r],.x E a (bb sx sy ui uj uk sA sB x8)])):
av 44 [.agg (cl A b c C F G H),af a] [.agg (cl ka e d (E.set a.toNat (bb Y Z ew il iX iY iZ i')) ao K L),ak r]:=
h.of
def MC(A C E F G H ao K L M N P Q R S bm V:ae)(a b:Int)(q:Bool)(l:List O):List O:=.r 255 [.agg (bb A C E F G H ao K)] [.agg (bb L M N P Q R S bm)]::.r 179 [.agg (bq V a b)] [ak q]::l
theorem agp(h:ad (MC N Q R S bm V X C E F G H ao K L M A a b q [.n q true])):
av 164 [.agg (bq A a b),.agg (bb N Q R S bm V X C)] [.agg (bb E F G H ao K L M),ak false]:=
h.of
def Bn(A C E F G H ao K L M N P Q R S bm V:ae)(a b:Int)(q r:Bool)(l:List O):List O:=MC A C E F G H ao K L M N P Q R S bm V a b q (.n q false::.r 187 [.agg (bq V a b),.agg (bb A C E F G H ao K)] [ak r]::l)
theorem agq(h:ad (Bn E F G H ao K L C M N Q R S bm V X A a b q r [.n r true])):
av 164 [.agg (bq A a b),.agg (bb E F G H ao K L C)] [.agg (bb M N Q R S bm V X),ak false]:=
h.of
theorem agr(h:ad (Bn F A G H ao K L E M N Q R S bm V X C a b q r [.n r false,.b (decide ((A.length:Int)>0)) true])):
av 164 [.agg (bq C a b),.agg (bb F A G H ao K L E)] [.agg (bb M N Q R S bm V X),ak false]:=
h.of
def Bo(A C E F G H ao K L M N P Q R S bm V:ae)(a b:Int)(q r:Bool)(l:List O):List O:=Bn A C E F G H ao K L M N P Q R S bm V a b q r (.n r false::.b (decide ((C.length:Int)>0)) false::l)
theorem ags(h:ad (Bo A C G H ao K L F M N Q R S bm V X E a b q r [.b (decide ((A.length:Int)>0)) true])):
av 164 [.agg (bq E a b),.agg (bb A C G H ao K L F)] [.agg (bb M N Q R S bm V X),ak false]:=
h.of
theorem agt(h:ad (Bo A C E H ao K L G M N Q R S bm V X F a b q r [.b (decide ((A.length:Int)>0)) false,.b ((E.length:Int)==0) true])):
av 164 [.agg (bq F a b),.agg (bb A C E H ao K L G)] [.agg (bb M N Q R S bm V X),ak false]:=
h.of
theorem agu(h:ad (Bo E F C K L M N H ao Q A R S bm V X G f g q r [.b (decide ((E.length:Int)>0)) false,.b ((C.length:Int)==0) false,.p ((0:Int)<=0),.p (0<(C.length:Int)),.e C 0 (bn a b c d e),.a .own,.g ao [(bn a b c d e)] 40,.h [(bn a b c d e)],.p ((0:Int)<=(some (1:Int)).getD 0),.p ((some (1:Int)).getD 0<=none.getD (A.length:Int)),.p (none.getD (A.length:Int)<=(A.length:Int))])):
av 164 [.agg (bq G f g),.agg (bb E F C K L M N H)] [.agg (bb (ao++[(bn a b c d e)]) Q (List.take (A.length-1) (List.drop 1 A)) R S bm V X),ak true]:=
h.of
theorem agv(h:ad (MC N Q R S bm V X C E F G H ao K L M A a b q [.n q true])):
av 169 [.agg (bq A a b),.agg (bb N Q R S bm V X C)] [.agg (bb E F G H ao K L M),ak false]:=
h.of
theorem agw(h:ad (Bn E F G H ao K L C M N Q R S bm V X A a b q r [.n r true])):
av 169 [.agg (bq A a b),.agg (bb E F G H ao K L C)] [.agg (bb M N Q R S bm V X),ak false]:=
h.of
theorem agx(h:ad (Bn F A G H ao K L E M N Q R S bm V X C a b q r [.n r false,.b (decide ((A.length:Int)>0)) true])):
av 169 [.agg (bq C a b),.agg (bb F A G H ao K L E)] [.agg (bb M N Q R S bm V X),ak false]:=
h.of
theorem agy(h:ad (Bo A C G H ao K L F M N Q R S bm V X E a b q r [.b ((A.length:Int)==0) true])):
av 169 [.agg (bq E a b),.agg (bb A C G H ao K L F)] [.agg (bb M N Q R S bm V X),ak false]:=
h.of
def VK(A C E F G H ao K L M N P Q R S bm V:ae)(a b:Int)(q r:Bool)(c d e f g:Int)(X Y:ae)(s t:Bool)(l:List O):List O:=Bo A C E F G H ao K L M N P Q R S bm V a b q r (.b ((A.length:Int)==0) false::.p ((0:Int)<=0)::.p (0<(A.length:Int))::.e A 0 (bn c d e f g)::.a .own::.p ((0:Int)<=(some (1:Int)).getD 0)::.p ((some (1:Int)).getD 0<=none.getD (L.length:Int))::.p (none.getD (L.length:Int)<=(L.length:Int))::.r 232 [.agg (bq V a b),aP 4 F,.agg (bn c d e f g)] [aP 4 X,aP 5 Y,ak s]::.r 265 [.agg (bq V a b),.agg (bn c d e f g)] [ak t]::l)
theorem agz{E:ae}{a b:Int}{C F K G L M N H A Y Q Z R S ao bm:ae}{q r:Bool}{d c e f g:Int}{V X:ae}{t s:Bool}{d30:D}(h:ad (VK C F K G L M N H A Y Q Z R S ao bm E a b q r d c e f g V X t s [.b s true,.x ao c [d30]])):
av 169 [.agg (bq E a b),.agg (bb C F K G L M N H)] [.agg (bb (List.take (A.length-1) (List.drop 1 A)) X Q V R S (ao.set c.toNat [B true]) bm),ak true]:=
h.of
theorem afZ(h:ad (VK C F ao G K L M H A Y N Z Q R S bm E a b q r c d e f g V X t s [.b s false])):
av 169 [.agg (bq E a b),.agg (bb C F ao G K L M H)] [.agg (bb (List.take (A.length-1) (List.drop 1 A)) X N V Q R S bm),ak true]:=
h.of
theorem TD(h:ad [.r 55 [.agg (cl C a b A E F G)] [ak q],.b q true,.v ((A.length:Int)-1),.r 190 [af c,af 0,af ((A.length:Int)-1)] [ak r]]):
av 145 [.agg (cl C a b A E F G),af c] [ak r]:=
h.of
theorem af0(h:ad [.r 55 [.agg (cl A a b C E F G)] [ak q],.b q false]):
av 145 [.agg (cl A a b C E F G),af c] [ak false]:=
h.of
