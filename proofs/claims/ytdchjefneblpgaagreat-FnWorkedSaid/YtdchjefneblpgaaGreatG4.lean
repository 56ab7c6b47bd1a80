import Derived.Test.YtdchjefneblpgaaGreatGE
namespace Go.Proofs.YtdchjefneblpgaaGreat
open Go.Sx Go.RowKit Go.Proofs.Tryz
variable {a b c d e f g : Int} {A C E F G H ao K L M N Q R S bm V X Y Z : ae} {q r s t : Bool}
def EG(A C E F G H ao K L M N P Q R S bm:ae)(l:List O):List O:=.r 174 [.agg (bb A C E F G H ao K)] [.agg (bb L M N P Q R S bm)]::l
theorem aiG(h:ad (EG C E M N Q R S bm V A F G H ao K L [.b ((A.length:Int)==0) true])):
av 351 [.agg (bb C E M N Q R S bm)] [.agg (bb V A F G H ao K L),.agg (bn 0 0 0 0 0),ak false]:=
h.of
theorem aiH(h:ad (EG C E M N Q R S bm V A F G H ao K L [.b ((A.length:Int)==0) false,.p ((0:Int)<=0),.p (0<(A.length:Int)),.e A 0 (bn a b c d e),.p ((0:Int)<=(some (1:Int)).getD 0),.p ((some (1:Int)).getD 0<=none.getD (A.length:Int)),.p (none.getD (A.length:Int)<=(A.length:Int)),.g ([]:ae) (List.take (A.length-1) (List.drop 1 A)) 40,.h (List.take (A.length-1) (List.drop 1 A))])):
av 351 [.agg (bb C E M N Q R S bm)] [.agg (bb V ([]++List.take (A.length-1) (List.drop 1 A)) F G H ao K L),.agg (bn a b c d e),ak true]:=
h.of
theorem aiI(h:ad (EG C E M Q R S bm V A F G H ao K L N [.g A [(bn d e a b c)] 40,.h [(bn d e a b c)]])):
av 376 [.agg (bb C E M Q R S bm V),.agg (bn d e a b c)] [.agg (bb (A++[(bn d e a b c)]) F G H ao K L N)]:=
h.of
theorem aiJ{E F M Q R S bm V:ae}{f a c d e:Int}{G H ao K A C L N:ae}{q:Bool}{b:Int}{d23 d24:D}(h:ad [.r 376 [.agg (bb E F M Q R S bm V),.agg (bn f a c d e)] [.agg (bb G H ao K A C L N)],.v ((A.length:Int)-1),.r 168 [af a,af 0,af ((A.length:Int)-1)] [ak q],.b q true,.f C a true,.x A a [I b],.v (b-1),.x A a [d23],.x C a [d24]]):
av 349 [.agg (bb E F M Q R S bm V),.agg (bn f a c d e)] [.agg (bb G H ao K (A.set a.toNat [I (b-1)]) (C.set a.toNat [B true]) L N)]:=
h.of
def LL(A C E F G H ao K L M N P Q R S bm V:ae)(a b:Int)(q:Bool)(l:List O):List O:=EG A C E F G H ao K L M N P Q R S bm (.r 121 [.agg (bq V a b)] [ak q]::l)
theorem aiK(h:ad (LL N Q R S bm V X C E F G H ao K L M A a b q [.n q true])):
av 348 [.agg (bq A a b),.agg (bb N Q R S bm V X C)] [.agg (bb E F G H ao K L M),ak false]:=
h.of
def AY(A C E F G H ao K L M N P Q R S bm V:ae)(a b:Int)(q r:Bool)(l:List O):List O:=LL A C E F G H ao K L M N P Q R S bm V a b q (.n q false::.r 175 [.agg (bq V a b),.agg (bb L M N P Q R S bm)] [ak r]::l)
theorem aiL(h:ad (AY N Q R S bm V X M C E F G H ao K L A a b q r [.n r true])):
av 348 [.agg (bq A a b),.agg (bb N Q R S bm V X M)] [.agg (bb C E F G H ao K L),ak false]:=
h.of
theorem aiM(h:ad (AY N Q R S bm V X M E A F G H ao K L C a b q r [.n r false,.b (decide ((A.length:Int)>0)) true])):
av 348 [.agg (bq C a b),.agg (bb N Q R S bm V X M)] [.agg (bb E A F G H ao K L),ak false]:=
h.of
def AZ(A C E F G H ao K L M N P Q R S bm V:ae)(a b:Int)(q r:Bool)(l:List O):List O:=AY A C E F G H ao K L M N P Q R S bm V a b q r (.n r false::.b (decide ((M.length:Int)>0)) false::l)
theorem aiN(h:ad (AZ N Q R S bm V X M A C F G H ao K L E a b q r [.b (decide ((A.length:Int)>0)) true])):
av 348 [.agg (bq E a b),.agg (bb N Q R S bm V X M)] [.agg (bb A C F G H ao K L),ak false]:=
h.of
theorem aiO(h:ad (AZ N Q R S bm V X M A C E G H ao K L F a b q r [.b (decide ((A.length:Int)>0)) false,.b ((E.length:Int)==0) true])):
av 348 [.agg (bq F a b),.agg (bb N Q R S bm V X M)] [.agg (bb A C E G H ao K L),ak false]:=
h.of
theorem aiP(h:ad (AZ N Q R S bm V X M C E A G H ao K L F f g q r [.b (decide ((C.length:Int)>0)) false,.b ((A.length:Int)==0) false,.p ((0:Int)<=0),.p (0<(A.length:Int)),.e A 0 (bn a b c d e),.g C [(bn a b c d e)] 40,.h [(bn a b c d e)],.p ((0:Int)<=(some (1:Int)).getD 0),.p ((some (1:Int)).getD 0<=none.getD (A.length:Int)),.p (none.getD (A.length:Int)<=(A.length:Int)),.g ([]:ae) (List.take (A.length-1) (List.drop 1 A)) 40,.h (List.take (A.length-1) (List.drop 1 A))])):
av 348 [.agg (bq F f g),.agg (bb N Q R S bm V X M)] [.agg (bb (C++[(bn a b c d e)]) E ([]++List.take (A.length-1) (List.drop 1 A)) G H ao K L),ak true]:=
h.of
theorem aiQ(h:ad (LL N Q R S bm V X C E F G H ao K L M A a b q [.n q true])):
av 48 [.agg (bq A a b),.agg (bb N Q R S bm V X C)] [.agg (bb E F G H ao K L M),ak false]:=
h.of
theorem aiR(h:ad (AY N Q R S bm V X M C E F G H ao K L A a b q r [.n r true])):
av 48 [.agg (bq A a b),.agg (bb N Q R S bm V X M)] [.agg (bb C E F G H ao K L),ak false]:=
h.of
theorem aiS(h:ad (AY N Q R S bm V X M E A F G H ao K L C a b q r [.n r false,.b (decide ((A.length:Int)>0)) true])):
av 48 [.agg (bq C a b),.agg (bb N Q R S bm V X M)] [.agg (bb E A F G H ao K L),ak false]:=
h.of
theorem aiT(h:ad (AZ N Q R S bm V X M A C F G H ao K L E a b q r [.b ((A.length:Int)==0) true])):
av 48 [.agg (bq E a b),.agg (bb N Q R S bm V X M)] [.agg (bb A C F G H ao K L),ak false]:=
h.of
def Uv(A C E F G H ao K L M N P Q R S bm V:ae)(a b:Int)(q r:Bool)(c d e f g:Int)(X Y:ae)(s t:Bool)(l:List O):List O:=AZ A C E F G H ao K L M N P Q R S bm V a b q r (.b ((L.length:Int)==0) false::.p ((0:Int)<=0)::.p (0<(L.length:Int))::.e L 0 (bn c d e f g)::.r 176 [.agg (bq V a b),aP 4 P,.agg (bn c d e f g)] [aP 4 X,aP 5 Y,ak s]::.p ((0:Int)<=(some (1:Int)).getD 0)::.p ((some (1:Int)).getD 0<=none.getD (L.length:Int))::.p (none.getD (L.length:Int)<=(L.length:Int))::.g ([]:ae) (List.take (L.length-1) (List.drop 1 L)) 40::.h (List.take (L.length-1) (List.drop 1 L))::.r 177 [.agg (bq V a b),.agg (bn c d e f g)] [ak t]::l)
theorem aiU{C:ae}{a b:Int}{R S bm V X Y Z M A F G H ao K E L:ae}{q r:Bool}{d c e f g:Int}{N Q:ae}{t s:Bool}{d30:D}(h:ad (Uv R S bm V X Y Z M A F G H ao K E L C a b q r d c e f g N Q t s [.b s true,.x E c [d30]])):
av 48 [.agg (bq C a b),.agg (bb R S bm V X Y Z M)] [.agg (bb ([]++List.take (A.length-1) (List.drop 1 A)) Q G N ao K (E.set c.toNat [B true]) L),ak true]:=
h.of
theorem aiV(h:ad (Uv R S bm V X Y Z M A E F G H ao K L C a b q r c d e f g N Q t s [.b s false])):
av 48 [.agg (bq C a b),.agg (bb R S bm V X Y Z M)] [.agg (bb ([]++List.take (A.length-1) (List.drop 1 A)) Q F N H ao K L),ak true]:=
h.of
def Uw(A:ae)(a b:Int)(C E F G:ae)(q:Bool)(H:ae)(c d:Int)(ao K L M:ae)(r s:Bool)(N:ae)(e f:Int)(P Q R S:ae)(l:List O):List O:=.a (.dr [none] (aT.new [D.J 4 A,I a,I b,D.J 8 C,D.J 6 E,D.J 5 F,D.J 3 G,B q]))::.a (.dr [some [D.J 4 H,I c,I d,D.J 8 ao,D.J 6 K,D.J 5 L,D.J 3 M,B r],none] (aT.vals [ak s]))::.p (bY prog 127 [aM.ro (.agg (cl N e f P Q R S))] (aT.new [D.J 4 A,I a,I b,D.J 8 C,D.J 6 E,D.J 5 F,D.J 3 G,B q]))::l
theorem aiW(h:ad (Uw M d a A C E F q G b c H ao K L s r N e f Q R S bm [.p (bY prog 170 [aM.ref [D.J 4 M,I d,I a,D.J 8 A,D.J 6 C,D.J 5 E,D.J 3 F,B q] [D.J 4 G,I b,I c,D.J 8 H,D.J 6 ao,D.J 5 K,D.J 3 L,B s],aM.ro (af g)] (aT.vals [ak r]))])):
av 45 [.agg (cl N e f Q R S bm),af g] [.agg (cl G b c H ao K L),ak r]:=
h.of
theorem aiX(h:ad (Uw M d a A C E F q G b c H ao K L s r N e f Q R S bm [.p (bY prog 171 [aM.ref [D.J 4 M,I d,I a,D.J 8 A,D.J 6 C,D.J 5 E,D.J 3 F,B q] [D.J 4 G,I b,I c,D.J 8 H,D.J 6 ao,D.J 5 K,D.J 3 L,B s],aM.ro (af g)] (aT.vals [ak r]))])):
av 46 [.agg (cl N e f Q R S bm),af g] [.agg (cl G b c H ao K L),ak r]:=
h.of
