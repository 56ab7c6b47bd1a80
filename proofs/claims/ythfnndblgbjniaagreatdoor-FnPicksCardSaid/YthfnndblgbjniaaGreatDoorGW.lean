import Derived.Test.YthfnndblgbjniaaGreatDoorGE
namespace Go.Proofs.YthfnndblgbjniaaGreatDoor
open Go.Sx Go.RowKit
variable {a b c d e f g i j k l m n o p a0 b6 cS d0 bz f0 i0 j0 dk eW m0 kv : Int} {A C E F G H ah K L M N Q R S a1 V X Y Z c9 dv ej gN ew gf fi gB fj gO fk H1 eF Cf iC Cg iD Ch jG Ck jH Gs jI Gt lj Gu lk mQ nV oS jJ rX rY rZ : af} {q r s t : Bool}
def qM(a:Int)(A:af)(b c d e f:Int)(C:af)(g i j k:Int)(q:Bool)(l:List O):List O:=.r 77 [.agg (bT a A b c d e)] [.agg (bT f C g i j k)]::.r 80 [.agg (bT a A b c d e)] [ai q]::l
theorem ajz(h:ae (qM a A b c d e i C j k f g q [.n q true])):
 al 108 [.agg (bT a A b c d e)] [.agg (bT i C j k f g),ai false]:=
 h.of
theorem ajA(h:ae (qM b A c a d e i C j k f g q [.n q false,.b (a==0) true])):
 al 108 [.agg (bT b A c a d e)] [.agg (bT i C j k f g),ai false]:=
 h.of
theorem ajB(h:ae (qM b A c a d e k C f g i j q [.n q false,.b (a==0) false,.v (g-1),.u f])):
 al 108 [.agg (bT b A c a d e)] [.agg (bT k C (f+1) (g-1) i j),ai true]:=
 h.of
def F8(A C E F G H ah K L M N P Q R S a1:af)(l:List O):List O:=.r 76 [.agg (aX A C E F G H ah K)] [.agg (aX L M N P Q R S a1)]::l
theorem ajC(h:ae (F8 C E M Q R S a1 V A F G H ah K L N [.g A [(bj d e a b c)] 40,.h [(bj d e a b c)]])):
 al 101 [.agg (aX C E M Q R S a1 V),.agg (bj d e a b c)] [.agg (aX (A++[(bj d e a b c)]) F G H ah K L N)]:=
 h.of
theorem ajD(h:ae [.b (decide ((if b<a then b else a)<0)) true]):
 al 102 [.agg (bq A c d),ag a,ag b] [ag (-1)]:=
 h.of
theorem ak4(h:ae [.b (decide ((if b<a then b else a)<0)) false,.b (decide ((if b>a then b else a)>=c)) true]):
 al 102 [.agg (bq A c d),ag a,ag b] [ag (-1)]:=
 h.of
theorem ak5(h:ae [.b (decide ((if b<a then b else a)<0)) false,.b (decide ((if b>a then b else a)>=c)) false,.v (a*c),.v (a*c+b)]):
 al 102 [.agg (bq A c d),ag a,ag b] [ag (a*c+b)]:=
 h.of
def Ns(A:af)(a b:Int)(C E F G H:af)(c d:Int)(ah K L M:af)(l:List O):List O:=.r 38 [.agg (a8 A a b C E F G)] [.agg (a8 H c d ah K L M)]::l
def B0(A:af)(a b:Int)(C E F G H:af)(c d:Int)(ah K L M:af)(e f g:Int)(l:List O):List O:=Ns A a b C E F G H c d ah K L M (.r 105 [.agg (a8 A a b C E F G),ag e,ag f] [ag g]::l)
theorem UG(h:ae (B0 A a b C E F G M c d H ah K L f g e [.b (decide (e<0)) true])):
 al 61 [.agg (a8 A a b C E F G),ag f,ag g] [.agg (a8 M c d H ah K L),ai false]:=
 h.of
theorem ak6{C:af}{b c:Int}{F A G H:af}{a0 b6:Int}{Q:af}{d e:Int}{ah E K L:af}{a f:Int}{M:af}{g i j k l:Int}{N:af}{m n o p:Int}{q:Bool}{d30 d31 d32 d33 d34 d35:D}(h:ae (B0 C b c F A G H Q d e ah E K L a0 b6 a [.b (decide (a<0)) false,.x A a (bT f M g i j k),.r 108 [.agg (bT f M g i j k)] [.agg (bT l N m n o p),ai q],.x E a [d30,d31,d32,d33,d34,d35]])):
 al 61 [.agg (a8 C b c F A G H),ag a0,ag b6] [.agg (a8 Q d e ah (E.set a.toNat (bT l N m n o p)) K L),ai q]:=
 h.of
def wJ(A:af)(a b:Int)(C E F G H:af)(c d:Int)(ah K L M:af)(e:Int)(q:Bool)(l:List O):List O:=Ns A a b C E F G H c d ah K L M (.r 96 [.agg (a8 A a b C E F G),ag e] [ai q]::l)
theorem UH(h:ae (wJ A a b C E F G M e c H ah K L d q [.n q true])):
 al 58 [.agg (a8 A a b C E F G),ag d] [.agg (a8 M e c H ah K L),ai false]:=
 h.of
theorem ak7{A:af}{b c:Int}{C F G H:af}{a:Int}{eF:af}{e d:Int}{E ah K L:af}{q:Bool}{M N Q R S a1 V X Y Z c9 ej ew fi fj fk:af}{r:Bool}{d33 d34 d35 d36 d37 d38 d39 d40:D}(h:ae (wJ A b c C F G H eF e d E ah K L a q [.n q false,.x C a (aX M N Q R S a1 V X),.r 98 [.agg (bq A b c),.agg (aX M N Q R S a1 V X)] [.agg (aX Y Z c9 ej ew fi fj fk),ai r],.x E a [d33,d34,d35,d36,d37,d38,d39,d40]])):
 al 58 [.agg (a8 A b c C F G H),ag a] [.agg (a8 eF e d (E.set a.toNat (aX Y Z c9 ej ew fi fj fk)) ah K L),ai r]:=
 h.of
theorem UI(h:ae (wJ A a b C E F G M e c H ah K L d q [.n q true])):
 al 59 [.agg (a8 A a b C E F G),ag d] [.agg (a8 M e c H ah K L),ai false]:=
 h.of
theorem ak8(h:ae (wJ C a b A E F G N e d H ah K L c q [.n q false,.x A c (aX Q M R S a1 V X Y),.b ((M.length:Int)==0) true])):
 al 59 [.agg (a8 C a b A E F G),ag c] [.agg (a8 N e d H ah K L),ai false]:=
 h.of
def Nt(A:af)(a b:Int)(C E F G H:af)(c d:Int)(ah K L M:af)(e:Int)(q:Bool)(N P Q R S a1 V X Y Z dv gN gf gB gO H1 Cf Cg Ch Ck Gs Gt Gu XE:af)(f g i j k:Int)(r:Bool)(m:Int)(l:List O):List O:=wJ A a b C E F G H c d ah K L M e q (.n q false::.x C e (aX N P Q R S a1 V X)::.b ((P.length:Int)==0) false::.x C e (aX Y Z dv gN gf gB gO H1)::.r 99 [.agg (aX Y Z dv gN gf gB gO H1)] [.agg (aX Cf Cg Ch Ck Gs Gt Gu XE),.agg (bj f g i j k),ai r]::.r 100 [ag j,ag a] [ag m]::l)
theorem ak9(h:ae (Nt C b c A F G H nV l e E ah K L a q oS M jJ rX rY rZ dv gN N Q R S a1 V X Y Z c9 ej ew fi fj fk eF f g i d j r k [.b (k==a) true,.r 101 [.agg (aX Z c9 ej ew fi fj fk eF),.agg (bj f g i d j)] [.agg (aX iC iD jG jH jI lj lk mQ)],.x E a (aX gf gB gO H1 Cf Cg Ch Ck)])):
 al 59 [.agg (a8 C b c A F G H),ag a] [.agg (a8 nV l e (E.set a.toNat (aX iC iD jG jH jI lj lk mQ)) ah K L),ai true]:=
 h.of
theorem ala(h:ae (Nt C b c A E F G c9 b6 f H ah K L a q ej M ew fi fj fk eF iC N Q R S a1 V X Y iD jG jH jI lj lk mQ nV g i j d k s e [.b (e==a) false,.r 102 [.agg (bq C b c),ag a,ag e] [ag l],.x E l (bT m Z n o p a0),.r 103 [.agg (bT m Z n o p a0),.agg (bj g i j d k)] [.agg (bT cS oS d0 bz f0 i0),ai r],.n r true])):
 al 59 [.agg (a8 C b c A E F G),ag a] [.agg (a8 c9 b6 f H ah K L),ai false]:=
 h.of
theorem alb(h:ae (Nt C b c A E H ah jJ i0 i F G K L a q rX M rY rZ dv gN gf gB N Q R S a1 V X Y Z c9 ej ew fi fj fk eF j e k f l s g [.b (g==a) false,.r 102 [.agg (bq C b c),ag a,ag g] [ag d],.x E d (bT m iC n o p a0),.r 103 [.agg (bT m iC n o p a0),.agg (bj j e k f l)] [.agg (bT b6 iD cS d0 bz f0),ai r],.n r false,.x G d (bT j0 gO dk eW m0 kv),.r 104 [.agg (aX Z c9 ej ew fi fj fk eF),ag e] [.agg (aX jG jH jI lj lk mQ nV oS)],.x F a (aX H1 Cf Cg Ch Ck Gs Gt Gu)])):
 al 59 [.agg (a8 C b c A E H ah),ag a] [.agg (a8 jJ i0 i (F.set a.toNat (aX jG jH jI lj lk mQ nV oS)) (G.set d.toNat (bT b6 iD cS d0 bz f0)) K L),ai true]:=
 h.of
theorem UJ(h:ae (B0 A a b C E F G M c d H ah K L f g e [.b (decide (e<0)) true])):
 al 60 [.agg (a8 A a b C E F G),ag f,ag g] [.agg (a8 M c d H ah K L),ai false]:=
 h.of
theorem alc(h:ae (B0 C a c E A F G N d e H ah K L l m b [.b (decide (b<0)) false,.x A b (bT f M g i j k),.r 106 [.agg (bT f M g i j k)] [.agg (bT n Q o p a0 b6),.agg (bj cS d0 bz f0 i0),ai q],.n q true])):
 al 60 [.agg (a8 C a c E A F G),ag l,ag m] [.agg (a8 N d e H ah K L),ai false]:=
 h.of
theorem ald(h:ae (B0 E c d A C H ah iD e f F G K L i0 b a [.b (decide (a<0)) false,.x C a (bT g M i j k l),.r 106 [.agg (bT g M i j k l)] [.agg (bT m N n o p a0),.agg (bj b6 cS d0 bz f0),ai q],.n q false,.x G a (bT j0 jG dk eW m0 kv),.x A b (aX Q R S a1 V X Y Z),.r 107 [.agg (aX Q R S a1 V X Y Z),.agg (bj b6 cS d0 bz f0)] [.agg (aX c9 ej ew fi fj fk eF iC)],.x F b (aX jH jI lj lk mQ nV oS jJ)])):
 al 60 [.agg (a8 E c d A C H ah),ag i0,ag b] [.agg (a8 iD e f (F.set b.toNat (aX c9 ej ew fi fj fk eF iC)) (G.set a.toNat (bT m N n o p a0)) K L),ai true]:=
 h.of
theorem UK(h:ae (wJ A a b C E F G M e c H ah K L d q [.n q true])):
 al 57 [.agg (a8 A a b C E F G),ag d] [.agg (a8 M e c H ah K L),ai false]:=
 h.of
theorem ale(h:ae (wJ A b c C F G H eF e d E ah K L a q [.n q false,.x C a (aX M N Q R S a1 V X),.r 97 [.agg (bq A b c),.agg (aX M N Q R S a1 V X)] [.agg (aX Y Z c9 ej ew fi fj fk),ai r],.x E a (aX iC iD jG jH jI lj lk mQ)])):
 al 57 [.agg (a8 A b c C F G H),ag a] [.agg (a8 eF e d (E.set a.toNat (aX Y Z c9 ej ew fi fj fk)) ah K L),ai r]:=
 h.of
theorem alf{G H Q S A C a1 V:af}{f a c d e:Int}{ah K L M E F N R:af}{q:Bool}{b:Int}{d23 d24:D}(h:ae [.r 101 [.agg (aX G H Q S A C a1 V),.agg (bj f a c d e)] [.agg (aX ah K L M E F N R)],.v ((if (C.length:Int)<(A.length:Int) then (C.length:Int) else (A.length:Int))-1),.r 64 [ag a,ag 0,ag ((if (C.length:Int)<(A.length:Int) then (C.length:Int) else (A.length:Int))-1)] [ai q],.b q true,.x E a [I b],.v (b-1),.x E a [d23],.x F a [d24]]):
 al 107 [.agg (aX G H Q S A C a1 V),.agg (bj f a c d e)] [.agg (aX ah K L M (E.set a.toNat [I (b-1)]) (F.set a.toNat [B true]) N R)]:=
 h.of
def Aa(A:af)(a:Int)(C E:af)(d e:Int)(F G H ah:af)(b c:Int):aF:=bf 34 [(4,aS 4),(6,aS 6),(7,aG.aC (bl.one (aw 30 1 C))),(14,du 3 A),(15,aU (A.length:Int)),(16,aU a)] [(6,[aw 900007000 4 E,au d,au e,aw 900007003 8 F,aw 900007004 6 G,aw 900007005 5 H,aw 900007006 3 ah]),(4,[.v (aP),au b,au c,.v (aP),.v (aP),.v (aP),.v (aP)])]
theorem alg(h:ae [.i C a [I f,I g,I i],.r 23 [.agg (a8 E b c F G H ah),.agg [I f,I g,I i]] [.agg (a8 K j k L M N Q),ai q],.g A [[B q]] 1,.h [[B q]],.u a]):
 aY (ap Tryz.f28 0) (Aa C a A E b c F G H ah d e) .normal (Aa C (a+1) (A++[[B q]]) K j k L M N Q d e):=
 h.oi [(7000000,900007000,4),(7000003,900007003,8),(7000004,900007004,6),(7000005,900007005,5),(7000006,900007006,3)] [16,15,14,6,7,4] [6,4]
def UL(A C:af)(a b:Int)(E F G H:af)(c d:Int):aF:=bf 34 [(4,aS 4),(6,aS 6),(7,aG.aC (bl.one (aw 30 1 A)))] [(6,[aw 900007000 4 C,au a,au b,aw 900007003 8 E,aw 900007004 6 F,aw 900007005 5 G,aw 900007006 3 H]),(4,[.v (aP),au c,au d,.v (aP),.v (aP),.v (aP),.v (aP)])]
theorem alh(h:ae [.f ah a false]):
 aY (ap Tryz.f28 0) (Aa ah a A C b c E F G H d e) (.exit 0) (UL A C b c E F G H d e):=
 h.aT [6,7,4] [6,4]
theorem ali(h:ae (Ns A a e Q R S a1 X f b C E F G [.l [(7,30,1),(7000000,900007000,4),(7000003,900007003,8),(7000004,900007004,6),(7000005,900007005,5),(7000006,900007006,3)] [16,15,14,6,7,4] [6,4] (ap Tryz.f28 0) (Aa V 0 [] X f b C E F G 0 0) (.exit 0) (UL H ah c d K L M N g i)])):
 al 28 [.agg (a8 A a e Q R S a1),aO 3 V] [.agg (a8 ah c d K L M N),aO 1 H]:=
 h.of
theorem alj(h:ae (qM a A b c d e f C g i j k q [.n q true])):
 al 103 [.agg (bT a A b c d e),.agg (bj m n o p l)] [.agg (bT f C g i j k),ai false]:=
 h.of
theorem alk(h:ae (qM a A b c d e g C i j k l q [.n q false,.r 131 [.agg (bj m n o p f)] [ai r],.n r true])):
 al 103 [.agg (bT a A b c d e),.agg (bj m n o p f)] [.agg (bT g C i j k l),ai false]:=
 h.of
theorem alm(h:ae (qM b A a c d e g C i j k l q [.n q false,.r 131 [.agg (bj m n o p f)] [ai r],.n r false,.b (a==0) true])):
 al 103 [.agg (bT b A a c d e),.agg (bj m n o p f)] [.agg (bT g C i j k l),ai false]:=
 h.of
theorem aln(h:ae (qM c A a d b e g C i j k l q [.n q false,.r 131 [.agg (bj m n o p f)] [ai r],.n r false,.b (a==0) false,.b (b==1000000000) true])):
 al 103 [.agg (bT c A a d b e),.agg (bj m n o p f)] [.agg (bT g C i j k l),ai false]:=
 h.of
theorem alo(h:ae (qM i A f l g m n C j o k p q [.n q false,.r 131 [.agg (bj b c d e a)] [ai r],.n r false,.b (f==0) false,.b (g==1000000000) false,.g C [(bj b c d e a)] 40,.h [(bj b c d e a)],.v (j-1),.u k])):
 al 103 [.agg (bT i A f l g m),.agg (bj b c d e a)] [.agg (bT n (C++[(bj b c d e a)]) (j-1) o (k+1) p),ai true]:=
 h.of
theorem alp{E F N Q C R S a1:af}{a:Int}{V G H ah A K L M:af}{q:Bool}{b:Int}{d19:D}(h:ae (F8 E F N Q C R S a1 V G H ah A K L M [.v ((C.length:Int)-1),.r 64 [ag a,ag 0,ag ((C.length:Int)-1)] [ai q],.b q true,.x A a [I b],.u b,.x A a [d19]])):
 al 104 [.agg (aX E F N Q C R S a1),ag a] [.agg (aX V G H ah (A.set a.toNat [I (b+1)]) K L M)]:=
 h.of
theorem alq(h:ae [.b (e==1) true,.r 57 [.agg (a8 A a d ah K L M),ag f] [.agg (a8 C b c E F G H),ai q]]):
 al 23 [.agg (a8 A a d ah K L M),.agg [I e,I f,I g]] [.agg (a8 C b c E F G H),ai q]:=
 h.of
theorem alr(h:ae [.b (a==1) false,.b (a==2) true,.r 58 [.agg (a8 A b e ah K L M),ag f] [.agg (a8 C c d E F G H),ai q]]):
 al 23 [.agg (a8 A b e ah K L M),.agg [I a,I f,I g]] [.agg (a8 C c d E F G H),ai q]:=
 h.of
def Xe(a:Int)(l:List O):List O:=.b (a==1) false::.b (a==2) false::l
theorem als(h:ae (Xe a [.b (a==3) true,.r 59 [.agg (a8 A b e ah K L M),ag f] [.agg (a8 C c d E F G H),ai q]])):
 al 23 [.agg (a8 A b e ah K L M),.agg [I a,I f,I g]] [.agg (a8 C c d E F G H),ai q]:=
 h.of
def Nu(a:Int)(l:List O):List O:=Xe a (.b (a==3) false::l)
theorem alu(h:ae (Nu a [.b (a==4) true,.r 60 [.agg (a8 A b e ah K L M),ag f,ag g] [.agg (a8 C c d E F G H),ai q]])):
 al 23 [.agg (a8 A b e ah K L M),.agg [I a,I f,I g]] [.agg (a8 C c d E F G H),ai q]:=
 h.of
theorem alv(h:ae (Nu a [.b (a==4) false,.b (a==5) true,.r 61 [.agg (a8 A b e ah K L M),ag f,ag g] [.agg (a8 C c d E F G H),ai q]])):
 al 23 [.agg (a8 A b e ah K L M),.agg [I a,I f,I g]] [.agg (a8 C c d E F G H),ai q]:=
 h.of
def Nv(a:Int)(l:List O):List O:=Nu a (.b (a==4) false::.b (a==5) false::l)
theorem akE(h:ae (Nv a [.b (a==6) true,.r 62 [.agg (a8 A b e ah K L M),ag f] [.agg (a8 C c d E F G H),ai q]])):
 al 23 [.agg (a8 A b e ah K L M),.agg [I a,I f,I g]] [.agg (a8 C c d E F G H),ai q]:=
 h.of
theorem akF(h:ae (Nv a [.b (a==6) false,.b (a==7) true,.r 7 [.agg (a8 A b e ah K L M),ag f] [.agg (a8 C c d E F G H),ai q]])):
 al 23 [.agg (a8 A b e ah K L M),.agg [I a,I f,I g]] [.agg (a8 C c d E F G H),ai q]:=
 h.of
theorem akG(h:ae (Nv a [.b (a==6) false,.b (a==7) false,.r 38 [.agg (a8 A b e ah K L M)] [.agg (a8 C c d E F G H)]])):
 al 23 [.agg (a8 A b e ah K L M),.agg [I a,I f,I g]] [.agg (a8 C c d E F G H),ai false]:=
 h.of
theorem akH(h:ae (qM a A b c d e i C j k f g q [.n q true])):
 al 106 [.agg (bT a A b c d e)] [.agg (bT i C j k f g),.agg (bj 0 0 0 0 0),ai false]:=
 h.of
theorem akI(h:ae (qM a A b c d e i C j k f g q [.n q false,.b ((A.length:Int)==0) true])):
 al 106 [.agg (bT a A b c d e)] [.agg (bT i C j k f g),.agg (bj 0 0 0 0 0),ai false]:=
 h.of
theorem akJ(h:ae (qM a A c d e f o C p g i b q [.n q false,.b ((A.length:Int)==0) false,.a .own,.p ((0:Int)<=(some (1:Int)).getD 0),.p ((some (1:Int)).getD 0<=none.getD (C.length:Int)),.p (none.getD (C.length:Int)<=(C.length:Int)),.u b,.u g,.p ((0:Int)<=0),.p (0<(A.length:Int)),.e A 0 (bj j k l m n)])):
 al 106 [.agg (bT a A c d e f)] [.agg (bT o (List.take (C.length-1) (List.drop 1 C)) p (g+1) i (b+1)),.agg (bj j k l m n),ai true]:=
 h.of
def Nr(A C E F G H ah K L M N P Q R S a1 V:af)(a b:Int)(q:Bool)(l:List O):List O:=F8 A C E F G H ah K L M N P Q R S a1 (.r 78 [.agg (bq V a b)] [ai q]::l)
theorem akK(h:ae (Nr N Q R S a1 V X C E F G H ah K L M A a b q [.n q true])):
 al 98 [.agg (bq A a b),.agg (aX N Q R S a1 V X C)] [.agg (aX E F G H ah K L M),ai false]:=
 h.of
def BY(A C E F G H ah K L M N P Q R S a1 V:af)(a b:Int)(q r:Bool)(l:List O):List O:=Nr A C E F G H ah K L M N P Q R S a1 V a b q (.n q false::.r 79 [.agg (bq V a b),.agg (aX A C E F G H ah K)] [ai r]::l)
theorem akL(h:ae (BY E F G H ah K L C M N Q R S a1 V X A a b q r [.n r true])):
 al 98 [.agg (bq A a b),.agg (aX E F G H ah K L C)] [.agg (aX M N Q R S a1 V X),ai false]:=
 h.of
theorem akM(h:ae (BY F A G H ah K L E M N Q R S a1 V X C a b q r [.n r false,.b (decide ((A.length:Int)>0)) true])):
 al 98 [.agg (bq C a b),.agg (aX F A G H ah K L E)] [.agg (aX M N Q R S a1 V X),ai false]:=
 h.of
def BZ(A C E F G H ah K L M N P Q R S a1 V:af)(a b:Int)(q r:Bool)(l:List O):List O:=BY A C E F G H ah K L M N P Q R S a1 V a b q r (.n r false::.b (decide ((C.length:Int)>0)) false::l)
theorem akN(h:ae (BZ A C G H ah K L F M N Q R S a1 V X E a b q r [.b (decide ((A.length:Int)>0)) true])):
 al 98 [.agg (bq E a b),.agg (aX A C G H ah K L F)] [.agg (aX M N Q R S a1 V X),ai false]:=
 h.of
theorem akO(h:ae (BZ A C E H ah K L G M N Q R S a1 V X F a b q r [.b (decide ((A.length:Int)>0)) false,.b ((E.length:Int)==0) true])):
 al 98 [.agg (bq F a b),.agg (aX A C E H ah K L G)] [.agg (aX M N Q R S a1 V X),ai false]:=
 h.of
theorem akP(h:ae (BZ E F C K L M N H ah Q A R S a1 V X G f g q r [.b (decide ((E.length:Int)>0)) false,.b ((C.length:Int)==0) false,.p ((0:Int)<=0),.p (0<(C.length:Int)),.e C 0 (bj a b c d e),.a .own,.g ah [(bj a b c d e)] 40,.h [(bj a b c d e)],.p ((0:Int)<=(some (1:Int)).getD 0),.p ((some (1:Int)).getD 0<=none.getD (A.length:Int)),.p (none.getD (A.length:Int)<=(A.length:Int))])):
 al 98 [.agg (bq G f g),.agg (aX E F C K L M N H)] [.agg (aX (ah++[(bj a b c d e)]) Q (List.take (A.length-1) (List.drop 1 A)) R S a1 V X),ai true]:=
 h.of
theorem akQ(h:ae (F8 E C M N Q R S a1 V A F G H ah K L [.b ((C.length:Int)==0) false,.a .own,.p ((0:Int)<=(some (1:Int)).getD 0),.p ((some (1:Int)).getD 0<=none.getD (A.length:Int)),.p (none.getD (A.length:Int)<=(A.length:Int)),.p ((0:Int)<=0),.p (0<(C.length:Int)),.e C 0 (bj a b c d e)])):
 al 99 [.agg (aX E C M N Q R S a1)] [.agg (aX V (List.take (A.length-1) (List.drop 1 A)) F G H ah K L),.agg (bj a b c d e),ai true]:=
 h.of
theorem akR(h:ae (Nr N Q R S a1 V X C E F G H ah K L M A a b q [.n q true])):
 al 97 [.agg (bq A a b),.agg (aX N Q R S a1 V X C)] [.agg (aX E F G H ah K L M),ai false]:=
 h.of
theorem akS(h:ae (BY E F G H ah K L C M N Q R S a1 V X A a b q r [.n r true])):
 al 97 [.agg (bq A a b),.agg (aX E F G H ah K L C)] [.agg (aX M N Q R S a1 V X),ai false]:=
 h.of
theorem akT(h:ae (BY F A G H ah K L E M N Q R S a1 V X C a b q r [.n r false,.b (decide ((A.length:Int)>0)) true])):
 al 97 [.agg (bq C a b),.agg (aX F A G H ah K L E)] [.agg (aX M N Q R S a1 V X),ai false]:=
 h.of
theorem akU(h:ae (BZ A C G H ah K L F M N Q R S a1 V X E a b q r [.b ((A.length:Int)==0) true])):
 al 97 [.agg (bq E a b),.agg (aX A C G H ah K L F)] [.agg (aX M N Q R S a1 V X),ai false]:=
 h.of
def Xd(A C E F G H ah K L M N P Q R S a1 V:af)(a b:Int)(q r:Bool)(c d e f g:Int)(X Y:af)(s t:Bool)(l:List O):List O:=BZ A C E F G H ah K L M N P Q R S a1 V a b q r (.b ((A.length:Int)==0) false::.p ((0:Int)<=0)::.p (0<(A.length:Int))::.e A 0 (bj c d e f g)::.a .own::.p ((0:Int)<=(some (1:Int)).getD 0)::.p ((some (1:Int)).getD 0<=none.getD (L.length:Int))::.p (none.getD (L.length:Int)<=(L.length:Int))::.r 151 [.agg (bq V a b),aO 4 F,.agg (bj c d e f g)] [aO 4 X,aO 5 Y,ai s]::.r 152 [.agg (bq V a b),.agg (bj c d e f g)] [ai t]::l)
theorem akV{E:af}{a b:Int}{C F K G L M N H A Y Q Z R S ah a1:af}{q r:Bool}{d c e f g:Int}{V X:af}{t s:Bool}{d30:D}(h:ae (Xd C F K G L M N H A Y Q Z R S ah a1 E a b q r d c e f g V X t s [.b s true,.x ah c [d30]])):
 al 97 [.agg (bq E a b),.agg (aX C F K G L M N H)] [.agg (aX (List.take (A.length-1) (List.drop 1 A)) X Q V R S (ah.set c.toNat [B true]) a1),ai true]:=
 h.of
theorem akW(h:ae (Xd C F ah G K L M H A Y N Z Q R S a1 E a b q r c d e f g V X t s [.b s false])):
 al 97 [.agg (bq E a b),.agg (aX C F ah G K L M H)] [.agg (aX (List.take (A.length-1) (List.drop 1 A)) X N V Q R S a1),ai true]:=
 h.of
theorem UM(h:ae [.r 41 [.agg (a8 C a b A E F G)] [ai q],.b q true,.v ((A.length:Int)-1),.r 64 [ag c,ag 0,ag ((A.length:Int)-1)] [ai r]]):
 al 96 [.agg (a8 C a b A E F G),ag c] [ai r]:=
 h.of
theorem akX(h:ae [.r 41 [.agg (a8 A a b C E F G)] [ai q],.b q false]):
 al 96 [.agg (a8 A a b C E F G),ag c] [ai false]:=
 h.of
theorem akY(h:ae [.r 41 [.agg (a8 A a b C E F G)] [ai q],.n q true]):
 al 105 [.agg (a8 A a b C E F G),ag c,ag d] [ag (-1)]:=
 h.of
theorem akZ(h:ae [.r 41 [.agg (a8 A a b C E F G)] [ai q],.n q false,.b (c==d) true]):
 al 105 [.agg (a8 A a b C E F G),ag c,ag d] [ag (-1)]:=
 h.of
theorem ak0(h:ae [.r 41 [.agg (a8 A a b C E F G)] [ai q],.n q false,.b (c==d) false,.r 102 [.agg (bq A a b),ag c,ag d] [ag e]]):
 al 105 [.agg (a8 A a b C E F G),ag c,ag d] [ag e]:=
 h.of
