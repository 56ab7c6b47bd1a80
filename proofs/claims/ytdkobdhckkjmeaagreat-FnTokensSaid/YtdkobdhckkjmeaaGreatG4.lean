import Derived.Test.YtdkobdhckkjmeaaGreatRows
import Derived.Test.YtdkobdhckkjmeaaGreatGE
set_option linter.unusedVariables false
set_option linter.unusedSimpArgs false
namespace Go.Proofs.YtdkobdhckkjmeaaGreat
open Go.Sx Go.RowKit
variable {a b c d e f g : Int} {A C E F G H J K L M N P Q R S U V W X : LL} {q r s t : Bool}
def y0j(A C E F G H J K L M N P Q R S U:LL)(l:List O):List O:=.r 208 [.agg (wk A C E F G H J K)] [.agg (wk L M N P Q R S U)]::l
theorem spec_Unstaged_p0(h:Oo (y0j C E M N P Q R S U A F G H J K L [.b ((A.length:Int)==0) true])):
 Rt 338 [.agg (wk C E M N P Q R S)] [.agg (wk U A F G H J K L),.agg (ri 0 0 0 0 0),cB false]:=
 h.of
theorem spec_Unstaged_p1(h:Oo (y0j C E M N P Q R S U A F G H J K L [.b ((A.length:Int)==0) false,.p ((0:Int)≤0),.p (0<(A.length:Int)),.e A 0 (ri a b c d e),.p ((0:Int)≤(some (1:Int)).getD 0),.p ((some (1:Int)).getD 0≤none.getD (A.length:Int)),.p (none.getD (A.length:Int)≤(A.length:Int)),.g ([]:LL) (List.take (A.length-1) (List.drop 1 A)) 40,.h (List.take (A.length-1) (List.drop 1 A))])):
 Rt 338 [.agg (wk C E M N P Q R S)] [.agg (wk U ([]++List.take (A.length-1) (List.drop 1 A)) F G H J K L),.agg (ri a b c d e),cB true]:=
 h.of
theorem spec_Kept_p0(h:Oo (y0j C E M P Q R S U A F G H J K L N [.g A [(ri d e a b c)] 40,.h [(ri d e a b c)]])):
 Rt 347 [.agg (wk C E M P Q R S U),.agg (ri d e a b c)] [.agg (wk (A++[(ri d e a b c)]) F G H J K L N)]:=
 h.of
theorem spec_Received_p0(E F M P Q R S U:LL)(f a c d e:Int)(G H J K A C L N:LL)(q:Bool)(b:Int)(d23 d24:D)(h:Oo [.r 347 [.agg (wk E F M P Q R S U),.agg (ri f a c d e)] [.agg (wk G H J K A C L N)],.v ((A.length:Int)-1),.r 167 [cI a,cI 0,cI ((A.length:Int)-1)] [cB q],.b q true,.f C a true,.x A a [I b],.v (b-1),.x A a [d23],.x C a [d24]]):
 Rt 336 [.agg (wk E F M P Q R S U),.agg (ri f a c d e)] [.agg (wk G H J K (A.set a.toNat [I (b-1)]) (C.set a.toNat [B true]) L N)]:=
 h.of
def y0k(A C E F G H J K L M N P Q R S U V:LL)(a b:Int)(q:Bool)(l:List O):List O:=y0j A C E F G H J K L M N P Q R S U (.r 121 [.agg (gr V a b)] [cB q]::l)
theorem spec_TakeInput_p0(h:Oo (y0k N P Q R S U V C E F G H J K L M A a b q [.n q true])):
 Rt 335 [.agg (gr A a b),.agg (wk N P Q R S U V C)] [.agg (wk E F G H J K L M),cB false]:=
 h.of
def y0l(A C E F G H J K L M N P Q R S U V:LL)(a b:Int)(q r:Bool)(l:List O):List O:=y0k A C E F G H J K L M N P Q R S U V a b q (.n q false::.r 175 [.agg (gr V a b),.agg (wk L M N P Q R S U)] [cB r]::l)
theorem spec_TakeInput_p1(h:Oo (y0l N P Q R S U V M C E F G H J K L A a b q r [.n r true])):
 Rt 335 [.agg (gr A a b),.agg (wk N P Q R S U V M)] [.agg (wk C E F G H J K L),cB false]:=
 h.of
theorem spec_TakeInput_p2(h:Oo (y0l N P Q R S U V M E A F G H J K L C a b q r [.n r false,.b (decide ((A.length:Int)>0)) true])):
 Rt 335 [.agg (gr C a b),.agg (wk N P Q R S U V M)] [.agg (wk E A F G H J K L),cB false]:=
 h.of
def y0m(A C E F G H J K L M N P Q R S U V:LL)(a b:Int)(q r:Bool)(l:List O):List O:=y0l A C E F G H J K L M N P Q R S U V a b q r (.n r false::.b (decide ((M.length:Int)>0)) false::l)
theorem spec_TakeInput_p3(h:Oo (y0m N P Q R S U V M A C F G H J K L E a b q r [.b (decide ((A.length:Int)>0)) true])):
 Rt 335 [.agg (gr E a b),.agg (wk N P Q R S U V M)] [.agg (wk A C F G H J K L),cB false]:=
 h.of
theorem spec_TakeInput_p4(h:Oo (y0m N P Q R S U V M A C E G H J K L F a b q r [.b (decide ((A.length:Int)>0)) false,.b ((E.length:Int)==0) true])):
 Rt 335 [.agg (gr F a b),.agg (wk N P Q R S U V M)] [.agg (wk A C E G H J K L),cB false]:=
 h.of
theorem spec_TakeInput_p5(h:Oo (y0m N P Q R S U V M C E A G H J K L F f g q r [.b (decide ((C.length:Int)>0)) false,.b ((A.length:Int)==0) false,.p ((0:Int)≤0),.p (0<(A.length:Int)),.e A 0 (ri a b c d e),.g C [(ri a b c d e)] 40,.h [(ri a b c d e)],.p ((0:Int)≤(some (1:Int)).getD 0),.p ((some (1:Int)).getD 0≤none.getD (A.length:Int)),.p (none.getD (A.length:Int)≤(A.length:Int)),.g ([]:LL) (List.take (A.length-1) (List.drop 1 A)) 40,.h (List.take (A.length-1) (List.drop 1 A))])):
 Rt 335 [.agg (gr F f g),.agg (wk N P Q R S U V M)] [.agg (wk (C++[(ri a b c d e)]) E ([]++List.take (A.length-1) (List.drop 1 A)) G H J K L),cB true]:=
 h.of
theorem spec_WorkOn_p0(h:Oo (y0k N P Q R S U V C E F G H J K L M A a b q [.n q true])):
 Rt 80 [.agg (gr A a b),.agg (wk N P Q R S U V C)] [.agg (wk E F G H J K L M),cB false]:=
 h.of
theorem spec_WorkOn_p1(h:Oo (y0l N P Q R S U V M C E F G H J K L A a b q r [.n r true])):
 Rt 80 [.agg (gr A a b),.agg (wk N P Q R S U V M)] [.agg (wk C E F G H J K L),cB false]:=
 h.of
theorem spec_WorkOn_p2(h:Oo (y0l N P Q R S U V M E A F G H J K L C a b q r [.n r false,.b (decide ((A.length:Int)>0)) true])):
 Rt 80 [.agg (gr C a b),.agg (wk N P Q R S U V M)] [.agg (wk E A F G H J K L),cB false]:=
 h.of
theorem spec_WorkOn_p3(h:Oo (y0m N P Q R S U V M A C F G H J K L E a b q r [.b ((A.length:Int)==0) true])):
 Rt 80 [.agg (gr E a b),.agg (wk N P Q R S U V M)] [.agg (wk A C F G H J K L),cB false]:=
 h.of
theorem spec_WorkOn_p4(C:LL)(a b:Int)(Q R S U V W X M A F G H J K E L:LL)(q r:Bool)(d c e f g:Int)(N P:LL)(t s:Bool)(d30:D)(h:Oo [.r 208 [.agg (wk Q R S U V W X M)] [.agg (wk A F G H J K E L)],.r 121 [.agg (gr C a b)] [cB q],.n q false,.r 175 [.agg (gr C a b),.agg (wk A F G H J K E L)] [cB r],.n r false,.b (decide ((F.length:Int)>0)) false,.b ((A.length:Int)==0) false,.p ((0:Int)≤0),.p (0<(A.length:Int)),.e A 0 (ri d c e f g),.r 209 [.agg (gr C a b),cS 4 H,.agg (ri d c e f g)] [cS 4 N,cS 5 P,cB t],.p ((0:Int)≤(some (1:Int)).getD 0),.p ((some (1:Int)).getD 0≤none.getD (A.length:Int)),.p (none.getD (A.length:Int)≤(A.length:Int)),.g ([]:LL) (List.take (A.length-1) (List.drop 1 A)) 40,.h (List.take (A.length-1) (List.drop 1 A)),.r 210 [.agg (gr C a b),.agg (ri d c e f g)] [cB s],.b s true,.x E c [d30]]):
 Rt 80 [.agg (gr C a b),.agg (wk Q R S U V W X M)] [.agg (wk ([]++List.take (A.length-1) (List.drop 1 A)) P G N J K (E.set c.toNat [B true]) L),cB true]:=
 h.of
theorem spec_WorkOn_p5(h:Oo (y0m Q R S U V W X M A E F G H J K L C a b q r [.b ((A.length:Int)==0) false,.p ((0:Int)≤0),.p (0<(A.length:Int)),.e A 0 (ri c d e f g),.r 209 [.agg (gr C a b),cS 4 G,.agg (ri c d e f g)] [cS 4 N,cS 5 P,cB t],.p ((0:Int)≤(some (1:Int)).getD 0),.p ((some (1:Int)).getD 0≤none.getD (A.length:Int)),.p (none.getD (A.length:Int)≤(A.length:Int)),.g ([]:LL) (List.take (A.length-1) (List.drop 1 A)) 40,.h (List.take (A.length-1) (List.drop 1 A)),.r 210 [.agg (gr C a b),.agg (ri c d e f g)] [cB s],.b s false])):
 Rt 80 [.agg (gr C a b),.agg (wk Q R S U V W X M)] [.agg (wk ([]++List.take (A.length-1) (List.drop 1 A)) P F N H J K L),cB true]:=
 h.of
