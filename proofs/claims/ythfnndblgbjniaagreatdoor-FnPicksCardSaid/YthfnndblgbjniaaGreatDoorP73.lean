import Derived.Test.YthfnndblgbjniaaGreatDoorC0
import Derived.Test.YthfnndblgbjniaaGreatDoorGH
import Derived.Test.YthfnndblgbjniaaGreatDoorS1
import Derived.Shelf.Strconv.Itoa3
import Derived.Lib.AppendIntMem
import Derived.Lib.ItoaLen
set_option linter.unusedVariables false
set_option linter.unusedSimpArgs false
namespace Go.Proofs.YthfnndblgbjniaaGreatDoor
open Go.Sx Go.RowKit Go.Proofs.Tryz
def jY(l:List UInt8):ByteArray:=⟨l.toArray⟩
theorem aoB(a b:List UInt8):jY a++jY b=jY (a++b):=by
 apply ByteArray.ext;simp[jY,ByteArray.data_append]
theorem U4(a:List UInt8):(jY a).size=a.length:=by simp[jY,ByteArray.size]
theorem rI{P:Program}{t:TypeId}{x y:Operand}(a b:List UInt8)(h:a.length+b.length<=9223372036854775807):fz P .add t x y (.string (jY a)) (.string (jY b)) (.string (jY (a++b))):=by
 intro w;rw[<-aoB];simp[eqGuard,binOp,Op.stringOp];rw[U4,U4];omega
theorem aoC{w : World}(h : nU w) : Lib.TabIs prog w "internal/strconv.uint64pow10" .u64 Lib.pow10Tab := by
 obtain⟨ty,cT,e⟩:=h _ (kG ..);unfold Lib.TabIs World.var?;rw [show prog.globalNamed "internal/strconv.uint64pow10" = some 1 from by kernel_rfl];simp only[nL];rw[show w.heap[1]?=_ from e];rfl
theorem aoD(n:Int)(h:aK .i64 n):al 90 [.one (I n)] [.one (.v (.string (jY (Lib.itoa n))))]:=by
 intro w vs p' bx;obtain⟨v,U,aa⟩:=bx.2 0 _ rfl;have e:v=.int .i64 n:=b1.CE aa;subst e;have pb:vs=#[.int .i64 n]:=by
  apply Array.ext
  ·simpa using bx.1
  intro i hi _;have nh:i<1:=by have:=bx.1;simp at this;omega
  match i,nh with
  | 0,_=>simpa[lI hi]using U
 subst pb;refine (Any.strconv_Itoa (Tryz.itoa) n h.1 h.2 w (aoC p')).mono ?_;rintro e aN ⟨rfl,k,os,rfl⟩;refine⟨_,rfl,⟨Lib.below_grow _ _ (gw _) _ _,?_⟩,fun _=>.bG,fun _ _=>rfl,fun b ay=>absurd rfl ay,?_⟩
 ·intro _;show w.drawn<=w.drawn+k;omega
 exact b1.v _ _ rfl
theorem Bj(n:Int)(h:aK .i64 n):al 53 [.one (I n)] [.one (.v (.string (jY (Lib.itoa n))))]:=
 aoz _ _ ⟨aoD n h,ad⟩
theorem aoE{d:Nat}(h:d<10):aK .u8 (48+(d:Int)):=by
 have:d=0\/d=1\/d=2\/d=3\/d=4\/d=5\/d=6\/d=7\/d=8\/d=9:=by omega
 rcases this with rfl | rfl | rfl | rfl | rfl | rfl | rfl | rfl | rfl | rfl<;>rfl
theorem aoF(d:Nat)(h:d<10):al 94 [.one (I d)] [.one (.v (.int .u8 (48+d)))]:=
 aoA ⟨dm (by omega),⟨by omega,by omega⟩,aoE h,ad⟩
def u7(u:Nat):List UInt8:=if u=0 then [] else Lib.decDigits u
theorem aoG{u:Nat}(h:u≠0):u7 u=u7 (u / 10)++[UInt8.ofNat (48+u % 10)]:=by
 unfold u7;rw[bH h];by_cases dH:u<10
 ·rw[bL (by omega),Lib.decDigits,dif_pos dH,Ca dH];rfl
 rw[bH (by omega),Lib.decDigits,dif_neg dH]
theorem aoH(n:Int):(0<=n.tmod 10->n.tmod 10=((n.natAbs % 10:Nat):Int))/\(n.tmod 10<0->0-n.tmod 10=((n.natAbs % 10:Nat):Int))/\(n.tdiv 10).natAbs=n.natAbs / 10:=by
 obtain⟨u,rfl | rfl⟩:=Int.eq_nat_or_neg n
 ·have e1:(u:Int).tmod 10=((u % 10:Nat):Int):=by
   rw[Int.tmod_eq_emod_of_nonneg (by omega)];omega
  have e2:(u:Int).tdiv 10=((u / 10:Nat):Int):=by
   rw[Int.tdiv_eq_ediv_of_nonneg (by omega)];omega
  rw[e1,e2,Int.natAbs_natCast];exact⟨fun _=>rfl,fun h=>by omega,Int.natAbs_natCast _⟩
 have e1:(-(u:Int)).tmod 10=-((u % 10:Nat):Int):=by
  rw[Int.neg_tmod,Int.tmod_eq_emod_of_nonneg (by omega)];omega
 have e2:(-(u:Int)).tdiv 10=-((u / 10:Nat):Int):=by
  rw[Int.neg_tdiv,Int.tdiv_eq_ediv_of_nonneg (by omega)];omega
 rw[e1,e2,Int.natAbs_neg,Int.natAbs_natCast];exact⟨fun h=>by omega,fun h=>by omega,by rw[Int.natAbs_neg];exact Int.natAbs_natCast _⟩
theorem U5(kv:Int):∀(k:Nat) (n:Int) (l:List UInt8),n.natAbs<10 ^ k->aK .i64 n->l.length+k<=100->
  c6 prog (ap f55 0) (uL kv n (jY l)) (.exit 0) (Fh kv (jY (u7 n.natAbs++l)))
 | 0,n,l,ba,a',ar=>by
  have:n=0:=by omega
  subst this;exact .last (cy 0) (U3 ⟨rfl,ad⟩)
 | k+1,n,l,ba,a',ar=>by
  by_cases b4:n=0
  ·subst b4;exact .last (cy 0) (U3 ⟨rfl,ad⟩)
  obtain⟨ef,a2,a3⟩:=aoH n;have hu:n.natAbs≠0:=by omega
  have aI:=Nat.mod_lt n.natAbs (show 10>0 by omega);have aL:aK .i64 (n.tdiv 10):=by
   have U:(n.tdiv 10).natAbs<=n.natAbs:=by rw[a3];exact Nat.div_le_self ..
   obtain⟨aa,aB⟩:=a';have aJ:(n.tdiv 10).natAbs<=922337203685477580:=by
    rw[a3];change -9223372036854775808<=n at aa;change n<=9223372036854775807 at aB;omega
   exact⟨by change -9223372036854775808<=n.tdiv 10;omega,by change n.tdiv 10<=9223372036854775807;omega⟩
  have db:(n != 0)=true:=by simpa using b4
  have eO:=U5 kv k (n.tdiv 10) ([UInt8.ofNat (48+n.natAbs % 10)]++l) (by rw[a3];rw[Nat.pow_succ]at ba;omega) aL (by simp;omega);have e:u7 (n.tdiv 10).natAbs++([UInt8.ofNat (48+n.natAbs % 10)]++l)=u7 n.natAbs++l:=by rw[a3,aoG hu,mN]
  rw[e]at eO;have CF:=aoF (n.natAbs % 10) aI;have nums:(sR [[D.v (.int .u8 (48+((n.natAbs % 10:Nat):Int)))]]).map strOfNums=some (jY [UInt8.ofNat (48+n.natAbs % 10)]):=by
   have:(48+((n.natAbs % 10:Nat):Int)).toNat=48+n.natAbs % 10:=by omega
   show some (strOfNums [48+((n.natAbs % 10:Nat):Int)])=_;unfold strOfNums jY;rw[mM,List.map_nil,this]
  have cat:=rI (P:=prog) (t:=9) (x:=.tmp 21) (y:=.tmp 22) [UInt8.ofNat (48+n.natAbs % 10)] l (by simp;omega);by_cases ak:n.tmod 10<0
  ·rw[<-a2 ak]at CF nums;exact .more (anF ⟨db,by omega,dm ak,⟨by change -9223372036854775808<=0-n.tmod 10;omega,by change 0-n.tmod 10<=9223372036854775807;rw[a2 ak];omega⟩,CF,nums,cat,by omega,aL,ad⟩) eO
  rw[<-ef (by omega)]at CF nums;exact .more (anG ⟨db,by omega,dX ak,CF,nums,cat,by omega,aL,ad⟩) eO
theorem Bk(n:Int)(h:aK .i64 n):al 55 [.one (I n)] [.one (.v (.string (jY (Lib.itoa n))))]:=by
 by_cases b4:n=0
 ·subst b4;have e:Lib.itoa 0=[48]:=by
   unfold Lib.itoa;rw[bH (by omega)];exact Lib.decDigits_one (i:=0) (by omega)
  rw[e];exact anE ⟨(show ((0:Int)==0)=true from rfl),ad⟩
 have hu:n.natAbs≠0:=by omega
 have l:=U5 n 20 n [] (by
  obtain⟨aa,aB⟩:=h;change -9223372036854775808<=n at aa;change n<=9223372036854775807 at aB;omega) h (by simp)
 rw[iz,u7,bH hu]at l;have bp:(n==0)=false:=by simpa using b4
 by_cases ak:n<0
 ·have e:Lib.itoa n=[45]++Lib.decDigits n.natAbs:=by
   unfold Lib.itoa;rw[bL ak];rfl
  have hlen:(Lib.itoa n).length<=21:=Lib.itoa_length_le n h.1 h.2;rw[e]at hlen ⊢;exact anH ⟨bp,l,dm ak,rI [45] _ (by simp at hlen ⊢;omega),ad⟩
 have e:Lib.itoa n=Lib.decDigits n.natAbs:=by
  unfold Lib.itoa;rw[bH ak]
  congr 1
  omega
 rw[e];exact anI ⟨bp,l,dX ak,ad⟩
def words:List (List UInt8):=[[119,111,114,107],[105,110,112,117,116],[109,111,118,101],[116,97,107,101],[99,114,101,100,105,116],[116,111,107,101,110],[104,101,97,114]]
def word(k:Int):List UInt8:=words.getD (k-1).toNat []
def xC(p:cf):List UInt8:=
 if 1<=p.kind/\p.kind<=7 then
  if p.kind=4\/p.kind=5 then word p.kind++[32]++Lib.itoa p.a++([32]++Lib.itoa p.b) else word p.kind++[32]++Lib.itoa p.a
 else [63]
def Cy(l:List UInt8):List D:=[.v (.string (jY l))]
theorem U6{k:Int}(h:1<=k/\k<=7):(words.map Cy)[(k-1).toNat]?=some (Cy (word k))/\(([]::words).map Cy)[k.toNat]?=some (Cy (word k))/\(word k).length<=6:=by
 have:k=1\/k=2\/k=3\/k=4\/k=5\/k=6\/k=7:=by omega
 rcases this with rfl | rfl | rfl | rfl | rfl | rfl | rfl<;>exact⟨rfl,rfl,by decide⟩
theorem U7(p:cf)(hw:p.wf):al 25 [.agg p.e] [.one (.v (.string (jY (xC p))))]:=by
 obtain⟨k,a,b⟩:=p;obtain⟨ba,aj,ay⟩:=hw;have c:=kA k 1 7;have ku:(Lib.itoa a).length<=21:=Lib.itoa_length_le a aj.1 aj.2;have rh:(Lib.itoa b).length<=21:=Lib.itoa_length_le b ay.1 ay.2;unfold xC;dsimp only;change al 25 [.agg [I k,I a,I b]] _;by_cases h:1<=k/\k<=7
 ·rw[bL h];rw[show av k 1 7=true from kF h]at c;obtain⟨w1,fO,te⟩:=U6 h;have s1:=rI (P:=prog) (t:=9) (x:=.tmp 15) (y:=.const (.string ⟨#[32]⟩)) (word k) [32] (by simp<;>omega);have s2:=rI (P:=prog) (t:=9) (x:=.tmp 16) (y:=.tmp 19) (word k++[32]) (Lib.itoa a) (by simp<;>omega);by_cases aJ:k=4\/k=5
  ·rw[bL aJ];have rL:=rI (P:=prog) (t:=9) (x:=.const (.string ⟨#[32]⟩)) (y:=.tmp 32) [32] (Lib.itoa b) (by simp<;>omega);have gT:=rI (P:=prog) (t:=9) (x:=.tmp 29) (y:=.tmp 33) (word k++[32]++Lib.itoa a) ([32]++Lib.itoa b) (by simp<;>omega);rcases aJ with rfl | rfl
   ·exact an7 ⟨c,rfl,⟨by omega,by omega⟩,by omega,by simp,w1,s1,Bj a aj,s2,rfl,Bj b ay,rL,gT,ad⟩
   exact an8 ⟨c,rfl,⟨by omega,by omega⟩,by omega,by simp,w1,s1,Bj a aj,s2,rfl,rfl,Bj b ay,rL,gT,ad⟩
  ·rw[bH aJ];exact anz ⟨c,rfl,⟨by omega,by omega⟩,by omega,by simp<;>omega,w1,s1,Bj a aj,s2,by simp<;>omega,by simp<;>omega,ad⟩
 rw[bH h];rw[show av k 1 7=false from mg h]at c;exact an6 ⟨c,rfl,ad⟩
theorem aoI(p:cf)(hw:p.wf):al 26 [.agg p.e] [.one (.v (.string (jY (xC p))))]:=by
 obtain⟨k,a,b⟩:=p;obtain⟨ba,aj,ay⟩:=hw;have c:=h3 k 1 7;have ku:(Lib.itoa a).length<=21:=Lib.itoa_length_le a aj.1 aj.2;have rh:(Lib.itoa b).length<=21:=Lib.itoa_length_le b ay.1 ay.2;unfold xC;dsimp only;change al 26 [.agg [I k,I a,I b]] _;by_cases h:1<=k/\k<=7
 ·rw[bL h];rw[show av k 1 7=true from kF h]at c;obtain⟨w1,fO,te⟩:=U6 h;have s1:=rI (P:=prog) (t:=9) (x:=.tmp 12) (y:=.const (.string ⟨#[32]⟩)) (word k) [32] (by simp<;>omega);have s2:=rI (P:=prog) (t:=9) (x:=.tmp 13) (y:=.tmp 16) (word k++[32]) (Lib.itoa a) (by simp<;>omega);by_cases aJ:k=4\/k=5
  ·rw[bL aJ];have rL:=rI (P:=prog) (t:=9) (x:=.tmp 26) (y:=.const (.string ⟨#[32]⟩)) (word k++[32]++Lib.itoa a) [32] (by simp<;>omega);have gT:=rI (P:=prog) (t:=9) (x:=.tmp 27) (y:=.tmp 30) (word k++[32]++Lib.itoa a++[32]) (Lib.itoa b) (by simp<;>omega);rw[<-mN (word k++[32]++Lib.itoa a)];rcases aJ with rfl | rfl
   ·exact anB ⟨c,rfl,by omega,by simp,fO,s1,Bk a aj,s2,rfl,rL,Bk b ay,gT,ad⟩
   exact anC ⟨c,rfl,by omega,by simp,fO,s1,Bk a aj,s2,rfl,rfl,rL,Bk b ay,gT,ad⟩
  ·rw[bH aJ];exact anD ⟨c,rfl,by omega,by simp<;>omega,fO,s1,Bk a aj,s2,by simp<;>omega,by simp<;>omega,ad⟩
 rw[bH h];rw[show av k 1 7=false from mg h]at c;exact anA ⟨c,rfl,ad⟩
