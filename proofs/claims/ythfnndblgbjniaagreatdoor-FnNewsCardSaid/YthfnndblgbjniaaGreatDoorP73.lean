import Derived.Test.YthfnndblgbjniaaGreatDoorC0
import Derived.Test.YthfnndblgbjniaaGreatDoorGH
import Derived.Test.YthfnndblgbjniaaGreatDoorS1
import Derived.Shelf.Strconv.Itoa3
import Derived.Lib.AppendIntMem
import Derived.Lib.ItoaLen
set_option linter.unusedVariables false
set_option linter.unusedSimpArgs false
namespace Go.Proofs.YthfnndblgbjniaaGreatDoor
open Go.Sx Go.RowKit Go.Proofs.Tryz
def fo(l:List UInt8):ByteArray:=⟨l.toArray⟩
theorem ahR(a b:List UInt8):fo a++fo b=fo (a++b):=by
 apply ByteArray.ext;simp[fo,ByteArray.data_append]
theorem SS(a:List UInt8):(fo a).size=a.length:=by simp[fo,ByteArray.size]
theorem pa{P:Program}{t:TypeId}{x y:Operand}(a b:List UInt8)(h:a.length+b.length<=9223372036854775807):gF P .add t x y (.string (fo a)) (.string (fo b)) (.string (fo (a++b))):=by
 intro w;rw[<-ahR];simp[eqGuard,binOp,Op.stringOp];rw[SS,SS];omega
theorem ahS{w : World}(h : me w) : Lib.TabIs prog w "internal/strconv.uint64pow10" .u64 Lib.pow10Tab := by
 obtain⟨ty,cF,e⟩:=h _ (jn ..);unfold Lib.TabIs World.var?;rw [show prog.globalNamed "internal/strconv.uint64pow10" = some 1 from by kernel_rfl];simp only[l8];rw[show w.heap[1]?=_ from e];rfl
theorem ahT(n:Int)(h:aK .i64 n):ax 90 [.one (I n)] [.one (.v (.string (fo (Lib.itoa n))))]:=by
 intro w vs oF br;obtain⟨v,U,aa⟩:=br.2 0 _ rfl;have e:v=.int .i64 n:=bS.AR aa;subst e;have nE:vs=#[.int .i64 n]:=by
  apply Array.ext
  ·simpa using br.1
  intro i hi _;have kD:i<1:=by have:=br.1;simp at this;omega
  match i,kD with
  | 0,_=>simpa[jI hi]using U
 subst nE;refine (Any.strconv_Itoa (Tryz.itoa) n h.1 h.2 w (ahS oF)).mono ?_;rintro e aP ⟨rfl,k,os,rfl⟩;refine⟨_,rfl,⟨Lib.below_grow _ _ (ht _) _ _,?_⟩,fun _=>.bz,fun _ _=>rfl,fun b aw=>absurd rfl aw,?_⟩
 ·intro _;show w.drawn<=w.drawn+k;omega
 exact bS.v _ _ rfl
theorem SU(n:Int)(h:aK .i64 n):ax 53 [.one (I n)] [.one (.v (.string (fo (Lib.itoa n))))]:=
 ahP _ _ ⟨ahT n h,ad⟩
theorem ahU{d:Nat}(h:d<10):aK .u8 (48+(d:Int)):=by
 have:d=0\/d=1\/d=2\/d=3\/d=4\/d=5\/d=6\/d=7\/d=8\/d=9:=by omega
 rcases this with rfl | rfl | rfl | rfl | rfl | rfl | rfl | rfl | rfl | rfl<;>rfl
theorem ahV(d:Nat)(h:d<10):ax 94 [.one (I d)] [.one (.v (.int .u8 (48+d)))]:=
 ahQ ⟨dV (by omega),⟨by omega,by omega⟩,ahU h,ad⟩
def tC(u:Nat):List UInt8:=if u=0 then [] else Lib.decDigits u
theorem ahW{u:Nat}(h:u≠0):tC u=tC (u / 10)++[UInt8.ofNat (48+u % 10)]:=by
 unfold tC;rw[bE h];by_cases dw:u<10
 ·rw[bU (by omega),Lib.decDigits,dif_pos dw,Ap dw];rfl
 rw[bE (by omega),Lib.decDigits,dif_neg dw]
theorem ahX(n:Int):(0<=n.tmod 10->n.tmod 10=((n.natAbs % 10:Nat):Int))/\(n.tmod 10<0->0-n.tmod 10=((n.natAbs % 10:Nat):Int))/\(n.tdiv 10).natAbs=n.natAbs / 10:=by
 obtain⟨u,rfl | rfl⟩:=Int.eq_nat_or_neg n
 ·have e1:(u:Int).tmod 10=((u % 10:Nat):Int):=by
   rw[Int.tmod_eq_emod_of_nonneg (by omega)];omega
  have e2:(u:Int).tdiv 10=((u / 10:Nat):Int):=by
   rw[Int.tdiv_eq_ediv_of_nonneg (by omega)];omega
  rw[e1,e2,Int.natAbs_natCast];exact⟨fun _=>rfl,fun h=>by omega,Int.natAbs_natCast _⟩
 have e1:(-(u:Int)).tmod 10=-((u % 10:Nat):Int):=by
  rw[Int.neg_tmod,Int.tmod_eq_emod_of_nonneg (by omega)];omega
 have e2:(-(u:Int)).tdiv 10=-((u / 10:Nat):Int):=by
  rw[Int.neg_tdiv,Int.tdiv_eq_ediv_of_nonneg (by omega)];omega
 rw[e1,e2,Int.natAbs_neg,Int.natAbs_natCast];exact⟨fun h=>by omega,fun h=>by omega,by rw[Int.natAbs_neg];exact Int.natAbs_natCast _⟩
theorem SV(tX:Int):∀(k:Nat) (n:Int) (l:List UInt8),n.natAbs<10 ^ k->aK .i64 n->l.length+k<=100->
  c0 prog (aq f55 0) (sB tX n (fo l)) (.exit 0) (Dd tX (fo (tC n.natAbs++l)))
 | 0,n,l,bc,a7,au=>by
  have:n=0:=by omega
  subst this;exact .last (cI 0) (SR ⟨rfl,ad⟩)
 | k+1,n,l,bc,a7,au=>by
  by_cases bV:n=0
  ·subst bV;exact .last (cI 0) (SR ⟨rfl,ad⟩)
  obtain⟨e3,a2,a3⟩:=ahX n;have hu:n.natAbs≠0:=by omega
  have aF:=Nat.mod_lt n.natAbs (show 10>0 by omega);have aM:aK .i64 (n.tdiv 10):=by
   have U:(n.tdiv 10).natAbs<=n.natAbs:=by rw[a3];exact Nat.div_le_self ..
   obtain⟨aa,aA⟩:=a7;have aO:(n.tdiv 10).natAbs<=922337203685477580:=by
    rw[a3];change -9223372036854775808<=n at aa;change n<=9223372036854775807 at aA;omega
   exact⟨by change -9223372036854775808<=n.tdiv 10;omega,by change n.tdiv 10<=9223372036854775807;omega⟩
  have c1:(n != 0)=true:=by simpa using bV
  have d':=SV tX k (n.tdiv 10) ([UInt8.ofNat (48+n.natAbs % 10)]++l) (by rw[a3];rw[Nat.pow_succ]at bc;omega) aM (by simp;omega);have e:tC (n.tdiv 10).natAbs++([UInt8.ofNat (48+n.natAbs % 10)]++l)=tC n.natAbs++l:=by rw[a3,ahW hu,rR]
  rw[e]at d';have AS:=ahV (n.natAbs % 10) aF;have nums:(rf [[D.v (.int .u8 (48+((n.natAbs % 10:Nat):Int)))]]).map strOfNums=some (fo [UInt8.ofNat (48+n.natAbs % 10)]):=by
   have:(48+((n.natAbs % 10:Nat):Int)).toNat=48+n.natAbs % 10:=by omega
   show some (strOfNums [48+((n.natAbs % 10:Nat):Int)])=_;unfold strOfNums fo;rw[lu,List.map_nil,this]
  have cat:=pa (P:=prog) (t:=9) (x:=.tmp 21) (y:=.tmp 22) [UInt8.ofNat (48+n.natAbs % 10)] l (by simp;omega);by_cases aj:n.tmod 10<0
  ·rw[<-a2 aj]at AS nums;exact .more (ahL ⟨c1,by omega,dV aj,⟨by change -9223372036854775808<=0-n.tmod 10;omega,by change 0-n.tmod 10<=9223372036854775807;rw[a2 aj];omega⟩,AS,nums,cat,by omega,aM,ad⟩) d'
  rw[<-e3 (by omega)]at AS nums;exact .more (ahM ⟨c1,by omega,eC aj,AS,nums,cat,by omega,aM,ad⟩) d'
theorem ahY(n:Int)(h:aK .i64 n):ax 55 [.one (I n)] [.one (.v (.string (fo (Lib.itoa n))))]:=by
 by_cases bV:n=0
 ·subst bV;have e:Lib.itoa 0=[48]:=by
   unfold Lib.itoa;rw[bE (by omega)];exact Lib.decDigits_one (i:=0) (by omega)
  rw[e];exact ahK ⟨(show ((0:Int)==0)=true from rfl),ad⟩
 have hu:n.natAbs≠0:=by omega
 have l:=SV n 20 n [] (by
  obtain⟨aa,aA⟩:=h;change -9223372036854775808<=n at aa;change n<=9223372036854775807 at aA;omega) h (by simp)
 rw[kt,tC,bE hu]at l;have bk:(n==0)=false:=by simpa using bV
 by_cases aj:n<0
 ·have e:Lib.itoa n=[45]++Lib.decDigits n.natAbs:=by
   unfold Lib.itoa;rw[bU aj];rfl
  have hlen:(Lib.itoa n).length<=21:=Lib.itoa_length_le n h.1 h.2;rw[e]at hlen ⊢;exact ahN ⟨bk,l,dV aj,pa [45] _ (by simp at hlen ⊢;omega),ad⟩
 have e:Lib.itoa n=Lib.decDigits n.natAbs:=by
  unfold Lib.itoa;rw[bE aj]
  congr 1
  omega
 rw[e];exact ahO ⟨bk,l,eC aj,ad⟩
def qD(l:List UInt8):List D:=[.v (.string (fo l))]
