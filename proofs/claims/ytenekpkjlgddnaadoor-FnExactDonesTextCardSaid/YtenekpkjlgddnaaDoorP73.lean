/- Numbers as texts: strconv.Itoa of the program's, the loop of the reference's; PickText. -/
import Derived.Test.YtenekpkjlgddnaaDoorR33
import Derived.Test.YtenekpkjlgddnaaDoorR22
import Derived.Test.YtenekpkjlgddnaaDoorC0
import Derived.Test.YtenekpkjlgddnaaDoorGH
import Derived.Test.YtenekpkjlgddnaaDoorGA
import Derived.Test.YtenekpkjlgddnaaDoorGN
import Derived.Test.YtenekpkjlgddnaaDoorS1
import Derived.Shelf.Strconv.Itoa3
import Derived.Lib.AppendIntMem
import Derived.Lib.ItoaLen
set_option linter.unusedVariables false
set_option linter.unusedSimpArgs false
namespace Go.Proofs.YtenekpkjlgddnaaDoor
open Go.Sx Go.RowKit Go.Proofs.Tryd
def txt(l:List UInt8):ByteArray:=⟨l.toArray⟩
theorem qlj(a b:List UInt8):txt a++txt b=txt (a++b):=by
 apply ByteArray.ext
 simp[txt,ByteArray.data_append]
theorem qhx(a:List UInt8):(txt a).size=a.length:=by simp[txt,ByteArray.size]
theorem qa7{P:Program}{t:TypeId}{x y:Operand}(a b:List UInt8)(h:a.length+b.length≤9223372036854775807):qau P .add t x y (.string (txt a)) (.string (txt b)) (.string (txt (a++b))):=by
 intro w
 rw[←qlj]
 simp[eqGuard,binOp,Op.stringOp]
 rw[qhx,qhx]
 omega
theorem qlk{w : World}(h : Tabs w) : Lib.TabIs prog w "internal/strconv.uint64pow10" .u64 Lib.pow10Tab := by
 obtain⟨ty,fr,e⟩:=h _ (zm ..)
 unfold Lib.TabIs World.var?
 rw [show prog.globalNamed "internal/strconv.uint64pow10" = some 1 from by kernel_rfl]
 simp only[zan]
 rw[show w.heap[1]?=_ from e]
 rfl
theorem qll(n:Int)(h:inInt .i64 n):Rt 34 [.one (I n)] [.one (.v (.string (txt (Lib.itoa n))))]:=by
 intro w vs htab hv
 obtain⟨v,h1,h2⟩:=hv.2 0 _ rfl
 have e:v=.int .i64 n:=Rep.eq_v h2
 subst e
 have hvs:vs=#[.int .i64 n]:=by
  apply Array.ext
  ·simpa using hv.1
  ·intro i hi _
   have hi':i<1:=by have:=hv.1;simp at this;omega
   match i,hi' with
   | 0,_=>simpa[zD hi]using h1
 subst hvs
 refine (Any.strconv_Itoa (Tryd.itoa) n h.1 h.2 w (qlk htab)).mono ?_
 rintro e w' ⟨rfl,k,os,rfl⟩
 refine⟨_,rfl,⟨Lib.below_grow _ _ (zO _) _ _,?_⟩,fun _=>.imm,fun _ _=>rfl,fun b hb=>absurd rfl hb,?_⟩
 ·intro _
  show w.drawn≤w.drawn+k
  omega
 ·exact Rep.v _ _ rfl
theorem qhy(n:Int)(h:inInt .i64 n):Rt 16 [.one (I n)] [.one (.v (.string (txt (Lib.itoa n))))]:=
 qlh _ _ ⟨qll n h,trivial⟩
theorem qlm{d:Nat}(h:d<10):inInt .u8 (48+(d:Int)):=by
 have:d=0∨d=1∨d=2∨d=3∨d=4∨d=5∨d=6∨d=7∨d=8∨d=9:=by omega
 rcases this with rfl | rfl | rfl | rfl | rfl | rfl | rfl | rfl | rfl | rfl<;>rfl
theorem qln(d:Nat)(h:d<10):Rt 33 [.one (I d)] [.one (.v (.int .u8 (48+d)))]:=
 qli ⟨dT (by omega),⟨by omega,by omega⟩,qlm h,trivial⟩
def figs(u:Nat):List UInt8:=if u=0 then [] else Lib.decDigits u
theorem qlo{u:Nat}(h:u≠0):figs u=figs (u / 10)++[UInt8.ofNat (48+u % 10)]:=by
 unfold figs
 rw[zo h]
 by_cases h10:u<10
 ·rw[zp (by omega),Lib.decDigits,dif_pos h10,zcu h10]
  rfl
 ·rw[zo (by omega),Lib.decDigits,dif_neg h10]
theorem qlp(n:Int):(0≤n.tmod 10→n.tmod 10=((n.natAbs % 10:Nat):Int))∧(n.tmod 10<0→0-n.tmod 10=((n.natAbs % 10:Nat):Int))∧(n.tdiv 10).natAbs=n.natAbs / 10:=by
 obtain⟨u,rfl | rfl⟩:=Int.eq_nat_or_neg n
 ·have e1:(u:Int).tmod 10=((u % 10:Nat):Int):=by
   rw[Int.tmod_eq_emod_of_nonneg (by omega)]
   omega
  have e2:(u:Int).tdiv 10=((u / 10:Nat):Int):=by
   rw[Int.tdiv_eq_ediv_of_nonneg (by omega)]
   omega
  rw[e1,e2,Int.natAbs_natCast]
  exact⟨fun _=>rfl,fun h=>by omega,Int.natAbs_natCast _⟩
 ·have e1:(-(u:Int)).tmod 10=-((u % 10:Nat):Int):=by
   rw[Int.neg_tmod,Int.tmod_eq_emod_of_nonneg (by omega)]
   omega
  have e2:(-(u:Int)).tdiv 10=-((u / 10:Nat):Int):=by
   rw[Int.neg_tdiv,Int.tdiv_eq_ediv_of_nonneg (by omega)]
   omega
  rw[e1,e2,Int.natAbs_neg,Int.natAbs_natCast]
  exact⟨fun h=>by omega,fun h=>by omega,by rw[Int.natAbs_neg];exact Int.natAbs_natCast _⟩
theorem qhz(n0:Int):∀(k:Nat) (n:Int) (l:List UInt8),n.natAbs<10 ^ k→inInt .i64 n→l.length+k≤100→
  qap prog (qac f14 0) (qbD n0 n (txt l)) (.exit 0) (qdL n0 (txt (figs n.natAbs++l)))
 | 0,n,l,hk,hn,hl=>by
  have:n=0:=by omega
  subst this
  exact .last (qci 0) (qhw _ _ _ ⟨rfl,trivial⟩)
 | k+1,n,l,hk,hn,hl=>by
  by_cases h0:n=0
  ·subst h0
   exact .last (qci 0) (qhw _ _ _ ⟨rfl,trivial⟩)
  ·obtain⟨a1,a2,a3⟩:=qlp n
   have hu:n.natAbs≠0:=by omega
   have hd:=Nat.mod_lt n.natAbs (show 10>0 by omega)
   have hq:inInt .i64 (n.tdiv 10):=by
    have h1:(n.tdiv 10).natAbs≤n.natAbs:=by rw[a3];exact Nat.div_le_self ..
    obtain⟨h2,h3⟩:=hn
    have h4:(n.tdiv 10).natAbs≤922337203685477580:=by
     rw[a3]
     change -9223372036854775808≤n at h2
     change n≤9223372036854775807 at h3
     omega
    exact⟨by change -9223372036854775808≤n.tdiv 10;omega,by change n.tdiv 10≤9223372036854775807;omega⟩
   have hne:(n != 0)=true:=by simpa using h0
   have ih:=qhz n0 k (n.tdiv 10) ([UInt8.ofNat (48+n.natAbs % 10)]++l) (by rw[a3];rw[Nat.pow_succ]at hk;omega) hq (by simp;omega)
   have e:figs (n.tdiv 10).natAbs++([UInt8.ofNat (48+n.natAbs % 10)]++l)=figs n.natAbs++l:=by rw[a3,qlo hu,zba]
   rw[e]at ih
   have fig:=qln (n.natAbs % 10) hd
   have nums:(qbi [[D.v (.int .u8 (48+((n.natAbs % 10:Nat):Int)))]]).map strOfNums=some (txt [UInt8.ofNat (48+n.natAbs % 10)]):=by
    have:(48+((n.natAbs % 10:Nat):Int)).toNat=48+n.natAbs % 10:=by omega
    show some (strOfNums [48+((n.natAbs % 10:Nat):Int)])=_
    unfold strOfNums txt
    rw[zav,List.map_nil,this]
   have cat:=qa7 (P:=prog) (t:=9) (x:=.tmp 21) (y:=.tmp 22) [UInt8.ofNat (48+n.natAbs % 10)] l (by simp;omega)
   by_cases hs:n.tmod 10<0
   ·rw[←a2 hs]at fig nums
    exact .more (qld _ _ _ _ _ _ ⟨hne,by omega,dT hs,⟨by change -9223372036854775808≤0-n.tmod 10;omega,by change 0-n.tmod 10≤9223372036854775807;rw[a2 hs];omega⟩,fig,nums,cat,by omega,hq,trivial⟩) ih
   ·rw[←a1 (by omega)]at fig nums
    exact .more (qle _ _ _ _ _ _ ⟨hne,by omega,dF hs,fig,nums,cat,by omega,hq,trivial⟩) ih
theorem qlq(n:Int)(h:inInt .i64 n):Rt 14 [.one (I n)] [.one (.v (.string (txt (Lib.itoa n))))]:=by
 by_cases h0:n=0
 ·subst h0
  have e:Lib.itoa 0=[48]:=by
   unfold Lib.itoa
   rw[zo (by omega)]
   exact Lib.decDigits_one (i:=0) (by omega)
  rw[e]
  exact qlc ⟨(show ((0:Int)==0)=true from rfl),trivial⟩
 ·have hu:n.natAbs≠0:=by omega
  have l:=qhz n 20 n [] (by
   obtain⟨h2,h3⟩:=h
   change -9223372036854775808≤n at h2
   change n≤9223372036854775807 at h3
   omega) h (by simp)
  rw[zaa,figs,zo hu]at l
  have hz:(n==0)=false:=by simpa using h0
  by_cases hs:n<0
  ·have e:Lib.itoa n=[45]++Lib.decDigits n.natAbs:=by
    unfold Lib.itoa
    rw[zp hs]
    rfl
   have hlen:(Lib.itoa n).length≤21:=Lib.itoa_length_le n h.1 h.2
   rw[e]at hlen ⊢
   exact qlf _ _ _ ⟨hz,l,dT hs,qa7 [45] _ (by simp at hlen ⊢;omega),trivial⟩
  ·have e:Lib.itoa n=Lib.decDigits n.natAbs:=by
    unfold Lib.itoa
    rw[zo hs]
    congr 1
    omega
   rw[e]
   exact qlg _ _ ⟨hz,l,dF hs,trivial⟩
def eS(l:List UInt8):List D:=[.v (.string (txt l))]
end Go.Proofs.YtenekpkjlgddnaaDoor
