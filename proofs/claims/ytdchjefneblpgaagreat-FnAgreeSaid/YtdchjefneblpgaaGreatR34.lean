import Derived.Test.YtdchjefneblpgaaGreatR22
import Derived.Test.YtdchjefneblpgaaGreatR33
set_option linter.unusedVariables false
set_option linter.unusedSimpArgs false
namespace Go.Sx
open Go.RowKit
inductive O where
 | p (x:Prop)
 | b (x y:Bool)
 | e (l:List (List D)) (i:Nat) (ds:List D)
 | r (f:Nat) (args rs:List cK)
 | l (EA:List (Nat×Nat×Nat)) (eW boxes:List Nat) (c:Code) (st:aG) (e:h') (br:aG)
 | a (x:b6)
 | i (l:List (List D)) (n:Int) (ds:List D)
 | x (l:List (List D)) (n:Int) (ds:List D)
 | g (l m:List (List D)) (k:Nat)
 | u (n:Int)
 | v (n:Int)
 | f (l:List (List D)) (n:Int) (b:Bool)
 | h (l:List (List D))
 | n (x y:Bool)
def fG(P:Program):List O->Prop
 | []=>True
 | .p x::r=>x/\fG P r
 | .b x y::r=>x=y/\fG P r
 | .e l i ds::r=>l[i]?=some ds/\fG P r
 | .r f x y::r=>ja P f x y/\fG P r
 | .l _ _ _ c st e br::r=>c6 P c st e br/\fG P r
 | .a _::r=>fG P r
 | .i l n ds::r=>decide (n<(l.length:Int))=true/\0<=n/\n<(l.length:Int)/\l[n.toNat]?=some ds/\fG P r
 | .x l n ds::r=>0<=n/\n<(l.length:Int)/\l[n.toNat]?=some ds/\fG P r
 | .g l m k::r=>(l.length+m.length)*k<=140737488355328/\l.length+m.length<=9223372036854775807/\fG P r
 | .u n::r=>aC .i64 (n+1)/\fG P r
 | .v n::r=>aC .i64 n/\fG P r
 | .f l n b::r=>decide (n<(l.length:Int))=b/\fG P r
 | .h l::r=>Flat l/\fG P r
 | .n x y::r=>(!x)=y/\fG P r
def ll(P:Program):List O->List Prop
 | []=>[]
 | .p x::r=>x::ll P r
 | .b x y::r=>(x=y)::ll P r
 | .e l i ds::r=>(l[i]?=some ds)::ll P r
 | .r f x y::r=>ja P f x y::ll P r
 | .l _ _ _ c st e br::r=>c6 P c st e br::ll P r
 | .a _::r=>ll P r
 | .i l n ds::r=>(decide (n<(l.length:Int))=true)::(0<=n)::(n<(l.length:Int))::(l[n.toNat]?=some ds)::ll P r
 | .x l n ds::r=>(0<=n)::(n<(l.length:Int))::(l[n.toNat]?=some ds)::ll P r
 | .g l m k::r=>((l.length+m.length)*k<=140737488355328)::(l.length+m.length<=9223372036854775807)::ll P r
 | .u n::r=>aC .i64 (n+1)::ll P r
 | .v n::r=>aC .i64 n::ll P r
 | .f l n b::r=>(decide (n<(l.length:Int))=b)::ll P r
 | .h l::r=>Flat l::ll P r
 | .n x y::r=>((!x)=y)::ll P r
def ly:List O->List b6
 | []=>[]
 | .p _::r=>ly r
 | .b _ y::r=>.pP y::ly r
 | .e _ _ ds::r=>.el ds::ly r
 | .r _ _ y::r=>.res y::ly r
 | .l n k b _ _ e br::r=>.loop n k b e br::ly r
 | .a x::r=>x::ly r
 | .i _ _ ds::r=>.pP true::.el ds::ly r
 | .x _ _ ds::r=>.el ds::ly r
 | .g _ _ _::r=>ly r
 | .u _::r=>ly r
 | .v _::r=>ly r
 | .f _ _ b::r=>.pP b::ly r
 | .h _::r=>ly r
 | .n _ y::r=>.pP y::ly r
variable{P:Program}
theorem fG.obs:∀{os:List O},fG P os->c8 (ll P os)
 | [],_=>trivial
 | .p _::_,h=>⟨h.1,fG.obs h.2⟩
 | .b _ _::_,h=>⟨h.1,fG.obs h.2⟩
 | .e _ _ _::_,h=>⟨h.1,fG.obs h.2⟩
 | .r _ _ _::_,h=>⟨h.1,fG.obs h.2⟩
 | .l _ _ _ _ _ _ _::_,h=>⟨h.1,fG.obs h.2⟩
 | .a _::r,h=>fG.obs (os:=r) h
 | .i _ _ _::_,h=>⟨h.1,h.2.1,h.2.2.1,h.2.2.2.1,fG.obs h.2.2.2.2⟩
 | .x _ _ _::_,h=>⟨h.1,h.2.1,h.2.2.1,fG.obs h.2.2.2⟩
 | .g _ _ _::_,h=>⟨h.1,h.2.1,fG.obs h.2.2⟩
 | .u _::_,h=>⟨h.1,fG.obs h.2⟩
 | .v _::_,h=>⟨h.1,fG.obs h.2⟩
 | .f _ _ _::_,h=>⟨h.1,fG.obs h.2⟩
 | .h _::_,h=>⟨h.1,fG.obs h.2⟩
 | .n _ _::_,h=>⟨h.1,fG.obs h.2⟩
def Bv{α:Type}(P:Program)(f:Nat)(g:Func->Option α):Option α:=P.funcs[f]?.bind fun fn=>if fn.body.isSome then g fn else none
variable{f:Nat}
theorem MV{α:Type}{g:Func->Option α}{x:α}(h:Bv P f g=some x):∃fn,P.funcs[f]?=some fn/\fn.body.isSome=true/\g fn=some x:=by
 unfold Bv at h;rw[nf]at h;obtain⟨fn,h1,U⟩:=h;split at U
 ·exact⟨fn,h1,‹_›,U⟩
 cases U
variable{os:List O}
theorem fG.of{args rs:List cK}(h:fG P os)(k:(Bv P f fun fn=>J2 P (oA fn) fn.ntmps fn.results.toList args rs (ly os))=some (rs,ll P os):=by kernel_rfl):ja P f args rs:=by
 obtain⟨fn,h1,U,ax⟩:=MV k;exact ja.of _ _ h1 U ax h.obs
theorem fG.Ql{args:List GA}{rs:List cK}(h:fG P os)(k:(Bv P f fun fn=>J0 P (oA fn) fn.ntmps fn.results.toList args rs (ly os))=some (rs,args,ll P os):=by kernel_rfl):k' P f args rs:=by
 obtain⟨fn,h1,U,ax⟩:=MV k;exact k'.of _ _ h1 U ax h.obs
theorem fG.dg{args:List bc}{r:bG}(h:fG P os)(k:(Bv P f fun fn=>J1 P (oA fn) fn.ntmps fn.results.toList args r (ly os))=some (r,args,ll P os):=by kernel_rfl):dC P f args r:=by
 obtain⟨fn,h1,U,ax⟩:=MV k;exact dC.of _ _ h1 U ax h.obs
variable{st:aG}
theorem fG.aR{c:Code}{br:aG}{e:h'}(cO bs:List Nat)(h:fG P os)(k:Bo P c st (ly os) cO bs=some (e,br,ll P os):=by kernel_rfl):gA P c st e br:=gA.JY k h.obs
theorem fG.y2{c:Code}{br:aG}{e:h'}(ns:List (Nat×Nat×Nat))(cO bs:List Nat)(h:fG P os)(k:JQ P c st (ly os) ns cO bs=some (e,br,ll P os):=by kernel_rfl):gA P c st e br:=gA.aa2 k h.obs
abbrev ak:=List (List D)
abbrev cl(a:ak)(b c:Int)(d e f g:ak):List D:=[.J 4 a,I b,I c,.J 8 d,.J 6 e,.J 5 f,.J 3 g]
abbrev a'(a b c d e f g h:ak):List D:=[.J 5 a,.J 5 b,.J 5 c,.J 4 d,.J 1 e,.J 1 f,.J 1 g,.J 2 h]
abbrev b7(a:Int)(b:ak)(c d e f:Int):List D:=[I a,.J 5 b,I c,I d,I e,I f]
abbrev bA(a b c d e:Int):List D:=[I a,I b,I c,I d,I e]
abbrev bF(a b c:Int)(d:ak):List D:=[I a,I b,I c,.J 1 d]
abbrev bP(a:ak)(b c:Int):List D:=[.J 4 a,I b,I c]
abbrev a8:Value:=.slice none 0 0
abbrev bf(n:Int):aI:=.bd (.one (.v (.int .i64 n)))
abbrev eP(k:Nat)(l:ak):aI:=.bd (.one (.J .free k l))
abbrev aM(n:Int):aD:=.v (.int .i64 n)
abbrev bE(k:Nat):aI:=.bd (.one (.ptr k 0))
abbrev aV(t k:Nat)(l:ak):aD:=.J (.own t) k l
abbrev ag(x:Int):cK:=.one (I x)
abbrev al(x:Bool):cK:=.one (B x)
abbrev aS(k:Nat)(l:ak):cK:=.one (.J k l)
def CO(P:Program)(ops:Array Oper)(A:List (List b6))(st:aG):aG:=runM P ops A (2 ^ ops.size-1) 0 ops.toList st
def DQ{α:Type}:List Nat->List α->List (List α)
 | [],_=>[]
 | n::r,l=>l.take n::DQ r (l.drop n)
theorem nr.EB{ops:Array Oper}{A:List (List b6)}{L:List Prop}(ns:List Nat)(aN:c8 L)(af:(P.follows .mixedOrders&&sr (sj ops.toList []) ops.toList)=true:=by kernel_rfl)
  (he:Ax P ops A st ops.size [0]=Ay P ops A (DQ ns L) st ops.size [0]:=by kernel_rfl) (aj:(DQ ns L).flatten=L:=by kernel_rfl):nr P ops st (CO P ops A st):=nr.of A (DQ ns L) af he rfl (aj.symm▸aN)
