import Derived.Test.YtdchjefneblpgaaGreatR22
import Derived.Test.YtdchjefneblpgaaGreatR33
set_option linter.unusedVariables false
set_option linter.unusedSimpArgs false
namespace Go.Sx
open Go.RowKit
inductive O where
 | p (x:Prop)
 | b (x y:Bool)
 | e (l:List (List D)) (i:Nat) (ds:List D)
 | r (f:Nat) (args rs:List cH)
 | l (Dn:List (Nat×Nat×Nat)) (ey boxes:List Nat) (c:Code) (st:aE) (e:gO) (bn:aE)
 | a (x:b4)
 | i (l:List (List D)) (n:Int) (ds:List D)
 | x (l:List (List D)) (n:Int) (ds:List D)
 | g (l m:List (List D)) (k:Nat)
 | u (n:Int)
 | v (n:Int)
 | f (l:List (List D)) (n:Int) (b:Bool)
 | h (l:List (List D))
 | n (x y:Bool)
def fD(P:Program):List O->Prop
 | []=>True
 | .p x::r=>x/\fD P r
 | .b x y::r=>x=y/\fD P r
 | .e l i ds::r=>l[i]?=some ds/\fD P r
 | .r f x y::r=>iW P f x y/\fD P r
 | .l _ _ _ c st e bn::r=>dd P c st e bn/\fD P r
 | .a _::r=>fD P r
 | .i l n ds::r=>decide (n<(l.length:Int))=true/\0<=n/\n<(l.length:Int)/\l[n.toNat]?=some ds/\fD P r
 | .x l n ds::r=>0<=n/\n<(l.length:Int)/\l[n.toNat]?=some ds/\fD P r
 | .g l m k::r=>(l.length+m.length)*k<=140737488355328/\l.length+m.length<=9223372036854775807/\fD P r
 | .u n::r=>bf .i64 (n+1)/\fD P r
 | .v n::r=>bf .i64 n/\fD P r
 | .f l n b::r=>decide (n<(l.length:Int))=b/\fD P r
 | .h l::r=>Flat l/\fD P r
 | .n x y::r=>(!x)=y/\fD P r
def kI(P:Program):List O->List Prop
 | []=>[]
 | .p x::r=>x::kI P r
 | .b x y::r=>(x=y)::kI P r
 | .e l i ds::r=>(l[i]?=some ds)::kI P r
 | .r f x y::r=>iW P f x y::kI P r
 | .l _ _ _ c st e bn::r=>dd P c st e bn::kI P r
 | .a _::r=>kI P r
 | .i l n ds::r=>(decide (n<(l.length:Int))=true)::(0<=n)::(n<(l.length:Int))::(l[n.toNat]?=some ds)::kI P r
 | .x l n ds::r=>(0<=n)::(n<(l.length:Int))::(l[n.toNat]?=some ds)::kI P r
 | .g l m k::r=>((l.length+m.length)*k<=140737488355328)::(l.length+m.length<=9223372036854775807)::kI P r
 | .u n::r=>bf .i64 (n+1)::kI P r
 | .v n::r=>bf .i64 n::kI P r
 | .f l n b::r=>(decide (n<(l.length:Int))=b)::kI P r
 | .h l::r=>Flat l::kI P r
 | .n x y::r=>((!x)=y)::kI P r
def kO:List O->List b4
 | []=>[]
 | .p _::r=>kO r
 | .b _ y::r=>.o1 y::kO r
 | .e _ _ ds::r=>.el ds::kO r
 | .r _ _ y::r=>.res y::kO r
 | .l n k b _ _ e bn::r=>.loop n k b e bn::kO r
 | .a x::r=>x::kO r
 | .i _ _ ds::r=>.o1 true::.el ds::kO r
 | .x _ _ ds::r=>.el ds::kO r
 | .g _ _ _::r=>kO r
 | .u _::r=>kO r
 | .v _::r=>kO r
 | .f _ _ b::r=>.o1 b::kO r
 | .h _::r=>kO r
 | .n _ y::r=>.o1 y::kO r
variable{P:Program}
theorem fD.obs:∀{os:List O},fD P os->cB (kI P os)
 | [],_=>trivial
 | .p _::_,h=>⟨h.1,fD.obs h.2⟩
 | .b _ _::_,h=>⟨h.1,fD.obs h.2⟩
 | .e _ _ _::_,h=>⟨h.1,fD.obs h.2⟩
 | .r _ _ _::_,h=>⟨h.1,fD.obs h.2⟩
 | .l _ _ _ _ _ _ _::_,h=>⟨h.1,fD.obs h.2⟩
 | .a _::r,h=>fD.obs (os:=r) h
 | .i _ _ _::_,h=>⟨h.1,h.2.1,h.2.2.1,h.2.2.2.1,fD.obs h.2.2.2.2⟩
 | .x _ _ _::_,h=>⟨h.1,h.2.1,h.2.2.1,fD.obs h.2.2.2⟩
 | .g _ _ _::_,h=>⟨h.1,h.2.1,fD.obs h.2.2⟩
 | .u _::_,h=>⟨h.1,fD.obs h.2⟩
 | .v _::_,h=>⟨h.1,fD.obs h.2⟩
 | .f _ _ _::_,h=>⟨h.1,fD.obs h.2⟩
 | .h _::_,h=>⟨h.1,fD.obs h.2⟩
 | .n _ _::_,h=>⟨h.1,fD.obs h.2⟩
def Dr{α:Type}(P:Program)(f:Nat)(g:Func->Option α):Option α:=P.funcs[f]?.bind fun fn=>if fn.body.isSome then g fn else none
variable{f:Nat}
theorem UW{α:Type}{g:Func->Option α}{x:α}(h:Dr P f g=some x):∃fn,P.funcs[f]?=some fn/\fn.body.isSome=true/\g fn=some x:=by
 unfold Dr at h;rw[mj]at h;obtain⟨fn,h1,U⟩:=h;split at U
 ·exact⟨fn,h1,‹_›,U⟩
 cases U
variable{os:List O}
theorem fD.of{args rs:List cH}(h:fD P os)(k:(Dr P f fun fn=>H0 P (oL fn) fn.ntmps fn.results.toList args rs (kO os))=some (rs,kI P os):=by kernel_rfl):iW P f args rs:=by
 obtain⟨fn,h1,U,au⟩:=UW k;exact iW.of _ _ h1 U au h.obs
theorem fD.b0{args:List aJ}{r:aT}(h:fD P os)(k:(Dr P f fun fn=>HZ P (oL fn) fn.ntmps fn.results.toList args r (kO os))=some (r,args,kI P os):=by kernel_rfl):bU P f args r:=by
 obtain⟨fn,h1,U,au⟩:=UW k;exact bU.of _ _ h1 U au h.obs
variable{st:aE}
theorem fD.a'{c:Code}{bn:aE}{e:gO}(cK bs:List Nat)(h:fD P os)(k:Al P c st (kO os) cK bs=some (e,bn,kI P os):=by kernel_rfl):fP P c st e bn:=fP.HW k h.obs
theorem fD.lu{c:Code}{bn:aE}{e:gO}(ns:List (Nat×Nat×Nat))(cK bs:List Nat)(h:fD P os)(k:HO P c st (kO os) ns cK bs=some (e,bn,kI P os):=by kernel_rfl):fP P c st e bn:=fP.Zm k h.obs
abbrev ai:=List (List D)
abbrev cl(a:ai)(b c:Int)(d e f g:ai):List D:=[.J 4 a,I b,I c,.J 8 d,.J 6 e,.J 5 f,.J 3 g]
abbrev bz(a b c d e f g h:ai):List D:=[.J 5 a,.J 5 b,.J 5 c,.J 4 d,.J 1 e,.J 1 f,.J 1 g,.J 2 h]
abbrev cI(a:Int)(b:ai)(c d e f:Int):List D:=[I a,.J 5 b,I c,I d,I e,I f]
abbrev bu(a b c d e:Int):List D:=[I a,I b,I c,I d,I e]
abbrev cz(a b c:Int)(d:ai):List D:=[I a,I b,I c,.J 1 d]
abbrev bS(a:ai)(b c:Int):List D:=[.J 4 a,I b,I c]
abbrev aO:Value:=.slice none 0 0
abbrev aZ(n:Int):aB:=.aD (.one (.v (.int .i64 n)))
abbrev dX(k:Nat)(l:ai):aB:=.aD (.one (.J .free k l))
abbrev aq(n:Int):aC:=.v (.int .i64 n)
abbrev aS(k:Nat):aB:=.aD (.one (.ptr k 0))
abbrev ay(t k:Nat)(l:ai):aC:=.J (.own t) k l
abbrev al(x:Int):cH:=.one (I x)
abbrev aI(x:Bool):cH:=.one (B x)
abbrev a7(k:Nat)(l:ai):cH:=.one (.J k l)
def mf(P:Program)(ops:Array Oper)(A:List (List b4))(st:aE):aE:=runM P ops A (2 ^ ops.size-1) 0 ops.toList st
def CC{α:Type}:List Nat->List α->List (List α)
 | [],_=>[]
 | n::r,l=>l.take n::CC r (l.drop n)
theorem dY.mS{ops:Array Oper}{A:List (List b4)}{L:List Prop}(ns:List Nat)(aN:cB L)(ad:(P.follows .mixedOrders&&rz (rl ops.toList []) ops.toList)=true:=by kernel_rfl)
  (he:zp P ops A st ops.size [0]=zq P ops A (CC ns L) st ops.size [0]:=by kernel_rfl) (af:(CC ns L).flatten=L:=by kernel_rfl):dY P ops st (mf P ops A st):=dY.of A (CC ns L) ad he rfl (af.symm▸aN)
