import Derived.Test.YtdchjefneblpgaaR22
import Derived.Test.YtdchjefneblpgaaR33
set_option linter.unusedVariables false
set_option linter.unusedSimpArgs false
namespace Go.Sx
open Go.RowKit
inductive O where
 | p (x:Prop)
 | b (x y:Bool)
 | e (l:List (List D)) (i:Nat) (ds:List D)
 | r (f:Nat) (args rs:List b7)
 | l (yv:List (Nat×Nat×Nat)) (eF boxes:List Nat) (c:Code) (st:aG) (e:fH) (a6:aG)
 | a (x:bI)
 | i (l:List (List D)) (n:Int) (ds:List D)
 | x (l:List (List D)) (n:Int) (ds:List D)
 | g (l m:List (List D)) (k:Nat)
 | u (n:Int)
 | v (n:Int)
 | f (l:List (List D)) (n:Int) (b:Bool)
 | h (l:List (List D))
 | n (x y:Bool)
def eg(P:Program):List O->Prop
 | []=>True
 | .p x::r=>x/\eg P r
 | .b x y::r=>x=y/\eg P r
 | .e l i ds::r=>l[i]?=some ds/\eg P r
 | .r f x y::r=>gm P f x y/\eg P r
 | .l _ _ _ c st e a6::r=>dk P c st e a6/\eg P r
 | .a _::r=>eg P r
 | .i l n ds::r=>decide (n<(l.length:Int))=true/\0<=n/\n<(l.length:Int)/\l[n.toNat]?=some ds/\eg P r
 | .x l n ds::r=>0<=n/\n<(l.length:Int)/\l[n.toNat]?=some ds/\eg P r
 | .g l m k::r=>(l.length+m.length)*k<=140737488355328/\l.length+m.length<=9223372036854775807/\eg P r
 | .u n::r=>ap .i64 (n+1)/\eg P r
 | .v n::r=>ap .i64 n/\eg P r
 | .f l n b::r=>decide (n<(l.length:Int))=b/\eg P r
 | .h l::r=>Flat l/\eg P r
 | .n x y::r=>(!x)=y/\eg P r
def ij(P:Program):List O->List Prop
 | []=>[]
 | .p x::r=>x::ij P r
 | .b x y::r=>(x=y)::ij P r
 | .e l i ds::r=>(l[i]?=some ds)::ij P r
 | .r f x y::r=>gm P f x y::ij P r
 | .l _ _ _ c st e a6::r=>dk P c st e a6::ij P r
 | .a _::r=>ij P r
 | .i l n ds::r=>(decide (n<(l.length:Int))=true)::(0<=n)::(n<(l.length:Int))::(l[n.toNat]?=some ds)::ij P r
 | .x l n ds::r=>(0<=n)::(n<(l.length:Int))::(l[n.toNat]?=some ds)::ij P r
 | .g l m k::r=>((l.length+m.length)*k<=140737488355328)::(l.length+m.length<=9223372036854775807)::ij P r
 | .u n::r=>ap .i64 (n+1)::ij P r
 | .v n::r=>ap .i64 n::ij P r
 | .f l n b::r=>(decide (n<(l.length:Int))=b)::ij P r
 | .h l::r=>Flat l::ij P r
 | .n x y::r=>((!x)=y)::ij P r
def ix:List O->List bI
 | []=>[]
 | .p _::r=>ix r
 | .b _ y::r=>.lP y::ix r
 | .e _ _ ds::r=>.el ds::ix r
 | .r _ _ y::r=>.res y::ix r
 | .l n k b _ _ e a6::r=>.loop n k b e a6::ix r
 | .a x::r=>x::ix r
 | .i _ _ ds::r=>.lP true::.el ds::ix r
 | .x _ _ ds::r=>.el ds::ix r
 | .g _ _ _::r=>ix r
 | .u _::r=>ix r
 | .v _::r=>ix r
 | .f _ _ b::r=>.lP b::ix r
 | .h _::r=>ix r
 | .n _ y::r=>.lP y::ix r
variable{P:Program}
theorem eg.obs:∀{os:List O},eg P os->cn (ij P os)
 | [],_=>trivial
 | .p _::_,h=>⟨h.1,eg.obs h.2⟩
 | .b _ _::_,h=>⟨h.1,eg.obs h.2⟩
 | .e _ _ _::_,h=>⟨h.1,eg.obs h.2⟩
 | .r _ _ _::_,h=>⟨h.1,eg.obs h.2⟩
 | .l _ _ _ _ _ _ _::_,h=>⟨h.1,eg.obs h.2⟩
 | .a _::r,h=>eg.obs (os:=r) h
 | .i _ _ _::_,h=>⟨h.1,h.2.1,h.2.2.1,h.2.2.2.1,eg.obs h.2.2.2.2⟩
 | .x _ _ _::_,h=>⟨h.1,h.2.1,h.2.2.1,eg.obs h.2.2.2⟩
 | .g _ _ _::_,h=>⟨h.1,h.2.1,eg.obs h.2.2⟩
 | .u _::_,h=>⟨h.1,eg.obs h.2⟩
 | .v _::_,h=>⟨h.1,eg.obs h.2⟩
 | .f _ _ _::_,h=>⟨h.1,eg.obs h.2⟩
 | .h _::_,h=>⟨h.1,eg.obs h.2⟩
 | .n _ _::_,h=>⟨h.1,eg.obs h.2⟩
def wc{α:Type}(P:Program)(f:Nat)(g:Func->Option α):Option α:=P.funcs[f]?.bind fun fn=>if fn.body.isSome then g fn else none
variable{f:Nat}
theorem EW{α:Type}{g:Func->Option α}{x:α}(h:wc P f g=some x):∃fn,P.funcs[f]?=some fn/\fn.body.isSome=true/\g fn=some x:=by
 unfold wc at h;rw[jT]at h;obtain⟨fn,J,U⟩:=h;split at U
 ·exact⟨fn,J,‹_›,U⟩
 cases U
variable{os:List O}
theorem eg.of{args rs:List b7}(h:eg P os)(k:(wc P f fun fn=>C6 P (kX fn) fn.ntmps fn.results.toList args rs (ix os))=some (rs,ij P os):=by kernel_rfl):gm P f args rs:=by
 obtain⟨fn,J,U,ax⟩:=EW k;exact gm.of _ _ J U ax h.obs
theorem eg.Iz{args:List GA}{rs:List b7}(h:eg P os)(k:(wc P f fun fn=>C4 P (kX fn) fn.ntmps fn.results.toList args rs (ix os))=some (rs,args,ij P os):=by kernel_rfl):je P f args rs:=by
 obtain⟨fn,J,U,ax⟩:=EW k;exact je.of _ _ J U ax h.obs
theorem eg.dB{args:List ba}{r:bd}(h:eg P os)(k:(wc P f fun fn=>C5 P (kX fn) fn.ntmps fn.results.toList args r (ix os))=some (r,args,ij P os):=by kernel_rfl):cv P f args r:=by
 obtain⟨fn,J,U,ax⟩:=EW k;exact cv.of _ _ J U ax h.obs
variable{st:aG}
theorem eg.bu{c:Code}{a6:aG}{e:fH}(cg bs:List Nat)(h:eg P os)(k:yr P c st (ix os) cg bs=some (e,a6,ij P os):=by kernel_rfl):eS P c st e a6:=eS.IA k h.obs
theorem eg.yt{c:Code}{a6:aG}{e:fH}(ns:List (Nat×Nat×Nat))(cg bs:List Nat)(h:eg P os)(k:CV P c st (ix os) ns cg bs=some (e,a6,ij P os):=by kernel_rfl):eS P c st e a6:=eS.Rl k h.obs
abbrev aE:=List (List D)
abbrev da(a:aE)(b c:Int)(d e f g:aE):List D:=[.aa 4 a,I b,I c,.aa 8 d,.aa 6 e,.aa 5 f,.aa 3 g]
abbrev rh(a b c d e f g h:aE):List D:=[.aa 5 a,.aa 5 b,.aa 5 c,.aa 4 d,.aa 1 e,.aa 1 f,.aa 1 g,.aa 2 h]
abbrev afM(a:Int)(b:aE)(c d e f:Int):List D:=[I a,.aa 5 b,I c,I d,I e,I f]
abbrev bx(a b c d e:Int):List D:=[I a,I b,I c,I d,I e]
abbrev aX(a b c:Int)(d:aE):List D:=[I a,I b,I c,.aa 1 d]
abbrev bj(a:aE)(b c:Int):List D:=[.aa 4 a,I b,I c]
abbrev bE:Value:=.slice none 0 0
abbrev bB(n:Int):az:=.aN (.one (.v (.int .i64 n)))
abbrev eB(k:Nat)(l:aE):az:=.aN (.one (.aa .free k l))
abbrev aS(n:Int):aq:=.v (.int .i64 n)
abbrev bC(k:Nat):az:=.aN (.one (.ptr k 0))
abbrev bU(t k:Nat)(l:aE):aq:=.aa (.own t) k l
abbrev ao(x:Int):b7:=.one (I x)
abbrev au(x:Bool):b7:=.one (B x)
abbrev aB(k:Nat)(l:aE):b7:=.one (.aa k l)
def sS(P:Program)(ops:Array Oper)(A:List (List bI))(st:aG):aG:=runM P ops A (2 ^ ops.size-1) 0 ops.toList st
def xJ{α:Type}:List Nat->List α->List (List α)
 | [],_=>[]
 | n::r,l=>l.take n::xJ r (l.drop n)
theorem gF.tK{ops:Array Oper}{A:List (List bI)}{L:List Prop}(ns:List Nat)(aM:cn L)(ai:(P.follows .mixedOrders&&oC (ou ops.toList []) ops.toList)=true:=by kernel_rfl)
  (he:u2 P ops A st ops.size [0]=u3 P ops A (xJ ns L) st ops.size [0]:=by kernel_rfl) (ak:(xJ ns L).flatten=L:=by kernel_rfl):gF P ops st (sS P ops A st):=gF.of A (xJ ns L) ai he rfl (ak.symm▸aM)
