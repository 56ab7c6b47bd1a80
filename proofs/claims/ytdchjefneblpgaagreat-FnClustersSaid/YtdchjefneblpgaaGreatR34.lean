import Derived.Test.YtdchjefneblpgaaGreatR22
import Derived.Test.YtdchjefneblpgaaGreatR33
set_option linter.unusedVariables false
set_option linter.unusedSimpArgs false
namespace Go.Sx
open Go.RowKit
inductive O where
 | p (x:Prop)
 | b (x y:Bool)
 | e (l:List (List D)) (i:Nat) (ds:List D)
 | r (f:Nat) (args rs:List cQ)
 | l (D5:List (Nat×Nat×Nat)) (eN boxes:List Nat) (c:Code) (st:aF) (e:hE) (bE:aF)
 | a (x:ci)
 | i (l:List (List D)) (n:Int) (ds:List D)
 | x (l:List (List D)) (n:Int) (ds:List D)
 | g (l m:List (List D)) (k:Nat)
 | u (n:Int)
 | v (n:Int)
 | f (l:List (List D)) (n:Int) (b:Bool)
 | h (l:List (List D))
 | n (x y:Bool)
def fC(P:Program):List O->Prop
 | []=>True
 | .p x::r=>x/\fC P r
 | .b x y::r=>x=y/\fC P r
 | .e l i ds::r=>l[i]?=some ds/\fC P r
 | .r f x y::r=>iX P f x y/\fC P r
 | .l _ _ _ c st e bE::r=>c' P c st e bE/\fC P r
 | .a _::r=>fC P r
 | .i l n ds::r=>decide (n<(l.length:Int))=true/\0<=n/\n<(l.length:Int)/\l[n.toNat]?=some ds/\fC P r
 | .x l n ds::r=>0<=n/\n<(l.length:Int)/\l[n.toNat]?=some ds/\fC P r
 | .g l m k::r=>(l.length+m.length)*k<=140737488355328/\l.length+m.length<=9223372036854775807/\fC P r
 | .u n::r=>aG .i64 (n+1)/\fC P r
 | .v n::r=>aG .i64 n/\fC P r
 | .f l n b::r=>decide (n<(l.length:Int))=b/\fC P r
 | .h l::r=>Flat l/\fC P r
 | .n x y::r=>(!x)=y/\fC P r
def kO(P:Program):List O->List Prop
 | []=>[]
 | .p x::r=>x::kO P r
 | .b x y::r=>(x=y)::kO P r
 | .e l i ds::r=>(l[i]?=some ds)::kO P r
 | .r f x y::r=>iX P f x y::kO P r
 | .l _ _ _ c st e bE::r=>c' P c st e bE::kO P r
 | .a _::r=>kO P r
 | .i l n ds::r=>(decide (n<(l.length:Int))=true)::(0<=n)::(n<(l.length:Int))::(l[n.toNat]?=some ds)::kO P r
 | .x l n ds::r=>(0<=n)::(n<(l.length:Int))::(l[n.toNat]?=some ds)::kO P r
 | .g l m k::r=>((l.length+m.length)*k<=140737488355328)::(l.length+m.length<=9223372036854775807)::kO P r
 | .u n::r=>aG .i64 (n+1)::kO P r
 | .v n::r=>aG .i64 n::kO P r
 | .f l n b::r=>(decide (n<(l.length:Int))=b)::kO P r
 | .h l::r=>Flat l::kO P r
 | .n x y::r=>((!x)=y)::kO P r
def kZ:List O->List ci
 | []=>[]
 | .p _::r=>kZ r
 | .b _ y::r=>.o1 y::kZ r
 | .e _ _ ds::r=>.el ds::kZ r
 | .r _ _ y::r=>.res y::kZ r
 | .l n k b _ _ e bE::r=>.loop n k b e bE::kZ r
 | .a x::r=>x::kZ r
 | .i _ _ ds::r=>.o1 true::.el ds::kZ r
 | .x _ _ ds::r=>.el ds::kZ r
 | .g _ _ _::r=>kZ r
 | .u _::r=>kZ r
 | .v _::r=>kZ r
 | .f _ _ b::r=>.o1 b::kZ r
 | .h _::r=>kZ r
 | .n _ y::r=>.o1 y::kZ r
variable{P:Program}
theorem fC.obs:∀{os:List O},fC P os->cO (kO P os)
 | [],_=>trivial
 | .p _::_,h=>⟨h.1,fC.obs h.2⟩
 | .b _ _::_,h=>⟨h.1,fC.obs h.2⟩
 | .e _ _ _::_,h=>⟨h.1,fC.obs h.2⟩
 | .r _ _ _::_,h=>⟨h.1,fC.obs h.2⟩
 | .l _ _ _ _ _ _ _::_,h=>⟨h.1,fC.obs h.2⟩
 | .a _::r,h=>fC.obs (os:=r) h
 | .i _ _ _::_,h=>⟨h.1,h.2.1,h.2.2.1,h.2.2.2.1,fC.obs h.2.2.2.2⟩
 | .x _ _ _::_,h=>⟨h.1,h.2.1,h.2.2.1,fC.obs h.2.2.2⟩
 | .g _ _ _::_,h=>⟨h.1,h.2.1,fC.obs h.2.2⟩
 | .u _::_,h=>⟨h.1,fC.obs h.2⟩
 | .v _::_,h=>⟨h.1,fC.obs h.2⟩
 | .f _ _ _::_,h=>⟨h.1,fC.obs h.2⟩
 | .h _::_,h=>⟨h.1,fC.obs h.2⟩
 | .n _ _::_,h=>⟨h.1,fC.obs h.2⟩
def D8{α:Type}(P:Program)(f:Nat)(g:Func->Option α):Option α:=P.funcs[f]?.bind fun fn=>if fn.body.isSome then g fn else none
variable{f:Nat}
theorem XH{α:Type}{g:Func->Option α}{x:α}(h:D8 P f g=some x):∃fn,P.funcs[f]?=some fn/\fn.body.isSome=true/\g fn=some x:=by
 unfold D8 at h;rw[mo]at h;obtain⟨fn,h1,U⟩:=h;split at U
 ·exact⟨fn,h1,‹_›,U⟩
 cases U
variable{os:List O}
theorem fC.of{args rs:List cQ}(h:fC P os)(k:(D8 P f fun fn=>JE P (oR fn) fn.ntmps fn.results.toList args rs (kZ os))=some (rs,kO P os):=by kernel_rfl):iX P f args rs:=by
 obtain⟨fn,h1,U,ax⟩:=XH k;exact iX.of _ _ h1 U ax h.obs
theorem fC.cd{args:List aN}{r:aV}(h:fC P os)(k:(D8 P f fun fn=>JD P (oR fn) fn.ntmps fn.results.toList args r (kZ os))=some (r,args,kO P os):=by kernel_rfl):bZ P f args r:=by
 obtain⟨fn,h1,U,ax⟩:=XH k;exact bZ.of _ _ h1 U ax h.obs
variable{st:aF}
theorem fC.aW{c:Code}{bE:aF}{e:hE}(cT bs:List Nat)(h:fC P os)(k:AW P c st (kZ os) cT bs=some (e,bE,kO P os):=by kernel_rfl):gl P c st e bE:=gl.JA k h.obs
theorem fC.qp{c:Code}{bE:aF}{e:hE}(ns:List (Nat×Nat×Nat))(cT bs:List Nat)(h:fC P os)(k:Js P c st (kZ os) ns cT bs=some (e,bE,kO P os):=by kernel_rfl):gl P c st e bE:=gl.acF k h.obs
abbrev ah:=List (List D)
abbrev cl(a:ah)(b c:Int)(d e f g:ah):List D:=[.J 4 a,I b,I c,.J 8 d,.J 6 e,.J 5 f,.J 3 g]
abbrev bj(a b c d e f g h:ah):List D:=[.J 5 a,.J 5 b,.J 5 c,.J 4 d,.J 1 e,.J 1 f,.J 1 g,.J 2 h]
abbrev b5(a:Int)(b:ah)(c d e f:Int):List D:=[I a,.J 5 b,I c,I d,I e,I f]
abbrev bx(a b c d e:Int):List D:=[I a,I b,I c,I d,I e]
abbrev bn(a b c:Int)(d:ah):List D:=[I a,I b,I c,.J 1 d]
abbrev bt(a:ah)(b c:Int):List D:=[.J 4 a,I b,I c]
abbrev aO:Value:=.slice none 0 0
abbrev a1(n:Int):aJ:=.aI (.one (.v (.int .i64 n)))
abbrev cX(k:Nat)(l:ah):aJ:=.aI (.one (.J .free k l))
abbrev ay(n:Int):aH:=.v (.int .i64 n)
abbrev aT(k:Nat):aJ:=.aI (.one (.ptr k 0))
abbrev aD(t k:Nat)(l:ah):aH:=.J (.own t) k l
abbrev ao(x:Int):cQ:=.one (I x)
abbrev al(x:Bool):cQ:=.one (B x)
abbrev aM(k:Nat)(l:ah):cQ:=.one (.J k l)
def mS(P:Program)(ops:Array Oper)(A:List (List ci))(st:aF):aF:=runM P ops A (2 ^ ops.size-1) 0 ops.toList st
def Dp{α:Type}:List Nat->List α->List (List α)
 | [],_=>[]
 | n::r,l=>l.take n::Dp r (l.drop n)
theorem eA.nK{ops:Array Oper}{A:List (List ci)}{L:List Prop}(ns:List Nat)(aU:cO L)(ak:(P.follows .mixedOrders&&rL (rz ops.toList []) ops.toList)=true:=by kernel_rfl)
  (he:z7 P ops A st ops.size [0]=z8 P ops A (Dp ns L) st ops.size [0]:=by kernel_rfl) (ag:(Dp ns L).flatten=L:=by kernel_rfl):eA P ops st (mS P ops A st):=eA.of A (Dp ns L) ak he rfl (ag.symm▸aU)
