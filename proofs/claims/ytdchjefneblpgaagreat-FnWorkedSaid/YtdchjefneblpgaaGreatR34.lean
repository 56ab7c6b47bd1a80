import Derived.Test.YtdchjefneblpgaaGreatR22
import Derived.Test.YtdchjefneblpgaaGreatR33
set_option linter.unusedVariables false
set_option linter.unusedSimpArgs false
namespace Go.Sx
open Go.RowKit
inductive O where
 | p (x:Prop)
 | b (x y:Bool)
 | e (l:List (List D)) (i:Nat) (ds:List D)
 | r (f:Nat) (args rs:List cF)
 | l (Cy:List (Nat×Nat×Nat)) (fo boxes:List Nat) (c:Code) (st:aI) (e:hl) (bp:aI)
 | a (x:b9)
 | i (l:List (List D)) (n:Int) (ds:List D)
 | x (l:List (List D)) (n:Int) (ds:List D)
 | g (l m:List (List D)) (k:Nat)
 | u (n:Int)
 | v (n:Int)
 | f (l:List (List D)) (n:Int) (b:Bool)
 | h (l:List (List D))
 | n (x y:Bool)
def fe(P:Program):List O->Prop
 | []=>True
 | .p x::r=>x/\fe P r
 | .b x y::r=>x=y/\fe P r
 | .e l i ds::r=>l[i]?=some ds/\fe P r
 | .r f x y::r=>h2 P f x y/\fe P r
 | .l _ _ _ c st e bp::r=>c3 P c st e bp/\fe P r
 | .a _::r=>fe P r
 | .i l n ds::r=>decide (n<(l.length:Int))=true/\0<=n/\n<(l.length:Int)/\l[n.toNat]?=some ds/\fe P r
 | .x l n ds::r=>0<=n/\n<(l.length:Int)/\l[n.toNat]?=some ds/\fe P r
 | .g l m k::r=>(l.length+m.length)*k<=140737488355328/\l.length+m.length<=9223372036854775807/\fe P r
 | .u n::r=>ay .i64 (n+1)/\fe P r
 | .v n::r=>ay .i64 n/\fe P r
 | .f l n b::r=>decide (n<(l.length:Int))=b/\fe P r
 | .h l::r=>Flat l/\fe P r
 | .n x y::r=>(!x)=y/\fe P r
def j2(P:Program):List O->List Prop
 | []=>[]
 | .p x::r=>x::j2 P r
 | .b x y::r=>(x=y)::j2 P r
 | .e l i ds::r=>(l[i]?=some ds)::j2 P r
 | .r f x y::r=>h2 P f x y::j2 P r
 | .l _ _ _ c st e bp::r=>c3 P c st e bp::j2 P r
 | .a _::r=>j2 P r
 | .i l n ds::r=>(decide (n<(l.length:Int))=true)::(0<=n)::(n<(l.length:Int))::(l[n.toNat]?=some ds)::j2 P r
 | .x l n ds::r=>(0<=n)::(n<(l.length:Int))::(l[n.toNat]?=some ds)::j2 P r
 | .g l m k::r=>((l.length+m.length)*k<=140737488355328)::(l.length+m.length<=9223372036854775807)::j2 P r
 | .u n::r=>ay .i64 (n+1)::j2 P r
 | .v n::r=>ay .i64 n::j2 P r
 | .f l n b::r=>(decide (n<(l.length:Int))=b)::j2 P r
 | .h l::r=>Flat l::j2 P r
 | .n x y::r=>((!x)=y)::j2 P r
def kc:List O->List b9
 | []=>[]
 | .p _::r=>kc r
 | .b _ y::r=>.n9 y::kc r
 | .e _ _ ds::r=>.el ds::kc r
 | .r _ _ y::r=>.res y::kc r
 | .l n k b _ _ e bp::r=>.loop n k b e bp::kc r
 | .a x::r=>x::kc r
 | .i _ _ ds::r=>.n9 true::.el ds::kc r
 | .x _ _ ds::r=>.el ds::kc r
 | .g _ _ _::r=>kc r
 | .u _::r=>kc r
 | .v _::r=>kc r
 | .f _ _ b::r=>.n9 b::kc r
 | .h _::r=>kc r
 | .n _ y::r=>.n9 y::kc r
variable{P:Program}
theorem fe.obs:∀{os:List O},fe P os->cG (j2 P os)
 | [],_=>trivial
 | .p _::_,h=>⟨h.1,fe.obs h.2⟩
 | .b _ _::_,h=>⟨h.1,fe.obs h.2⟩
 | .e _ _ _::_,h=>⟨h.1,fe.obs h.2⟩
 | .r _ _ _::_,h=>⟨h.1,fe.obs h.2⟩
 | .l _ _ _ _ _ _ _::_,h=>⟨h.1,fe.obs h.2⟩
 | .a _::r,h=>fe.obs (os:=r) h
 | .i _ _ _::_,h=>⟨h.1,h.2.1,h.2.2.1,h.2.2.2.1,fe.obs h.2.2.2.2⟩
 | .x _ _ _::_,h=>⟨h.1,h.2.1,h.2.2.1,fe.obs h.2.2.2⟩
 | .g _ _ _::_,h=>⟨h.1,h.2.1,fe.obs h.2.2⟩
 | .u _::_,h=>⟨h.1,fe.obs h.2⟩
 | .v _::_,h=>⟨h.1,fe.obs h.2⟩
 | .f _ _ _::_,h=>⟨h.1,fe.obs h.2⟩
 | .h _::_,h=>⟨h.1,fe.obs h.2⟩
 | .n _ _::_,h=>⟨h.1,fe.obs h.2⟩
def zj{α:Type}(P:Program)(f:Nat)(g:Func->Option α):Option α:=P.funcs[f]?.bind fun fn=>if fn.body.isSome then g fn else none
variable{f:Nat}
theorem KE{α:Type}{g:Func->Option α}{x:α}(h:zj P f g=some x):∃fn,P.funcs[f]?=some fn/\fn.body.isSome=true/\g fn=some x:=by
 unfold zj at h;rw[lA]at h;obtain⟨fn,h1,U⟩:=h;split at U
 ·exact⟨fn,h1,‹_›,U⟩
 cases U
variable{os:List O}
theorem fe.of{args rs:List cF}(h:fe P os)(k:(zj P f fun fn=>HM P (mI fn) fn.ntmps fn.results.toList args rs (kc os))=some (rs,j2 P os):=by kernel_rfl):h2 P f args rs:=by
 obtain⟨fn,h1,U,aw⟩:=KE k;exact h2.of _ _ h1 U aw h.obs
theorem fe.Ot{args:List GA}{rs:List cF}(h:fe P os)(k:(zj P f fun fn=>HK P (mI fn) fn.ntmps fn.results.toList args rs (kc os))=some (rs,args,j2 P os):=by kernel_rfl):kI P f args rs:=by
 obtain⟨fn,h1,U,aw⟩:=KE k;exact kI.of _ _ h1 U aw h.obs
theorem fe.b6{args:List aM}{r:aT}(h:fe P os)(k:(zj P f fun fn=>HL P (mI fn) fn.ntmps fn.results.toList args r (kc os))=some (r,args,j2 P os):=by kernel_rfl):bY P f args r:=by
 obtain⟨fn,h1,U,aw⟩:=KE k;exact bY.of _ _ h1 U aw h.obs
variable{st:aI}
theorem fe.aX{c:Code}{bp:aI}{e:hl}(cK bs:List Nat)(h:fe P os)(k:zd P c st (kc os) cK bs=some (e,bp,j2 P os):=by kernel_rfl):gl P c st e bp:=gl.HH k h.obs
theorem fe.pF{c:Code}{bp:aI}{e:hl}(ns:List (Nat×Nat×Nat))(cK bs:List Nat)(h:fe P os)(k:Hy P c st (kc os) ns cK bs=some (e,bp,j2 P os):=by kernel_rfl):gl P c st e bp:=gl.YK k h.obs
abbrev ae:=List (List D)
abbrev cl(a:ae)(b c:Int)(d e f g:ae):List D:=[.J 4 a,I b,I c,.J 8 d,.J 6 e,.J 5 f,.J 3 g]
abbrev bb(a b c d e f g h:ae):List D:=[.J 5 a,.J 5 b,.J 5 c,.J 4 d,.J 1 e,.J 1 f,.J 1 g,.J 2 h]
abbrev ch(a:Int)(b:ae)(c d e f:Int):List D:=[I a,.J 5 b,I c,I d,I e,I f]
abbrev bn(a b c d e:Int):List D:=[I a,I b,I c,I d,I e]
abbrev bj(a b c:Int)(d:ae):List D:=[I a,I b,I c,.J 1 d]
abbrev bq(a:ae)(b c:Int):List D:=[.J 4 a,I b,I c]
abbrev aO:Value:=.slice none 0 0
abbrev aY(n:Int):aJ:=.aK (.one (.v (.int .i64 n)))
abbrev dw(k:Nat)(l:ae):aJ:=.aK (.one (.J .free k l))
abbrev ax(n:Int):aB:=.v (.int .i64 n)
abbrev aQ(k:Nat):aJ:=.aK (.one (.ptr k 0))
abbrev aC(t k:Nat)(l:ae):aB:=.J (.own t) k l
abbrev af(x:Int):cF:=.one (I x)
abbrev ak(x:Bool):cF:=.one (B x)
abbrev aP(k:Nat)(l:ae):cF:=.one (.J k l)
def mO(P:Program)(ops:Array Oper)(A:List (List b9))(st:aI):aI:=runM P ops A (2 ^ ops.size-1) 0 ops.toList st
def BS{α:Type}:List Nat->List α->List (List α)
 | [],_=>[]
 | n::r,l=>l.take n::BS r (l.drop n)
theorem ei.nH{ops:Array Oper}{A:List (List b9)}{L:List Prop}(ns:List Nat)(aZ:cG L)(ai:(P.follows .mixedOrders&&qN (qw ops.toList []) ops.toList)=true:=by kernel_rfl)
  (he:yd P ops A st ops.size [0]=ye P ops A (BS ns L) st ops.size [0]:=by kernel_rfl) (al:(BS ns L).flatten=L:=by kernel_rfl):ei P ops st (mO P ops A st):=ei.of A (BS ns L) ai he rfl (al.symm▸aZ)
