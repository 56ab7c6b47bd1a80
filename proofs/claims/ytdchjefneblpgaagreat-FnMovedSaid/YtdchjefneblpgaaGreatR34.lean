import Derived.Test.YtdchjefneblpgaaGreatR22
import Derived.Test.YtdchjefneblpgaaGreatR33
set_option linter.unusedVariables false
set_option linter.unusedSimpArgs false
namespace Go.Sx
open Go.RowKit
inductive O where
 | p (x:Prop)
 | b (x y:Bool)
 | e (l:List (List D)) (i:Nat) (ds:List D)
 | r (f:Nat) (args rs:List cF)
 | l (Cs:List (Nat×Nat×Nat)) (fh boxes:List Nat) (c:Code) (st:aH) (e:hb) (bp:aH)
 | a (x:b7)
 | i (l:List (List D)) (n:Int) (ds:List D)
 | x (l:List (List D)) (n:Int) (ds:List D)
 | g (l m:List (List D)) (k:Nat)
 | u (n:Int)
 | v (n:Int)
 | f (l:List (List D)) (n:Int) (b:Bool)
 | h (l:List (List D))
 | n (x y:Bool)
def fk(P:Program):List O->Prop
 | []=>True
 | .p x::r=>x/\fk P r
 | .b x y::r=>x=y/\fk P r
 | .e l i ds::r=>l[i]?=some ds/\fk P r
 | .r f x y::r=>im P f x y/\fk P r
 | .l _ _ _ c st e bp::r=>c0 P c st e bp/\fk P r
 | .a _::r=>fk P r
 | .i l n ds::r=>decide (n<(l.length:Int))=true/\0<=n/\n<(l.length:Int)/\l[n.toNat]?=some ds/\fk P r
 | .x l n ds::r=>0<=n/\n<(l.length:Int)/\l[n.toNat]?=some ds/\fk P r
 | .g l m k::r=>(l.length+m.length)*k<=140737488355328/\l.length+m.length<=9223372036854775807/\fk P r
 | .u n::r=>az .i64 (n+1)/\fk P r
 | .v n::r=>az .i64 n/\fk P r
 | .f l n b::r=>decide (n<(l.length:Int))=b/\fk P r
 | .h l::r=>Flat l/\fk P r
 | .n x y::r=>(!x)=y/\fk P r
def kc(P:Program):List O->List Prop
 | []=>[]
 | .p x::r=>x::kc P r
 | .b x y::r=>(x=y)::kc P r
 | .e l i ds::r=>(l[i]?=some ds)::kc P r
 | .r f x y::r=>im P f x y::kc P r
 | .l _ _ _ c st e bp::r=>c0 P c st e bp::kc P r
 | .a _::r=>kc P r
 | .i l n ds::r=>(decide (n<(l.length:Int))=true)::(0<=n)::(n<(l.length:Int))::(l[n.toNat]?=some ds)::kc P r
 | .x l n ds::r=>(0<=n)::(n<(l.length:Int))::(l[n.toNat]?=some ds)::kc P r
 | .g l m k::r=>((l.length+m.length)*k<=140737488355328)::(l.length+m.length<=9223372036854775807)::kc P r
 | .u n::r=>az .i64 (n+1)::kc P r
 | .v n::r=>az .i64 n::kc P r
 | .f l n b::r=>(decide (n<(l.length:Int))=b)::kc P r
 | .h l::r=>Flat l::kc P r
 | .n x y::r=>((!x)=y)::kc P r
def kj:List O->List b7
 | []=>[]
 | .p _::r=>kj r
 | .b _ y::r=>.od y::kj r
 | .e _ _ ds::r=>.el ds::kj r
 | .r _ _ y::r=>.res y::kj r
 | .l n k b _ _ e bp::r=>.loop n k b e bp::kj r
 | .a x::r=>x::kj r
 | .i _ _ ds::r=>.od true::.el ds::kj r
 | .x _ _ ds::r=>.el ds::kj r
 | .g _ _ _::r=>kj r
 | .u _::r=>kj r
 | .v _::r=>kj r
 | .f _ _ b::r=>.od b::kj r
 | .h _::r=>kj r
 | .n _ y::r=>.od y::kj r
variable{P:Program}
theorem fk.obs:∀{os:List O},fk P os->cE (kc P os)
 | [],_=>trivial
 | .p _::_,h=>⟨h.1,fk.obs h.2⟩
 | .b _ _::_,h=>⟨h.1,fk.obs h.2⟩
 | .e _ _ _::_,h=>⟨h.1,fk.obs h.2⟩
 | .r _ _ _::_,h=>⟨h.1,fk.obs h.2⟩
 | .l _ _ _ _ _ _ _::_,h=>⟨h.1,fk.obs h.2⟩
 | .a _::r,h=>fk.obs (os:=r) h
 | .i _ _ _::_,h=>⟨h.1,h.2.1,h.2.2.1,h.2.2.2.1,fk.obs h.2.2.2.2⟩
 | .x _ _ _::_,h=>⟨h.1,h.2.1,h.2.2.1,fk.obs h.2.2.2⟩
 | .g _ _ _::_,h=>⟨h.1,h.2.1,fk.obs h.2.2⟩
 | .u _::_,h=>⟨h.1,fk.obs h.2⟩
 | .v _::_,h=>⟨h.1,fk.obs h.2⟩
 | .f _ _ _::_,h=>⟨h.1,fk.obs h.2⟩
 | .h _::_,h=>⟨h.1,fk.obs h.2⟩
 | .n _ _::_,h=>⟨h.1,fk.obs h.2⟩
def Cw{α:Type}(P:Program)(f:Nat)(g:Func->Option α):Option α:=P.funcs[f]?.bind fun fn=>if fn.body.isSome then g fn else none
variable{f:Nat}
theorem TN{α:Type}{g:Func->Option α}{x:α}(h:Cw P f g=some x):∃fn,P.funcs[f]?=some fn/\fn.body.isSome=true/\g fn=some x:=by
 unfold Cw at h;rw[lv]at h;obtain⟨fn,h1,U⟩:=h;split at U
 ·exact⟨fn,h1,‹_›,U⟩
 cases U
variable{os:List O}
theorem fk.of{args rs:List cF}(h:fk P os)(k:(Cw P f fun fn=>HL P (nQ fn) fn.ntmps fn.results.toList args rs (kj os))=some (rs,kc P os):=by kernel_rfl):im P f args rs:=by
 obtain⟨fn,h1,U,ax⟩:=TN k;exact im.of _ _ h1 U ax h.obs
theorem fk.b5{args:List aM}{r:aS}(h:fk P os)(k:(Cw P f fun fn=>HK P (nQ fn) fn.ntmps fn.results.toList args r (kj os))=some (r,args,kc P os):=by kernel_rfl):bT P f args r:=by
 obtain⟨fn,h1,U,ax⟩:=TN k;exact bT.of _ _ h1 U ax h.obs
variable{st:aH}
theorem fk.aW{c:Code}{bp:aH}{e:hb}(cH bs:List Nat)(h:fk P os)(k:zn P c st (kj os) cH bs=some (e,bp,kc P os):=by kernel_rfl):fz P c st e bp:=fz.HI k h.obs
theorem fk.pO{c:Code}{bp:aH}{e:hb}(ns:List (Nat×Nat×Nat))(cH bs:List Nat)(h:fk P os)(k:HA P c st (kj os) ns cH bs=some (e,bp,kc P os):=by kernel_rfl):fz P c st e bp:=fz.YC k h.obs
abbrev af:=List (List D)
abbrev cl(a:af)(b c:Int)(d e f g:af):List D:=[.J 4 a,I b,I c,.J 8 d,.J 6 e,.J 5 f,.J 3 g]
abbrev ba(a b c d e f g h:af):List D:=[.J 5 a,.J 5 b,.J 5 c,.J 4 d,.J 1 e,.J 1 f,.J 1 g,.J 2 h]
abbrev bO(a:Int)(b:af)(c d e f:Int):List D:=[I a,.J 5 b,I c,I d,I e,I f]
abbrev bi(a b c d e:Int):List D:=[I a,I b,I c,I d,I e]
abbrev bk(a b c:Int)(d:af):List D:=[I a,I b,I c,.J 1 d]
abbrev bD(a:af)(b c:Int):List D:=[.J 4 a,I b,I c]
abbrev aO:Value:=.slice none 0 0
abbrev aZ(n:Int):aI:=.aJ (.one (.v (.int .i64 n)))
abbrev dJ(k:Nat)(l:af):aI:=.aJ (.one (.J .free k l))
abbrev aw(n:Int):aB:=.v (.int .i64 n)
abbrev aR(k:Nat):aI:=.aJ (.one (.ptr k 0))
abbrev aG(t k:Nat)(l:af):aB:=.J (.own t) k l
abbrev ae(x:Int):cF:=.one (I x)
abbrev ao(x:Bool):cF:=.one (B x)
abbrev a7(k:Nat)(l:af):cF:=.one (.J k l)
def mP(P:Program)(ops:Array Oper)(A:List (List b7))(st:aH):aH:=runM P ops A (2 ^ ops.size-1) 0 ops.toList st
def BS{α:Type}:List Nat->List α->List (List α)
 | [],_=>[]
 | n::r,l=>l.take n::BS r (l.drop n)
theorem ee.nH{ops:Array Oper}{A:List (List b7)}{L:List Prop}(ns:List Nat)(aX:cE L)(ah:(P.follows .mixedOrders&&qL (qJ ops.toList []) ops.toList)=true:=by kernel_rfl)
  (he:yl P ops A st ops.size [0]=ym P ops A (BS ns L) st ops.size [0]:=by kernel_rfl) (ak:(BS ns L).flatten=L:=by kernel_rfl):ee P ops st (mP P ops A st):=ee.of A (BS ns L) ah he rfl (ak.symm▸aX)
