import Derived.Test.YtdchjefneblpgaaGreatR22
import Derived.Test.YtdchjefneblpgaaGreatR33
set_option linter.unusedVariables false
set_option linter.unusedSimpArgs false
namespace Go.Sx
open Go.RowKit
inductive O where
 | p (x:Prop)
 | b (x y:Bool)
 | e (l:List (List D)) (i:Nat) (ds:List D)
 | r (f:Nat) (args rs:List cz)
 | l (B8:List (Nat×Nat×Nat)) (fe boxes:List Nat) (c:Code) (st:aD) (e:gQ) (bn:aD)
 | a (x:b4)
 | i (l:List (List D)) (n:Int) (ds:List D)
 | x (l:List (List D)) (n:Int) (ds:List D)
 | g (l m:List (List D)) (k:Nat)
 | u (n:Int)
 | v (n:Int)
 | f (l:List (List D)) (n:Int) (b:Bool)
 | h (l:List (List D))
 | n (x y:Bool)
def e3(P:Program):List O->Prop
 | []=>True
 | .p x::r=>x/\e3 P r
 | .b x y::r=>x=y/\e3 P r
 | .e l i ds::r=>l[i]?=some ds/\e3 P r
 | .r f x y::r=>hA P f x y/\e3 P r
 | .l _ _ _ c st e bn::r=>cV P c st e bn/\e3 P r
 | .a _::r=>e3 P r
 | .i l n ds::r=>decide (n<(l.length:Int))=true/\0<=n/\n<(l.length:Int)/\l[n.toNat]?=some ds/\e3 P r
 | .x l n ds::r=>0<=n/\n<(l.length:Int)/\l[n.toNat]?=some ds/\e3 P r
 | .g l m k::r=>(l.length+m.length)*k<=140737488355328/\l.length+m.length<=9223372036854775807/\e3 P r
 | .u n::r=>aI .i64 (n+1)/\e3 P r
 | .v n::r=>aI .i64 n/\e3 P r
 | .f l n b::r=>decide (n<(l.length:Int))=b/\e3 P r
 | .h l::r=>Flat l/\e3 P r
 | .n x y::r=>(!x)=y/\e3 P r
def jD(P:Program):List O->List Prop
 | []=>[]
 | .p x::r=>x::jD P r
 | .b x y::r=>(x=y)::jD P r
 | .e l i ds::r=>(l[i]?=some ds)::jD P r
 | .r f x y::r=>hA P f x y::jD P r
 | .l _ _ _ c st e bn::r=>cV P c st e bn::jD P r
 | .a _::r=>jD P r
 | .i l n ds::r=>(decide (n<(l.length:Int))=true)::(0<=n)::(n<(l.length:Int))::(l[n.toNat]?=some ds)::jD P r
 | .x l n ds::r=>(0<=n)::(n<(l.length:Int))::(l[n.toNat]?=some ds)::jD P r
 | .g l m k::r=>((l.length+m.length)*k<=140737488355328)::(l.length+m.length<=9223372036854775807)::jD P r
 | .u n::r=>aI .i64 (n+1)::jD P r
 | .v n::r=>aI .i64 n::jD P r
 | .f l n b::r=>(decide (n<(l.length:Int))=b)::jD P r
 | .h l::r=>Flat l::jD P r
 | .n x y::r=>((!x)=y)::jD P r
def jO:List O->List b4
 | []=>[]
 | .p _::r=>jO r
 | .b _ y::r=>.nI y::jO r
 | .e _ _ ds::r=>.el ds::jO r
 | .r _ _ y::r=>.res y::jO r
 | .l n k b _ _ e bn::r=>.loop n k b e bn::jO r
 | .a x::r=>x::jO r
 | .i _ _ ds::r=>.nI true::.el ds::jO r
 | .x _ _ ds::r=>.el ds::jO r
 | .g _ _ _::r=>jO r
 | .u _::r=>jO r
 | .v _::r=>jO r
 | .f _ _ b::r=>.nI b::jO r
 | .h _::r=>jO r
 | .n _ y::r=>.nI y::jO r
variable{P:Program}
theorem e3.obs:∀{os:List O},e3 P os->cA (jD P os)
 | [],_=>trivial
 | .p _::_,h=>⟨h.1,e3.obs h.2⟩
 | .b _ _::_,h=>⟨h.1,e3.obs h.2⟩
 | .e _ _ _::_,h=>⟨h.1,e3.obs h.2⟩
 | .r _ _ _::_,h=>⟨h.1,e3.obs h.2⟩
 | .l _ _ _ _ _ _ _::_,h=>⟨h.1,e3.obs h.2⟩
 | .a _::r,h=>e3.obs (os:=r) h
 | .i _ _ _::_,h=>⟨h.1,h.2.1,h.2.2.1,h.2.2.2.1,e3.obs h.2.2.2.2⟩
 | .x _ _ _::_,h=>⟨h.1,h.2.1,h.2.2.1,e3.obs h.2.2.2⟩
 | .g _ _ _::_,h=>⟨h.1,h.2.1,e3.obs h.2.2⟩
 | .u _::_,h=>⟨h.1,e3.obs h.2⟩
 | .v _::_,h=>⟨h.1,e3.obs h.2⟩
 | .f _ _ _::_,h=>⟨h.1,e3.obs h.2⟩
 | .h _::_,h=>⟨h.1,e3.obs h.2⟩
 | .n _ _::_,h=>⟨h.1,e3.obs h.2⟩
def yQ{α:Type}(P:Program)(f:Nat)(g:Func->Option α):Option α:=P.funcs[f]?.bind fun fn=>if fn.body.isSome then g fn else none
variable{f:Nat}
theorem KA{α:Type}{g:Func->Option α}{x:α}(h:yQ P f g=some x):∃fn,P.funcs[f]?=some fn/\fn.body.isSome=true/\g fn=some x:=by
 unfold yQ at h;rw[la]at h;obtain⟨fn,h1,U⟩:=h;split at U
 ·exact⟨fn,h1,‹_›,U⟩
 cases U
variable{os:List O}
theorem e3.of{args rs:List cz}(h:e3 P os)(k:(yQ P f fun fn=>Hm P (me fn) fn.ntmps fn.results.toList args rs (jO os))=some (rs,jD P os):=by kernel_rfl):hA P f args rs:=by
 obtain⟨fn,h1,U,ax⟩:=KA k;exact hA.of _ _ h1 U ax h.obs
theorem e3.NT{args:List GA}{rs:List cz}(h:e3 P os)(k:(yQ P f fun fn=>Hk P (me fn) fn.ntmps fn.results.toList args rs (jO os))=some (rs,args,jD P os):=by kernel_rfl):kj P f args rs:=by
 obtain⟨fn,h1,U,ax⟩:=KA k;exact kj.of _ _ h1 U ax h.obs
theorem e3.b1{args:List aL}{r:aT}(h:e3 P os)(k:(yQ P f fun fn=>Hl P (me fn) fn.ntmps fn.results.toList args r (jO os))=some (r,args,jD P os):=by kernel_rfl):bT P f args r:=by
 obtain⟨fn,h1,U,ax⟩:=KA k;exact bT.of _ _ h1 U ax h.obs
variable{st:aD}
theorem e3.aV{c:Code}{bn:aD}{e:gQ}(cG bs:List Nat)(h:e3 P os)(k:B6 P c st (jO os) cG bs=some (e,bn,jD P os):=by kernel_rfl):gf P c st e bn:=gf.NU k h.obs
theorem e3.pd{c:Code}{bn:aD}{e:gQ}(ns:List (Nat×Nat×Nat))(cG bs:List Nat)(h:e3 P os)(k:Ha P c st (jO os) ns cG bs=some (e,bn,jD P os):=by kernel_rfl):gf P c st e bn:=gf.X7 k h.obs
abbrev ae:=List (List D)
abbrev cl(a:ae)(b c:Int)(d e f g:ae):List D:=[.J 4 a,I b,I c,.J 8 d,.J 6 e,.J 5 f,.J 3 g]
abbrev ba(a b c d e f g h:ae):List D:=[.J 5 a,.J 5 b,.J 5 c,.J 4 d,.J 1 e,.J 1 f,.J 1 g,.J 2 h]
abbrev cd(a:Int)(b:ae)(c d e f:Int):List D:=[I a,.J 5 b,I c,I d,I e,I f]
abbrev bj(a b c d e:Int):List D:=[I a,I b,I c,I d,I e]
abbrev bf(a b c:Int)(d:ae):List D:=[I a,I b,I c,.J 1 d]
abbrev bk(a:ae)(b c:Int):List D:=[.J 4 a,I b,I c]
abbrev aO:Value:=.slice none 0 0
abbrev aW(n:Int):aE:=.aF (.one (.v (.int .i64 n)))
abbrev dj(k:Nat)(l:ae):aE:=.aF (.one (.J .free k l))
abbrev au(n:Int):az:=.v (.int .i64 n)
abbrev aQ(k:Nat):aE:=.aF (.one (.ptr k 0))
abbrev aA(t k:Nat)(l:ae):az:=.J (.own t) k l
abbrev af(x:Int):cz:=.one (I x)
abbrev ag(x:Bool):cz:=.one (B x)
abbrev aP(k:Nat)(l:ae):cz:=.one (.J k l)
def ml(P:Program)(ops:Array Oper)(A:List (List b4))(st:aD):aD:=runM P ops A (2 ^ ops.size-1) 0 ops.toList st
def Bm{α:Type}:List Nat->List α->List (List α)
 | [],_=>[]
 | n::r,l=>l.take n::Bm r (l.drop n)
theorem dZ.m'{ops:Array Oper}{A:List (List b4)}{L:List Prop}(ns:List Nat)(aZ:cA L)(al:(P.follows .mixedOrders&&qw (qf ops.toList []) ops.toList)=true:=by kernel_rfl)
  (he:xO P ops A st ops.size [0]=xP P ops A (Bm ns L) st ops.size [0]:=by kernel_rfl) (ap:(Bm ns L).flatten=L:=by kernel_rfl):dZ P ops st (ml P ops A st):=dZ.of A (Bm ns L) al he rfl (ap.symm▸aZ)
