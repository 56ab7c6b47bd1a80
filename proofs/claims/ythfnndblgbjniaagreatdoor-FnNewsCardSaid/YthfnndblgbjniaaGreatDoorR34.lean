import Derived.Test.YthfnndblgbjniaaGreatDoorR22
import Derived.Test.YthfnndblgbjniaaGreatDoorR33
set_option linter.unusedVariables false
set_option linter.unusedSimpArgs false
namespace Go.Sx
open Go.RowKit
inductive O where
 | p (x:Prop)
 | b (x y:Bool)
 | e (l:List (List D)) (i:Nat) (ds:List D)
 | r (f:Nat) (args rs:List cE)
 | l (Br:List (Nat×Nat×Nat)) (fa boxes:List Nat) (c:Code) (st:aD) (e:gQ) (bl:aD)
 | a (x:b')
 | i (l:List (List D)) (n:Int) (ds:List D)
 | x (l:List (List D)) (n:Int) (ds:List D)
 | g (l m:List (List D)) (k:Nat)
 | u (n:Int)
 | v (n:Int)
 | f (l:List (List D)) (n:Int) (b:Bool)
 | h (l:List (List D))
 | n (x y:Bool)
def e8(P:Program):List O->Prop
 | []=>True
 | .p x::r=>x/\e8 P r
 | .b x y::r=>x=y/\e8 P r
 | .e l i ds::r=>l[i]?=some ds/\e8 P r
 | .r f x y::r=>hI P f x y/\e8 P r
 | .l _ _ _ c st e bl::r=>c0 P c st e bl/\e8 P r
 | .a _::r=>e8 P r
 | .i l n ds::r=>decide (n<(l.length:Int))=true/\0<=n/\n<(l.length:Int)/\l[n.toNat]?=some ds/\e8 P r
 | .x l n ds::r=>0<=n/\n<(l.length:Int)/\l[n.toNat]?=some ds/\e8 P r
 | .g l m k::r=>(l.length+m.length)*k<=140737488355328/\l.length+m.length<=9223372036854775807/\e8 P r
 | .u n::r=>aK .i64 (n+1)/\e8 P r
 | .v n::r=>aK .i64 n/\e8 P r
 | .f l n b::r=>decide (n<(l.length:Int))=b/\e8 P r
 | .h l::r=>Flat l/\e8 P r
 | .n x y::r=>(!x)=y/\e8 P r
def jz(P:Program):List O->List Prop
 | []=>[]
 | .p x::r=>x::jz P r
 | .b x y::r=>(x=y)::jz P r
 | .e l i ds::r=>(l[i]?=some ds)::jz P r
 | .r f x y::r=>hI P f x y::jz P r
 | .l _ _ _ c st e bl::r=>c0 P c st e bl::jz P r
 | .a _::r=>jz P r
 | .i l n ds::r=>(decide (n<(l.length:Int))=true)::(0<=n)::(n<(l.length:Int))::(l[n.toNat]?=some ds)::jz P r
 | .x l n ds::r=>(0<=n)::(n<(l.length:Int))::(l[n.toNat]?=some ds)::jz P r
 | .g l m k::r=>((l.length+m.length)*k<=140737488355328)::(l.length+m.length<=9223372036854775807)::jz P r
 | .u n::r=>aK .i64 (n+1)::jz P r
 | .v n::r=>aK .i64 n::jz P r
 | .f l n b::r=>(decide (n<(l.length:Int))=b)::jz P r
 | .h l::r=>Flat l::jz P r
 | .n x y::r=>((!x)=y)::jz P r
def jO:List O->List b'
 | []=>[]
 | .p _::r=>jO r
 | .b _ y::r=>.na y::jO r
 | .e _ _ ds::r=>.el ds::jO r
 | .r _ _ y::r=>.res y::jO r
 | .l n k b _ _ e bl::r=>.loop n k b e bl::jO r
 | .a x::r=>x::jO r
 | .i _ _ ds::r=>.na true::.el ds::jO r
 | .x _ _ ds::r=>.el ds::jO r
 | .g _ _ _::r=>jO r
 | .u _::r=>jO r
 | .v _::r=>jO r
 | .f _ _ b::r=>.na b::jO r
 | .h _::r=>jO r
 | .n _ y::r=>.na y::jO r
variable{P:Program}
theorem e8.obs:∀{os:List O},e8 P os->cv (jz P os)
 | [],_=>trivial
 | .p _::_,h=>⟨h.1,e8.obs h.2⟩
 | .b _ _::_,h=>⟨h.1,e8.obs h.2⟩
 | .e _ _ _::_,h=>⟨h.1,e8.obs h.2⟩
 | .r _ _ _::_,h=>⟨h.1,e8.obs h.2⟩
 | .l _ _ _ _ _ _ _::_,h=>⟨h.1,e8.obs h.2⟩
 | .a _::r,h=>e8.obs (os:=r) h
 | .i _ _ _::_,h=>⟨h.1,h.2.1,h.2.2.1,h.2.2.2.1,e8.obs h.2.2.2.2⟩
 | .x _ _ _::_,h=>⟨h.1,h.2.1,h.2.2.1,e8.obs h.2.2.2⟩
 | .g _ _ _::_,h=>⟨h.1,h.2.1,e8.obs h.2.2⟩
 | .u _::_,h=>⟨h.1,e8.obs h.2⟩
 | .v _::_,h=>⟨h.1,e8.obs h.2⟩
 | .f _ _ _::_,h=>⟨h.1,e8.obs h.2⟩
 | .h _::_,h=>⟨h.1,e8.obs h.2⟩
 | .n _ _::_,h=>⟨h.1,e8.obs h.2⟩
def Bv{α:Type}(P:Program)(f:Nat)(g:Func->Option α):Option α:=P.funcs[f]?.bind fun fn=>if fn.body.isSome then g fn else none
variable{f:Nat}
theorem SZ{α:Type}{g:Func->Option α}{x:α}(h:Bv P f g=some x):∃fn,P.funcs[f]?=some fn/\fn.body.isSome=true/\g fn=some x:=by
 unfold Bv at h;rw[kW]at h;obtain⟨fn,U,aa⟩:=h;split at aa
 ·exact⟨fn,U,‹_›,aa⟩
 cases aa
variable{os:List O}
theorem e8.of{args rs:List cE}(h:e8 P os)(k:(Bv P f fun fn=>GQ P (mL fn) fn.ntmps fn.results.toList args rs (jO os))=some (rs,jz P os):=by kernel_rfl):hI P f args rs:=by
 obtain⟨fn,U,aa,aA⟩:=SZ k;exact hI.of _ _ U aa aA h.obs
theorem e8.b6{args:List aJ}{r:aS}(h:e8 P os)(k:(Bv P f fun fn=>GO P (mL fn) fn.ntmps fn.results.toList args r (jO os))=some (r,args,jz P os):=by kernel_rfl):bP P f args r:=by
 obtain⟨fn,U,aa,aA⟩:=SZ k;exact bP.of _ _ U aa aA h.obs
variable{st:aD}
theorem e8.aV{c:Code}{bl:aD}{e:gQ}(cK bs:List Nat)(h:e8 P os)(k:Bp P c st (jO os) cK bs=some (e,bl,jz P os):=by kernel_rfl):fJ P c st e bl:=fJ.Nl k h.obs
theorem e8.oK{c:Code}{bl:aD}{e:gQ}(ns:List (Nat×Nat×Nat))(cK bs:List Nat)(h:e8 P os)(k:GD P c st (jO os) ns cK bs=some (e,bl,jz P os):=by kernel_rfl):fJ P c st e bl:=fJ.Xk k h.obs
abbrev ae:=List (List D)
abbrev bI(a:ae)(b c:Int)(d e f g:ae):List D:=[.J 4 a,I b,I c,.J 8 d,.J 6 e,.J 5 f,.J 3 g]
abbrev bf(a b c d e f g h:ae):List D:=[.J 5 a,.J 5 b,.J 5 c,.J 4 d,.J 1 e,.J 1 f,.J 1 g,.J 2 h]
abbrev ck(a:Int)(b:ae)(c d e f:Int):List D:=[I a,.J 5 b,I c,I d,I e,I f]
abbrev bw(a b c d e:Int):List D:=[I a,I b,I c,I d,I e]
abbrev bi(a b c:Int)(d:ae):List D:=[I a,I b,I c,.J 1 d]
abbrev bC(a:ae)(b c:Int):List D:=[.J 4 a,I b,I c]
abbrev aL:Value:=.slice none 0 0
abbrev aU(n:Int):aE:=.az (.one (.v (.int .i64 n)))
abbrev cQ(k:Nat)(l:ae):aE:=.az (.one (.J .free k l))
abbrev ak(n:Int):aC:=.v (.int .i64 n)
abbrev aN(k:Nat):aE:=.az (.one (.ptr k 0))
abbrev al(t k:Nat)(l:ae):aC:=.J (.own t) k l
abbrev ag(x:Int):cE:=.one (I x)
abbrev ar(x:Bool):cE:=.one (B x)
abbrev aY(k:Nat)(l:ae):cE:=.one (.J k l)
def jC(P:Program)(ops:Array Oper)(A:List (List b'))(st:aD):aD:=runM P ops A (2 ^ ops.size-1) 0 ops.toList st
def AK{α:Type}:List Nat->List α->List (List α)
 | [],_=>[]
 | n::r,l=>l.take n::AK r (l.drop n)
theorem dm.jU{ops:Array Oper}{A:List (List b')}{L:List Prop}(ns:List Nat)(a6:cv L)(ap:(P.follows .mixedOrders&&qb (pV ops.toList []) ops.toList)=true:=by kernel_rfl)
  (he:xl P ops A st ops.size [0]=xm P ops A (AK ns L) st ops.size [0]:=by kernel_rfl) (au:(AK ns L).flatten=L:=by kernel_rfl):dm P ops st (jC P ops A st):=dm.of A (AK ns L) ap he rfl (au.symm▸a6)
