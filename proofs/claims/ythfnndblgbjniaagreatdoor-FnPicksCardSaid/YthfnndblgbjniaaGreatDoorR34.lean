import Derived.Test.YthfnndblgbjniaaGreatDoorR22
import Derived.Test.YthfnndblgbjniaaGreatDoorR33
set_option linter.unusedVariables false
set_option linter.unusedSimpArgs false
namespace Go.Sx
open Go.RowKit
inductive O where
 | p (x:Prop)
 | b (x y:Bool)
 | e (l:List (List D)) (i:Nat) (ds:List D)
 | r (f:Nat) (args rs:List cJ)
 | l (Dm:List (Nat×Nat×Nat)) (fF boxes:List Nat) (c:Code) (st:aF) (e:hD) (bu:aF)
 | a (x:cd)
 | i (l:List (List D)) (n:Int) (ds:List D)
 | x (l:List (List D)) (n:Int) (ds:List D)
 | g (l m:List (List D)) (k:Nat)
 | u (n:Int)
 | v (n:Int)
 | f (l:List (List D)) (n:Int) (b:Bool)
 | h (l:List (List D))
 | n (x y:Bool)
def ft(P:Program):List O->Prop
 | []=>True
 | .p x::r=>x/\ft P r
 | .b x y::r=>x=y/\ft P r
 | .e l i ds::r=>l[i]?=some ds/\ft P r
 | .r f x y::r=>ie P f x y/\ft P r
 | .l _ _ _ c st e bu::r=>c6 P c st e bu/\ft P r
 | .a _::r=>ft P r
 | .i l n ds::r=>decide (n<(l.length:Int))=true/\0<=n/\n<(l.length:Int)/\l[n.toNat]?=some ds/\ft P r
 | .x l n ds::r=>0<=n/\n<(l.length:Int)/\l[n.toNat]?=some ds/\ft P r
 | .g l m k::r=>(l.length+m.length)*k<=140737488355328/\l.length+m.length<=9223372036854775807/\ft P r
 | .u n::r=>aK .i64 (n+1)/\ft P r
 | .v n::r=>aK .i64 n/\ft P r
 | .f l n b::r=>decide (n<(l.length:Int))=b/\ft P r
 | .h l::r=>Flat l/\ft P r
 | .n x y::r=>(!x)=y/\ft P r
def kz(P:Program):List O->List Prop
 | []=>[]
 | .p x::r=>x::kz P r
 | .b x y::r=>(x=y)::kz P r
 | .e l i ds::r=>(l[i]?=some ds)::kz P r
 | .r f x y::r=>ie P f x y::kz P r
 | .l _ _ _ c st e bu::r=>c6 P c st e bu::kz P r
 | .a _::r=>kz P r
 | .i l n ds::r=>(decide (n<(l.length:Int))=true)::(0<=n)::(n<(l.length:Int))::(l[n.toNat]?=some ds)::kz P r
 | .x l n ds::r=>(0<=n)::(n<(l.length:Int))::(l[n.toNat]?=some ds)::kz P r
 | .g l m k::r=>((l.length+m.length)*k<=140737488355328)::(l.length+m.length<=9223372036854775807)::kz P r
 | .u n::r=>aK .i64 (n+1)::kz P r
 | .v n::r=>aK .i64 n::kz P r
 | .f l n b::r=>(decide (n<(l.length:Int))=b)::kz P r
 | .h l::r=>Flat l::kz P r
 | .n x y::r=>((!x)=y)::kz P r
def kJ:List O->List cd
 | []=>[]
 | .p _::r=>kJ r
 | .b _ y::r=>.oT y::kJ r
 | .e _ _ ds::r=>.el ds::kJ r
 | .r _ _ y::r=>.res y::kJ r
 | .l n k b _ _ e bu::r=>.loop n k b e bu::kJ r
 | .a x::r=>x::kJ r
 | .i _ _ ds::r=>.oT true::.el ds::kJ r
 | .x _ _ ds::r=>.el ds::kJ r
 | .g _ _ _::r=>kJ r
 | .u _::r=>kJ r
 | .v _::r=>kJ r
 | .f _ _ b::r=>.oT b::kJ r
 | .h _::r=>kJ r
 | .n _ y::r=>.oT y::kJ r
variable{P:Program}
theorem ft.obs:∀{os:List O},ft P os->cK (kz P os)
 | [],_=>trivial
 | .p _::_,h=>⟨h.1,ft.obs h.2⟩
 | .b _ _::_,h=>⟨h.1,ft.obs h.2⟩
 | .e _ _ _::_,h=>⟨h.1,ft.obs h.2⟩
 | .r _ _ _::_,h=>⟨h.1,ft.obs h.2⟩
 | .l _ _ _ _ _ _ _::_,h=>⟨h.1,ft.obs h.2⟩
 | .a _::r,h=>ft.obs (os:=r) h
 | .i _ _ _::_,h=>⟨h.1,h.2.1,h.2.2.1,h.2.2.2.1,ft.obs h.2.2.2.2⟩
 | .x _ _ _::_,h=>⟨h.1,h.2.1,h.2.2.1,ft.obs h.2.2.2⟩
 | .g _ _ _::_,h=>⟨h.1,h.2.1,ft.obs h.2.2⟩
 | .u _::_,h=>⟨h.1,ft.obs h.2⟩
 | .v _::_,h=>⟨h.1,ft.obs h.2⟩
 | .f _ _ _::_,h=>⟨h.1,ft.obs h.2⟩
 | .h _::_,h=>⟨h.1,ft.obs h.2⟩
 | .n _ _::_,h=>⟨h.1,ft.obs h.2⟩
def zU{α:Type}(P:Program)(f:Nat)(g:Func->Option α):Option α:=P.funcs[f]?.bind fun fn=>if fn.body.isSome then g fn else none
variable{f:Nat}
theorem LX{α:Type}{g:Func->Option α}{x:α}(h:zU P f g=some x):∃fn,P.funcs[f]?=some fn/\fn.body.isSome=true/\g fn=some x:=by
 unfold zU at h;rw[mf]at h;obtain⟨fn,U,aa⟩:=h;split at aa
 ·exact⟨fn,U,‹_›,aa⟩
 cases aa
variable{os:List O}
theorem ft.of{args rs:List cJ}(h:ft P os)(k:(zU P f fun fn=>IS P (nA fn) fn.ntmps fn.results.toList args rs (kJ os))=some (rs,kz P os):=by kernel_rfl):ie P f args rs:=by
 obtain⟨fn,U,aa,aB⟩:=LX k;exact ie.of _ _ U aa aB h.obs
theorem ft.Pn{args:List GA}{rs:List cJ}(h:ft P os)(k:(zU P f fun fn=>IP P (nA fn) fn.ntmps fn.results.toList args rs (kJ os))=some (rs,args,kz P os):=by kernel_rfl):kl P f args rs:=by
 obtain⟨fn,U,aa,aB⟩:=LX k;exact kl.of _ _ U aa aB h.obs
theorem ft.b'{args:List aM}{r:aV}(h:ft P os)(k:(zU P f fun fn=>IQ P (nA fn) fn.ntmps fn.results.toList args r (kJ os))=some (r,args,kz P os):=by kernel_rfl):b3 P f args r:=by
 obtain⟨fn,U,aa,aB⟩:=LX k;exact b3.of _ _ U aa aB h.obs
variable{st:aF}
theorem ft.aT{c:Code}{bu:aF}{e:hD}(cQ bs:List Nat)(h:ft P os)(k:Dk P c st (kJ os) cQ bs=some (e,bu,kz P os):=by kernel_rfl):gP P c st e bu:=gP.Po k h.obs
theorem ft.oi{c:Code}{bu:aF}{e:hD}(ns:List (Nat×Nat×Nat))(cQ bs:List Nat)(h:ft P os)(k:IG P c st (kJ os) ns cQ bs=some (e,bu,kz P os):=by kernel_rfl):gP P c st e bu:=gP.aac k h.obs
abbrev af:=List (List D)
abbrev a8(a:af)(b c:Int)(d e f g:af):List D:=[.J 4 a,I b,I c,.J 8 d,.J 6 e,.J 5 f,.J 3 g]
abbrev aX(a b c d e f g h:af):List D:=[.J 5 a,.J 5 b,.J 5 c,.J 4 d,.J 1 e,.J 1 f,.J 1 g,.J 2 h]
abbrev bT(a:Int)(b:af)(c d e f:Int):List D:=[I a,.J 5 b,I c,I d,I e,I f]
abbrev bj(a b c d e:Int):List D:=[I a,I b,I c,I d,I e]
abbrev bk(a b c:Int)(d:af):List D:=[I a,I b,I c,.J 1 d]
abbrev bq(a:af)(b c:Int):List D:=[.J 4 a,I b,I c]
abbrev aP:Value:=.slice none 0 0
abbrev aU(n:Int):aG:=.aC (.one (.v (.int .i64 n)))
abbrev du(k:Nat)(l:af):aG:=.aC (.one (.J .free k l))
abbrev au(n:Int):aE:=.v (.int .i64 n)
abbrev aS(k:Nat):aG:=.aC (.one (.ptr k 0))
abbrev aw(t k:Nat)(l:af):aE:=.J (.own t) k l
abbrev ag(x:Int):cJ:=.one (I x)
abbrev ai(x:Bool):cJ:=.one (B x)
abbrev aO(k:Nat)(l:af):cJ:=.one (.J k l)
def nG(P:Program)(ops:Array Oper)(A:List (List cd))(st:aF):aF:=runM P ops A (2 ^ ops.size-1) 0 ops.toList st
def Cv{α:Type}:List Nat->List α->List (List α)
 | [],_=>[]
 | n::r,l=>l.take n::Cv r (l.drop n)
theorem ek.om{ops:Array Oper}{A:List (List cd)}{L:List Prop}(ns:List Nat)(bc:cK L)(ao:(P.follows .mixedOrders&&rp (ri ops.toList []) ops.toList)=true:=by kernel_rfl)
  (he:yR P ops A st ops.size [0]=yS P ops A (Cv ns L) st ops.size [0]:=by kernel_rfl) (ar:(Cv ns L).flatten=L:=by kernel_rfl):ek P ops st (nG P ops A st):=ek.of A (Cv ns L) ao he rfl (ar.symm▸bc)
