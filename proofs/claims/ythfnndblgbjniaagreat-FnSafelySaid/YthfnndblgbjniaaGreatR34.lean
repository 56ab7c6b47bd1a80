import Derived.Test.YthfnndblgbjniaaGreatR22
import Derived.Test.YthfnndblgbjniaaGreatR33
set_option linter.unusedVariables false
set_option linter.unusedSimpArgs false
namespace Go.Sx
open Go.RowKit
inductive O where
 | p (x:Prop)
 | b (x y:Bool)
 | e (l:List (List D)) (i:Nat) (ds:List D)
 | r (f:Nat) (args rs:List cR)
 | l (F0:List (Nat×Nat×Nat)) (e9 boxes:List Nat) (c:Code) (st:aD) (e:h3) (bG:aD)
 | a (x:cf)
 | i (l:List (List D)) (n:Int) (ds:List D)
 | x (l:List (List D)) (n:Int) (ds:List D)
 | g (l m:List (List D)) (k:Nat)
 | u (n:Int)
 | v (n:Int)
 | f (l:List (List D)) (n:Int) (b:Bool)
 | h (l:List (List D))
 | n (x y:Bool)
def fR(P:Program):List O->Prop
 | []=>True
 | .p x::r=>x/\fR P r
 | .b x y::r=>x=y/\fR P r
 | .e l i ds::r=>l[i]?=some ds/\fR P r
 | .r f x y::r=>iF P f x y/\fR P r
 | .l _ _ _ c st e bG::r=>c8 P c st e bG/\fR P r
 | .a _::r=>fR P r
 | .i l n ds::r=>decide (n<(l.length:Int))=true/\0<=n/\n<(l.length:Int)/\l[n.toNat]?=some ds/\fR P r
 | .x l n ds::r=>0<=n/\n<(l.length:Int)/\l[n.toNat]?=some ds/\fR P r
 | .g l m k::r=>(l.length+m.length)*k<=140737488355328/\l.length+m.length<=9223372036854775807/\fR P r
 | .u n::r=>aL .i64 (n+1)/\fR P r
 | .v n::r=>aL .i64 n/\fR P r
 | .f l n b::r=>decide (n<(l.length:Int))=b/\fR P r
 | .h l::r=>Flat l/\fR P r
 | .n x y::r=>(!x)=y/\fR P r
def lo(P:Program):List O->List Prop
 | []=>[]
 | .p x::r=>x::lo P r
 | .b x y::r=>(x=y)::lo P r
 | .e l i ds::r=>(l[i]?=some ds)::lo P r
 | .r f x y::r=>iF P f x y::lo P r
 | .l _ _ _ c st e bG::r=>c8 P c st e bG::lo P r
 | .a _::r=>lo P r
 | .i l n ds::r=>(decide (n<(l.length:Int))=true)::(0<=n)::(n<(l.length:Int))::(l[n.toNat]?=some ds)::lo P r
 | .x l n ds::r=>(0<=n)::(n<(l.length:Int))::(l[n.toNat]?=some ds)::lo P r
 | .g l m k::r=>((l.length+m.length)*k<=140737488355328)::(l.length+m.length<=9223372036854775807)::lo P r
 | .u n::r=>aL .i64 (n+1)::lo P r
 | .v n::r=>aL .i64 n::lo P r
 | .f l n b::r=>(decide (n<(l.length:Int))=b)::lo P r
 | .h l::r=>Flat l::lo P r
 | .n x y::r=>((!x)=y)::lo P r
def lE:List O->List cf
 | []=>[]
 | .p _::r=>lE r
 | .b _ y::r=>.qb y::lE r
 | .e _ _ ds::r=>.el ds::lE r
 | .r _ _ y::r=>.res y::lE r
 | .l n k b _ _ e bG::r=>.loop n k b e bG::lE r
 | .a x::r=>x::lE r
 | .i _ _ ds::r=>.qb true::.el ds::lE r
 | .x _ _ ds::r=>.el ds::lE r
 | .g _ _ _::r=>lE r
 | .u _::r=>lE r
 | .v _::r=>lE r
 | .f _ _ b::r=>.qb b::lE r
 | .h _::r=>lE r
 | .n _ y::r=>.qb y::lE r
variable{P:Program}
theorem fR.obs:∀{os:List O},fR P os->cO (lo P os)
 | [],_=>trivial
 | .p _::_,h=>⟨h.1,fR.obs h.2⟩
 | .b _ _::_,h=>⟨h.1,fR.obs h.2⟩
 | .e _ _ _::_,h=>⟨h.1,fR.obs h.2⟩
 | .r _ _ _::_,h=>⟨h.1,fR.obs h.2⟩
 | .l _ _ _ _ _ _ _::_,h=>⟨h.1,fR.obs h.2⟩
 | .a _::r,h=>fR.obs (os:=r) h
 | .i _ _ _::_,h=>⟨h.1,h.2.1,h.2.2.1,h.2.2.2.1,fR.obs h.2.2.2.2⟩
 | .x _ _ _::_,h=>⟨h.1,h.2.1,h.2.2.1,fR.obs h.2.2.2⟩
 | .g _ _ _::_,h=>⟨h.1,h.2.1,fR.obs h.2.2⟩
 | .u _::_,h=>⟨h.1,fR.obs h.2⟩
 | .v _::_,h=>⟨h.1,fR.obs h.2⟩
 | .f _ _ _::_,h=>⟨h.1,fR.obs h.2⟩
 | .h _::_,h=>⟨h.1,fR.obs h.2⟩
 | .n _ _::_,h=>⟨h.1,fR.obs h.2⟩
def Cy{α:Type}(P:Program)(f:Nat)(g:Func->Option α):Option α:=P.funcs[f]?.bind fun fn=>if fn.body.isSome then g fn else none
variable{f:Nat}
theorem PN{α:Type}{g:Func->Option α}{x:α}(h:Cy P f g=some x):∃fn,P.funcs[f]?=some fn/\fn.body.isSome=true/\g fn=some x:=by
 unfold Cy at h;rw[nB]at h;obtain⟨fn,h1,U⟩:=h;split at U
 ·exact⟨fn,h1,‹_›,U⟩
 cases U
variable{os:List O}
theorem fR.of{args rs:List cR}(h:fR P os)(k:(Cy P f fun fn=>LR P (oU fn) fn.ntmps fn.results.toList args rs (lE os))=some (rs,lo P os):=by kernel_rfl):iF P f args rs:=by
 obtain⟨fn,h1,U,aA⟩:=PN k;exact iF.of _ _ h1 U aA h.obs
theorem fR.Tm{args:List GA}{rs:List cR}(h:fR P os)(k:(Cy P f fun fn=>LP P (oU fn) fn.ntmps fn.results.toList args rs (lE os))=some (rs,args,lo P os):=by kernel_rfl):ks P f args rs:=by
 obtain⟨fn,h1,U,aA⟩:=PN k;exact ks.of _ _ h1 U aA h.obs
theorem fR.cc{args:List aM}{r:a1}(h:fR P os)(k:(Cy P f fun fn=>LQ P (oU fn) fn.ntmps fn.results.toList args r (lE os))=some (r,args,lo P os):=by kernel_rfl):b4 P f args r:=by
 obtain⟨fn,h1,U,aA⟩:=PN k;exact b4.of _ _ h1 U aA h.obs
variable{st:aD}
theorem fR.aQ{c:Code}{bG:aD}{e:h3}(cV bs:List Nat)(h:fR P os)(k:Cr P c st (lE os) cV bs=some (e,bG,lo P os):=by kernel_rfl):fS P c st e bG:=fS.LN k h.obs
theorem fR.rK{c:Code}{bG:aD}{e:h3}(ns:List (Nat×Nat×Nat))(cV bs:List Nat)(h:fR P os)(k:LF P c st (lE os) ns cV bs=some (e,bG,lo P os):=by kernel_rfl):fS P c st e bG:=fS.afB k h.obs
abbrev af:=List (List D)
abbrev cl(a:af)(b c:Int)(d e f g:af):List D:=[.J 4 a,I b,I c,.J 8 d,.J 6 e,.J 5 f,.J 3 g]
abbrev aX(a b c d e f g h:af):List D:=[.J 5 a,.J 5 b,.J 5 c,.J 4 d,.J 1 e,.J 1 f,.J 1 g,.J 2 h]
abbrev bU(a:Int)(b:af)(c d e f:Int):List D:=[I a,.J 5 b,I c,I d,I e,I f]
abbrev bi(a b c d e:Int):List D:=[I a,I b,I c,I d,I e]
abbrev br(a b c:Int)(d:af):List D:=[I a,I b,I c,.J 1 d]
abbrev bz(a:af)(b c:Int):List D:=[.J 4 a,I b,I c]
abbrev aR:Value:=.slice none 0 0
abbrev aT(n:Int):aI:=.aF (.one (.v (.int .i64 n)))
abbrev dW(k:Nat)(l:af):aI:=.aF (.one (.J .free k l))
abbrev av(n:Int):aG:=.v (.int .i64 n)
abbrev aS(k:Nat):aI:=.aF (.one (.ptr k 0))
abbrev aB(t k:Nat)(l:af):aG:=.J (.own t) k l
abbrev ae(x:Int):cR:=.one (I x)
abbrev ak(x:Bool):cR:=.one (B x)
abbrev aP(k:Nat)(l:af):cR:=.one (.J k l)
def ny(P:Program)(ops:Array Oper)(A:List (List cf))(st:aD):aD:=runM P ops A (2 ^ ops.size-1) 0 ops.toList st
def Fc{α:Type}:List Nat->List α->List (List α)
 | [],_=>[]
 | n::r,l=>l.take n::Fc r (l.drop n)
theorem ey.nV{ops:Array Oper}{A:List (List cf)}{L:List Prop}(ns:List Nat)(a8:cO L)(ai:(P.follows .mixedOrders&&tj (sW ops.toList []) ops.toList)=true:=by kernel_rfl)
  (he:Bq P ops A st ops.size [0]=Br P ops A (Fc ns L) st ops.size [0]:=by kernel_rfl) (al:(Fc ns L).flatten=L:=by kernel_rfl):ey P ops st (ny P ops A st):=ey.of A (Fc ns L) ai he rfl (al.symm▸a8)
