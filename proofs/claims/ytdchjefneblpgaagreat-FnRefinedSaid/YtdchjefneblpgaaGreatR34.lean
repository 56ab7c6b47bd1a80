import Derived.Test.YtdchjefneblpgaaGreatR22
import Derived.Test.YtdchjefneblpgaaGreatR33
set_option linter.unusedVariables false
set_option linter.unusedSimpArgs false
namespace Go.Sx
open Go.RowKit
inductive O where
 | p (x:Prop)
 | b (x y:Bool)
 | e (l:List (List D)) (i:Nat) (ds:List D)
 | r (f:Nat) (args rs:List cQ)
 | l (EG:List (Nat×Nat×Nat)) (fU boxes:List Nat) (c:Code) (st:aJ) (e:hY) (bC:aJ)
 | a (x:cf)
 | i (l:List (List D)) (n:Int) (ds:List D)
 | x (l:List (List D)) (n:Int) (ds:List D)
 | g (l m:List (List D)) (k:Nat)
 | u (n:Int)
 | v (n:Int)
 | f (l:List (List D)) (n:Int) (b:Bool)
 | h (l:List (List D))
 | n (x y:Bool)
def fS(P:Program):List O->Prop
 | []=>True
 | .p x::r=>x/\fS P r
 | .b x y::r=>x=y/\fS P r
 | .e l i ds::r=>l[i]?=some ds/\fS P r
 | .r f x y::r=>jn P f x y/\fS P r
 | .l _ _ _ c st e bC::r=>c5 P c st e bC/\fS P r
 | .a _::r=>fS P r
 | .i l n ds::r=>decide (n<(l.length:Int))=true/\0<=n/\n<(l.length:Int)/\l[n.toNat]?=some ds/\fS P r
 | .x l n ds::r=>0<=n/\n<(l.length:Int)/\l[n.toNat]?=some ds/\fS P r
 | .g l m k::r=>(l.length+m.length)*k<=140737488355328/\l.length+m.length<=9223372036854775807/\fS P r
 | .u n::r=>aD .i64 (n+1)/\fS P r
 | .v n::r=>aD .i64 n/\fS P r
 | .f l n b::r=>decide (n<(l.length:Int))=b/\fS P r
 | .h l::r=>Flat l/\fS P r
 | .n x y::r=>(!x)=y/\fS P r
def lj(P:Program):List O->List Prop
 | []=>[]
 | .p x::r=>x::lj P r
 | .b x y::r=>(x=y)::lj P r
 | .e l i ds::r=>(l[i]?=some ds)::lj P r
 | .r f x y::r=>jn P f x y::lj P r
 | .l _ _ _ c st e bC::r=>c5 P c st e bC::lj P r
 | .a _::r=>lj P r
 | .i l n ds::r=>(decide (n<(l.length:Int))=true)::(0<=n)::(n<(l.length:Int))::(l[n.toNat]?=some ds)::lj P r
 | .x l n ds::r=>(0<=n)::(n<(l.length:Int))::(l[n.toNat]?=some ds)::lj P r
 | .g l m k::r=>((l.length+m.length)*k<=140737488355328)::(l.length+m.length<=9223372036854775807)::lj P r
 | .u n::r=>aD .i64 (n+1)::lj P r
 | .v n::r=>aD .i64 n::lj P r
 | .f l n b::r=>(decide (n<(l.length:Int))=b)::lj P r
 | .h l::r=>Flat l::lj P r
 | .n x y::r=>((!x)=y)::lj P r
def lu:List O->List cf
 | []=>[]
 | .p _::r=>lu r
 | .b _ y::r=>.pN y::lu r
 | .e _ _ ds::r=>.el ds::lu r
 | .r _ _ y::r=>.res y::lu r
 | .l n k b _ _ e bC::r=>.loop n k b e bC::lu r
 | .a x::r=>x::lu r
 | .i _ _ ds::r=>.pN true::.el ds::lu r
 | .x _ _ ds::r=>.el ds::lu r
 | .g _ _ _::r=>lu r
 | .u _::r=>lu r
 | .v _::r=>lu r
 | .f _ _ b::r=>.pN b::lu r
 | .h _::r=>lu r
 | .n _ y::r=>.pN y::lu r
variable{P:Program}
theorem fS.obs:∀{os:List O},fS P os->cL (lj P os)
 | [],_=>trivial
 | .p _::_,h=>⟨h.1,fS.obs h.2⟩
 | .b _ _::_,h=>⟨h.1,fS.obs h.2⟩
 | .e _ _ _::_,h=>⟨h.1,fS.obs h.2⟩
 | .r _ _ _::_,h=>⟨h.1,fS.obs h.2⟩
 | .l _ _ _ _ _ _ _::_,h=>⟨h.1,fS.obs h.2⟩
 | .a _::r,h=>fS.obs (os:=r) h
 | .i _ _ _::_,h=>⟨h.1,h.2.1,h.2.2.1,h.2.2.2.1,fS.obs h.2.2.2.2⟩
 | .x _ _ _::_,h=>⟨h.1,h.2.1,h.2.2.1,fS.obs h.2.2.2⟩
 | .g _ _ _::_,h=>⟨h.1,h.2.1,fS.obs h.2.2⟩
 | .u _::_,h=>⟨h.1,fS.obs h.2⟩
 | .v _::_,h=>⟨h.1,fS.obs h.2⟩
 | .f _ _ _::_,h=>⟨h.1,fS.obs h.2⟩
 | .h _::_,h=>⟨h.1,fS.obs h.2⟩
 | .n _ _::_,h=>⟨h.1,fS.obs h.2⟩
def BH{α:Type}(P:Program)(f:Nat)(g:Func->Option α):Option α:=P.funcs[f]?.bind fun fn=>if fn.body.isSome then g fn else none
variable{f:Nat}
theorem Ot{α:Type}{g:Func->Option α}{x:α}(h:BH P f g=some x):∃fn,P.funcs[f]?=some fn/\fn.body.isSome=true/\g fn=some x:=by
 unfold BH at h;rw[ni]at h;obtain⟨fn,h1,U⟩:=h;split at U
 ·exact⟨fn,h1,‹_›,U⟩
 cases U
variable{os:List O}
theorem fS.of{args rs:List cQ}(h:fS P os)(k:(BH P f fun fn=>KA P (oC fn) fn.ntmps fn.results.toList args rs (lu os))=some (rs,lj P os):=by kernel_rfl):jn P f args rs:=by
 obtain⟨fn,h1,U,ax⟩:=Ot k;exact jn.of _ _ h1 U ax h.obs
theorem fS.Sg{args:List GA}{rs:List cQ}(h:fS P os)(k:(BH P f fun fn=>Ky P (oC fn) fn.ntmps fn.results.toList args rs (lu os))=some (rs,args,lj P os):=by kernel_rfl):jo P f args rs:=by
 obtain⟨fn,h1,U,ax⟩:=Ot k;exact jo.of _ _ h1 U ax h.obs
theorem fS.ca{args:List aN}{r:aU}(h:fS P os)(k:(BH P f fun fn=>Kz P (oC fn) fn.ntmps fn.results.toList args r (lu os))=some (r,args,lj P os):=by kernel_rfl):bW P f args r:=by
 obtain⟨fn,h1,U,ax⟩:=Ot k;exact bW.of _ _ h1 U ax h.obs
variable{st:aJ}
theorem fS.aY{c:Code}{bC:aJ}{e:hY}(cT bs:List Nat)(h:fS P os)(k:BA P c st (lu os) cT bs=some (e,bC,lj P os):=by kernel_rfl):fT P c st e bC:=fT.Kw k h.obs
theorem fS.q'{c:Code}{bC:aJ}{e:hY}(ns:List (Nat×Nat×Nat))(cT bs:List Nat)(h:fS P os)(k:Kn P c st (lu os) ns cT bs=some (e,bC,lj P os):=by kernel_rfl):fT P c st e bC:=fT.adN k h.obs
abbrev ae:=List (List D)
abbrev cl(a:ae)(b c:Int)(d e f g:ae):List D:=[.J 4 a,I b,I c,.J 8 d,.J 6 e,.J 5 f,.J 3 g]
abbrev aW(a b c d e f g h:ae):List D:=[.J 5 a,.J 5 b,.J 5 c,.J 4 d,.J 1 e,.J 1 f,.J 1 g,.J 2 h]
abbrev bZ(a:Int)(b:ae)(c d e f:Int):List D:=[I a,.J 5 b,I c,I d,I e,I f]
abbrev aS(a b c d e:Int):List D:=[I a,I b,I c,I d,I e]
abbrev bt(a b c:Int)(d:ae):List D:=[I a,I b,I c,.J 1 d]
abbrev bA(a:ae)(b c:Int):List D:=[.J 4 a,I b,I c]
abbrev aQ:Value:=.slice none 0 0
abbrev a6(n:Int):aL:=.aI (.one (.v (.int .i64 n)))
abbrev dO(k:Nat)(l:ae):aL:=.aI (.one (.J .free k l))
abbrev au(n:Int):aH:=.v (.int .i64 n)
abbrev aR(k:Nat):aL:=.aI (.one (.ptr k 0))
abbrev aB(t k:Nat)(l:ae):aH:=.J (.own t) k l
abbrev ag(x:Int):cQ:=.one (I x)
abbrev ai(x:Bool):cQ:=.one (B x)
abbrev aC(k:Nat)(l:ae):cQ:=.one (.J k l)
def mx(P:Program)(ops:Array Oper)(A:List (List cf))(st:aJ):aJ:=runM P ops A (2 ^ ops.size-1) 0 ops.toList st
def D0{α:Type}:List Nat->List α->List (List α)
 | [],_=>[]
 | n::r,l=>l.take n::D0 r (l.drop n)
theorem et.mQ{ops:Array Oper}{A:List (List cf)}{L:List Prop}(ns:List Nat)(ba:cL L)(aj:(P.follows .mixedOrders&&ss (sh ops.toList []) ops.toList)=true:=by kernel_rfl)
  (he:Az P ops A st ops.size [0]=AA P ops A (D0 ns L) st ops.size [0]:=by kernel_rfl) (ap:(D0 ns L).flatten=L:=by kernel_rfl):et P ops st (mx P ops A st):=et.of A (D0 ns L) aj he rfl (ap.symm▸ba)
