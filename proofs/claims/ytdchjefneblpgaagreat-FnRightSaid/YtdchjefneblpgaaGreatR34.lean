import Derived.Test.YtdchjefneblpgaaGreatR22
import Derived.Test.YtdchjefneblpgaaGreatR33
set_option linter.unusedVariables false
set_option linter.unusedSimpArgs false
namespace Go.Sx
open Go.RowKit
inductive O where
 | p (x:Prop)
 | b (x y:Bool)
 | e (l:List (List D)) (i:Nat) (ds:List D)
 | r (f:Nat) (args rs:List cL)
 | l (Gp:List (Nat×Nat×Nat)) (eU boxes:List Nat) (c:Code) (st:aD) (e:hA) (bB:aD)
 | a (x:cb)
 | i (l:List (List D)) (n:Int) (ds:List D)
 | x (l:List (List D)) (n:Int) (ds:List D)
 | g (l m:List (List D)) (k:Nat)
 | u (n:Int)
 | v (n:Int)
 | f (l:List (List D)) (n:Int) (b:Bool)
 | h (l:List (List D))
 | n (x y:Bool)
def fD(P:Program):List O->Prop
 | []=>True
 | .p x::r=>x/\fD P r
 | .b x y::r=>x=y/\fD P r
 | .e l i ds::r=>l[i]?=some ds/\fD P r
 | .r f x y::r=>ji P f x y/\fD P r
 | .l _ _ _ c st e bB::r=>cN P c st e bB/\fD P r
 | .a _::r=>fD P r
 | .i l n ds::r=>decide (n<(l.length:Int))=true/\0<=n/\n<(l.length:Int)/\l[n.toNat]?=some ds/\fD P r
 | .x l n ds::r=>0<=n/\n<(l.length:Int)/\l[n.toNat]?=some ds/\fD P r
 | .g l m k::r=>(l.length+m.length)*k<=140737488355328/\l.length+m.length<=9223372036854775807/\fD P r
 | .u n::r=>aJ .i64 (n+1)/\fD P r
 | .v n::r=>aJ .i64 n/\fD P r
 | .f l n b::r=>decide (n<(l.length:Int))=b/\fD P r
 | .h l::r=>Flat l/\fD P r
 | .n x y::r=>(!x)=y/\fD P r
def ly(P:Program):List O->List Prop
 | []=>[]
 | .p x::r=>x::ly P r
 | .b x y::r=>(x=y)::ly P r
 | .e l i ds::r=>(l[i]?=some ds)::ly P r
 | .r f x y::r=>ji P f x y::ly P r
 | .l _ _ _ c st e bB::r=>cN P c st e bB::ly P r
 | .a _::r=>ly P r
 | .i l n ds::r=>(decide (n<(l.length:Int))=true)::(0<=n)::(n<(l.length:Int))::(l[n.toNat]?=some ds)::ly P r
 | .x l n ds::r=>(0<=n)::(n<(l.length:Int))::(l[n.toNat]?=some ds)::ly P r
 | .g l m k::r=>((l.length+m.length)*k<=140737488355328)::(l.length+m.length<=9223372036854775807)::ly P r
 | .u n::r=>aJ .i64 (n+1)::ly P r
 | .v n::r=>aJ .i64 n::ly P r
 | .f l n b::r=>(decide (n<(l.length:Int))=b)::ly P r
 | .h l::r=>Flat l::ly P r
 | .n x y::r=>((!x)=y)::ly P r
def lK:List O->List cb
 | []=>[]
 | .p _::r=>lK r
 | .b _ y::r=>.qa y::lK r
 | .e _ _ ds::r=>.el ds::lK r
 | .r _ _ y::r=>.res y::lK r
 | .l n k b _ _ e bB::r=>.loop n k b e bB::lK r
 | .a x::r=>x::lK r
 | .i _ _ ds::r=>.qa true::.el ds::lK r
 | .x _ _ ds::r=>.el ds::lK r
 | .g _ _ _::r=>lK r
 | .u _::r=>lK r
 | .v _::r=>lK r
 | .f _ _ b::r=>.qa b::lK r
 | .h _::r=>lK r
 | .n _ y::r=>.qa y::lK r
variable{P:Program}
theorem fD.obs:∀{os:List O},fD P os->c8 (ly P os)
 | [],_=>trivial
 | .p _::_,h=>⟨h.1,fD.obs h.2⟩
 | .b _ _::_,h=>⟨h.1,fD.obs h.2⟩
 | .e _ _ _::_,h=>⟨h.1,fD.obs h.2⟩
 | .r _ _ _::_,h=>⟨h.1,fD.obs h.2⟩
 | .l _ _ _ _ _ _ _::_,h=>⟨h.1,fD.obs h.2⟩
 | .a _::r,h=>fD.obs (os:=r) h
 | .i _ _ _::_,h=>⟨h.1,h.2.1,h.2.2.1,h.2.2.2.1,fD.obs h.2.2.2.2⟩
 | .x _ _ _::_,h=>⟨h.1,h.2.1,h.2.2.1,fD.obs h.2.2.2⟩
 | .g _ _ _::_,h=>⟨h.1,h.2.1,fD.obs h.2.2⟩
 | .u _::_,h=>⟨h.1,fD.obs h.2⟩
 | .v _::_,h=>⟨h.1,fD.obs h.2⟩
 | .f _ _ _::_,h=>⟨h.1,fD.obs h.2⟩
 | .h _::_,h=>⟨h.1,fD.obs h.2⟩
 | .n _ _::_,h=>⟨h.1,fD.obs h.2⟩
def CN{α:Type}(P:Program)(f:Nat)(g:Func->Option α):Option α:=P.funcs[f]?.bind fun fn=>if fn.body.isSome then g fn else none
variable{f:Nat}
theorem PM{α:Type}{g:Func->Option α}{x:α}(h:CN P f g=some x):∃fn,P.funcs[f]?=some fn/\fn.body.isSome=true/\g fn=some x:=by
 unfold CN at h;rw[nM]at h;obtain⟨fn,h1,U⟩:=h;split at U
 ·exact⟨fn,h1,‹_›,U⟩
 cases U
variable{os:List O}
theorem fD.of{args rs:List cL}(h:fD P os)(k:(CN P f fun fn=>L1 P (oR fn) fn.ntmps fn.results.toList args rs (lK os))=some (rs,ly P os):=by kernel_rfl):ji P f args rs:=by
 obtain⟨fn,h1,U,aA⟩:=PM k;exact ji.of _ _ h1 U aA h.obs
theorem fD.Tc{args:List GA}{rs:List cL}(h:fD P os)(k:(CN P f fun fn=>LZ P (oR fn) fn.ntmps fn.results.toList args rs (lK os))=some (rs,args,ly P os):=by kernel_rfl):lk P f args rs:=by
 obtain⟨fn,h1,U,aA⟩:=PM k;exact lk.of _ _ h1 U aA h.obs
theorem fD.cX{args:List a7}{r:bi}(h:fD P os)(k:(CN P f fun fn=>L0 P (oR fn) fn.ntmps fn.results.toList args r (lK os))=some (r,args,ly P os):=by kernel_rfl):cH P f args r:=by
 obtain⟨fn,h1,U,aA⟩:=PM k;exact cH.of _ _ h1 U aA h.obs
variable{st:aD}
theorem fD.aQ{c:Code}{bB:aD}{e:hA}(cS bs:List Nat)(h:fD P os)(k:CF P c st (lK os) cS bs=some (e,bB,ly P os):=by kernel_rfl):gi P c st e bB:=gi.LX k h.obs
theorem fD.uu{c:Code}{bB:aD}{e:hA}(ns:List (Nat×Nat×Nat))(cS bs:List Nat)(h:fD P os)(k:LO P c st (lK os) ns cS bs=some (e,bB,ly P os):=by kernel_rfl):gi P c st e bB:=gi.aeX k h.obs
abbrev ah:=List (List D)
abbrev cl(a:ah)(b c:Int)(d e f g:ah):List D:=[.J 4 a,I b,I c,.J 8 d,.J 6 e,.J 5 f,.J 3 g]
abbrev bb(a b c d e f g h:ah):List D:=[.J 5 a,.J 5 b,.J 5 c,.J 4 d,.J 1 e,.J 1 f,.J 1 g,.J 2 h]
abbrev b'(a:Int)(b:ah)(c d e f:Int):List D:=[I a,.J 5 b,I c,I d,I e,I f]
abbrev bz(a b c d e:Int):List D:=[I a,I b,I c,I d,I e]
abbrev bj(a b c:Int)(d:ah):List D:=[I a,I b,I c,.J 1 d]
abbrev bg(a:ah)(b c:Int):List D:=[.J 4 a,I b,I c]
abbrev aS:Value:=.slice none 0 0
abbrev aY(n:Int):aH:=.aR (.one (.v (.int .i64 n)))
abbrev c6(k:Nat)(l:ah):aH:=.aR (.one (.J .free k l))
abbrev az(n:Int):aG:=.v (.int .i64 n)
abbrev a1(k:Nat):aH:=.aR (.one (.ptr k 0))
abbrev aK(t k:Nat)(l:ah):aG:=.J (.own t) k l
abbrev ag(x:Int):cL:=.one (I x)
abbrev ak(x:Bool):cL:=.one (B x)
abbrev aE(k:Nat)(l:ah):cL:=.one (.J k l)
def yQ(P:Program)(ops:Array Oper)(A:List (List cb))(st:aD):aD:=runM P ops A (2 ^ ops.size-1) 0 ops.toList st
def Fq{α:Type}:List Nat->List α->List (List α)
 | [],_=>[]
 | n::r,l=>l.take n::Fq r (l.drop n)
theorem h7.zQ{ops:Array Oper}{A:List (List cb)}{L:List Prop}(ns:List Nat)(aW:c8 L)(al:(P.follows .mixedOrders&&sY (sV ops.toList []) ops.toList)=true:=by kernel_rfl)
  (he:BE P ops A st ops.size [0]=BF P ops A (Fq ns L) st ops.size [0]:=by kernel_rfl) (aj:(Fq ns L).flatten=L:=by kernel_rfl):h7 P ops st (yQ P ops A st):=h7.of A (Fq ns L) al he rfl (aj.symm▸aW)
