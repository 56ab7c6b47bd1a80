import Derived.Test.YtdchjefneblpgaaGreatR22
import Derived.Test.YtdchjefneblpgaaGreatR33
set_option linter.unusedVariables false
set_option linter.unusedSimpArgs false
namespace Go.Sx
open Go.RowKit
inductive O where
 | p (x:Prop)
 | b (x y:Bool)
 | e (l:List (List D)) (i:Nat) (ds:List D)
 | r (f:Nat) (args rs:List cP)
 | l (Fx:List (Nat×Nat×Nat)) (e3 boxes:List Nat) (c:Code) (st:aC) (e:hV) (bz:aC)
 | a (x:cd)
 | i (l:List (List D)) (n:Int) (ds:List D)
 | x (l:List (List D)) (n:Int) (ds:List D)
 | g (l m:List (List D)) (k:Nat)
 | u (n:Int)
 | v (n:Int)
 | f (l:List (List D)) (n:Int) (b:Bool)
 | h (l:List (List D))
 | n (x y:Bool)
def fL(P:Program):List O->Prop
 | []=>True
 | .p x::r=>x/\fL P r
 | .b x y::r=>x=y/\fL P r
 | .e l i ds::r=>l[i]?=some ds/\fL P r
 | .r f x y::r=>iV P f x y/\fL P r
 | .l _ _ _ c st e bz::r=>c8 P c st e bz/\fL P r
 | .a _::r=>fL P r
 | .i l n ds::r=>decide (n<(l.length:Int))=true/\0<=n/\n<(l.length:Int)/\l[n.toNat]?=some ds/\fL P r
 | .x l n ds::r=>0<=n/\n<(l.length:Int)/\l[n.toNat]?=some ds/\fL P r
 | .g l m k::r=>(l.length+m.length)*k<=140737488355328/\l.length+m.length<=9223372036854775807/\fL P r
 | .u n::r=>aL .i64 (n+1)/\fL P r
 | .v n::r=>aL .i64 n/\fL P r
 | .f l n b::r=>decide (n<(l.length:Int))=b/\fL P r
 | .h l::r=>Flat l/\fL P r
 | .n x y::r=>(!x)=y/\fL P r
def k9(P:Program):List O->List Prop
 | []=>[]
 | .p x::r=>x::k9 P r
 | .b x y::r=>(x=y)::k9 P r
 | .e l i ds::r=>(l[i]?=some ds)::k9 P r
 | .r f x y::r=>iV P f x y::k9 P r
 | .l _ _ _ c st e bz::r=>c8 P c st e bz::k9 P r
 | .a _::r=>k9 P r
 | .i l n ds::r=>(decide (n<(l.length:Int))=true)::(0<=n)::(n<(l.length:Int))::(l[n.toNat]?=some ds)::k9 P r
 | .x l n ds::r=>(0<=n)::(n<(l.length:Int))::(l[n.toNat]?=some ds)::k9 P r
 | .g l m k::r=>((l.length+m.length)*k<=140737488355328)::(l.length+m.length<=9223372036854775807)::k9 P r
 | .u n::r=>aL .i64 (n+1)::k9 P r
 | .v n::r=>aL .i64 n::k9 P r
 | .f l n b::r=>(decide (n<(l.length:Int))=b)::k9 P r
 | .h l::r=>Flat l::k9 P r
 | .n x y::r=>((!x)=y)::k9 P r
def lm:List O->List cd
 | []=>[]
 | .p _::r=>lm r
 | .b _ y::r=>.pZ y::lm r
 | .e _ _ ds::r=>.el ds::lm r
 | .r _ _ y::r=>.res y::lm r
 | .l n k b _ _ e bz::r=>.loop n k b e bz::lm r
 | .a x::r=>x::lm r
 | .i _ _ ds::r=>.pZ true::.el ds::lm r
 | .x _ _ ds::r=>.el ds::lm r
 | .g _ _ _::r=>lm r
 | .u _::r=>lm r
 | .v _::r=>lm r
 | .f _ _ b::r=>.pZ b::lm r
 | .h _::r=>lm r
 | .n _ y::r=>.pZ y::lm r
variable{P:Program}
theorem fL.obs:∀{os:List O},fL P os->cQ (k9 P os)
 | [],_=>trivial
 | .p _::_,h=>⟨h.1,fL.obs h.2⟩
 | .b _ _::_,h=>⟨h.1,fL.obs h.2⟩
 | .e _ _ _::_,h=>⟨h.1,fL.obs h.2⟩
 | .r _ _ _::_,h=>⟨h.1,fL.obs h.2⟩
 | .l _ _ _ _ _ _ _::_,h=>⟨h.1,fL.obs h.2⟩
 | .a _::r,h=>fL.obs (os:=r) h
 | .i _ _ _::_,h=>⟨h.1,h.2.1,h.2.2.1,h.2.2.2.1,fL.obs h.2.2.2.2⟩
 | .x _ _ _::_,h=>⟨h.1,h.2.1,h.2.2.1,fL.obs h.2.2.2⟩
 | .g _ _ _::_,h=>⟨h.1,h.2.1,fL.obs h.2.2⟩
 | .u _::_,h=>⟨h.1,fL.obs h.2⟩
 | .v _::_,h=>⟨h.1,fL.obs h.2⟩
 | .f _ _ _::_,h=>⟨h.1,fL.obs h.2⟩
 | .h _::_,h=>⟨h.1,fL.obs h.2⟩
 | .n _ _::_,h=>⟨h.1,fL.obs h.2⟩
def Cc{α:Type}(P:Program)(f:Nat)(g:Func->Option α):Option α:=P.funcs[f]?.bind fun fn=>if fn.body.isSome then g fn else none
variable{f:Nat}
theorem Pk{α:Type}{g:Func->Option α}{x:α}(h:Cc P f g=some x):∃fn,P.funcs[f]?=some fn/\fn.body.isSome=true/\g fn=some x:=by
 unfold Cc at h;rw[nn]at h;obtain⟨fn,h1,U⟩:=h;split at U
 ·exact⟨fn,h1,‹_›,U⟩
 cases U
variable{os:List O}
theorem fL.of{args rs:List cP}(h:fL P os)(k:(Cc P f fun fn=>Ld P (oy fn) fn.ntmps fn.results.toList args rs (lm os))=some (rs,k9 P os):=by kernel_rfl):iV P f args rs:=by
 obtain⟨fn,h1,U,aA⟩:=Pk k;exact iV.of _ _ h1 U aA h.obs
theorem fL.Sg{args:List GA}{rs:List cP}(h:fL P os)(k:(Cc P f fun fn=>Lb P (oy fn) fn.ntmps fn.results.toList args rs (lm os))=some (rs,args,k9 P os):=by kernel_rfl):kY P f args rs:=by
 obtain⟨fn,h1,U,aA⟩:=Pk k;exact kY.of _ _ h1 U aA h.obs
theorem fL.cb{args:List aM}{r:aY}(h:fL P os)(k:(Cc P f fun fn=>Lc P (oy fn) fn.ntmps fn.results.toList args r (lm os))=some (r,args,k9 P os):=by kernel_rfl):b2 P f args r:=by
 obtain⟨fn,h1,U,aA⟩:=Pk k;exact b2.of _ _ h1 U aA h.obs
variable{st:aC}
theorem fL.aS{c:Code}{bz:aC}{e:hV}(cT bs:List Nat)(h:fL P os)(k:B6 P c st (lm os) cT bs=some (e,bz,k9 P os):=by kernel_rfl):fX P c st e bz:=fX.K' k h.obs
theorem fL.pf{c:Code}{bz:aC}{e:hV}(ns:List (Nat×Nat×Nat))(cT bs:List Nat)(h:fL P os)(k:K3 P c st (lm os) ns cT bs=some (e,bz,k9 P os):=by kernel_rfl):fX P c st e bz:=fX.aeb k h.obs
abbrev ag:=List (List D)
abbrev cl(a:ag)(b c:Int)(d e f g:ag):List D:=[.J 4 a,I b,I c,.J 8 d,.J 6 e,.J 5 f,.J 3 g]
abbrev aW(a b c d e f g h:ag):List D:=[.J 5 a,.J 5 b,.J 5 c,.J 4 d,.J 1 e,.J 1 f,.J 1 g,.J 2 h]
abbrev bY(a:Int)(b:ag)(c d e f:Int):List D:=[I a,.J 5 b,I c,I d,I e,I f]
abbrev bh(a b c d e:Int):List D:=[I a,I b,I c,I d,I e]
abbrev bp(a b c:Int)(d:ag):List D:=[I a,I b,I c,.J 1 d]
abbrev br(a:ag)(b c:Int):List D:=[.J 4 a,I b,I c]
abbrev aN:Value:=.slice none 0 0
abbrev aU(n:Int):aI:=.aG (.one (.v (.int .i64 n)))
abbrev dB(k:Nat)(l:ag):aI:=.aG (.one (.J .free k l))
abbrev au(n:Int):aF:=.v (.int .i64 n)
abbrev aR(k:Nat):aI:=.aG (.one (.ptr k 0))
abbrev aB(t k:Nat)(l:ag):aF:=.J (.own t) k l
abbrev ae(x:Int):cP:=.one (I x)
abbrev aj(x:Bool):cP:=.one (B x)
abbrev aO(k:Nat)(l:ag):cP:=.one (.J k l)
def oD(P:Program)(ops:Array Oper)(A:List (List cd))(st:aC):aC:=runM P ops A (2 ^ ops.size-1) 0 ops.toList st
def EK{α:Type}:List Nat->List α->List (List α)
 | [],_=>[]
 | n::r,l=>l.take n::EK r (l.drop n)
theorem eK.pj{ops:Array Oper}{A:List (List cd)}{L:List Prop}(ns:List Nat)(a7:cQ L)(ak:(P.follows .mixedOrders&&sQ (sB ops.toList []) ops.toList)=true:=by kernel_rfl)
  (he:A6 P ops A st ops.size [0]=A7 P ops A (EK ns L) st ops.size [0]:=by kernel_rfl) (al:(EK ns L).flatten=L:=by kernel_rfl):eK P ops st (oD P ops A st):=eK.of A (EK ns L) ak he rfl (al.symm▸a7)
