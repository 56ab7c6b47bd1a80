import Derived.Test.YtdkobdhckkjmeaaGreatR22
import Derived.Test.YtdkobdhckkjmeaaGreatR33
set_option linter.unusedVariables false
set_option linter.unusedSimpArgs false
namespace Go.Sx
open Go.RowKit
inductive O where
 | p (x:Prop)
 | b (x y:Bool)
 | e (l:List (List D)) (i:Nat) (ds:List D)
 | r (f:Nat) (args rs:List AD)
 | l (nils:List (Nat×Nat×Nat)) (keep boxes:List Nat) (c:Code) (st:St) (e:Ex) (st':St)
 | a (x:Ans)
 | i (l:List (List D)) (n:Int) (ds:List D)
 | x (l:List (List D)) (n:Int) (ds:List D)
 | g (l m:List (List D)) (k:Nat)
 | u (n:Int)
 | v (n:Int)
 | f (l:List (List D)) (n:Int) (b:Bool)
 | h (l:List (List D))
 | n (x y:Bool)
def OB(P:Program):List O→Prop
 | []=>True
 | .p x::r=>x∧OB P r
 | .b x y::r=>x=y∧OB P r
 | .e l i ds::r=>l[i]?=some ds∧OB P r
 | .r f x y::r=>Ret P f x y∧OB P r
 | .l _ _ _ c st e st'::r=>qam P c st e st'∧OB P r
 | .a _::r=>OB P r
 | .i l n ds::r=>decide (n<(l.length:Int))=true∧0≤n∧n<(l.length:Int)∧l[n.toNat]?=some ds∧OB P r
 | .x l n ds::r=>0≤n∧n<(l.length:Int)∧l[n.toNat]?=some ds∧OB P r
 | .g l m k::r=>(l.length+m.length)*k≤140737488355328∧l.length+m.length≤9223372036854775807∧OB P r
 | .u n::r=>inInt .i64 (n+1)∧OB P r
 | .v n::r=>inInt .i64 n∧OB P r
 | .f l n b::r=>decide (n<(l.length:Int))=b∧OB P r
 | .h l::r=>Flat l∧OB P r
 | .n x y::r=>(!x)=y∧OB P r
def props(P:Program):List O→List Prop
 | []=>[]
 | .p x::r=>x::props P r
 | .b x y::r=>(x=y)::props P r
 | .e l i ds::r=>(l[i]?=some ds)::props P r
 | .r f x y::r=>Ret P f x y::props P r
 | .l _ _ _ c st e st'::r=>qam P c st e st'::props P r
 | .a _::r=>props P r
 | .i l n ds::r=>(decide (n<(l.length:Int))=true)::(0≤n)::(n<(l.length:Int))::(l[n.toNat]?=some ds)::props P r
 | .x l n ds::r=>(0≤n)::(n<(l.length:Int))::(l[n.toNat]?=some ds)::props P r
 | .g l m k::r=>((l.length+m.length)*k≤140737488355328)::(l.length+m.length≤9223372036854775807)::props P r
 | .u n::r=>inInt .i64 (n+1)::props P r
 | .v n::r=>inInt .i64 n::props P r
 | .f l n b::r=>(decide (n<(l.length:Int))=b)::props P r
 | .h l::r=>Flat l::props P r
 | .n x y::r=>((!x)=y)::props P r
def anss:List O→List Ans
 | []=>[]
 | .p _::r=>anss r
 | .b _ y::r=>.br y::anss r
 | .e _ _ ds::r=>.el ds::anss r
 | .r _ _ y::r=>.res y::anss r
 | .l n k b _ _ e st'::r=>.loop n k b e st'::anss r
 | .a x::r=>x::anss r
 | .i _ _ ds::r=>.br true::.el ds::anss r
 | .x _ _ ds::r=>.el ds::anss r
 | .g _ _ _::r=>anss r
 | .u _::r=>anss r
 | .v _::r=>anss r
 | .f _ _ b::r=>.br b::anss r
 | .h _::r=>anss r
 | .n _ y::r=>.br y::anss r
theorem OB.obs{P:Program}:∀{os:List O},OB P os→Obs (props P os)
 | [],_=>trivial
 | .p _::_,h=>⟨h.1,OB.obs h.2⟩
 | .b _ _::_,h=>⟨h.1,OB.obs h.2⟩
 | .e _ _ _::_,h=>⟨h.1,OB.obs h.2⟩
 | .r _ _ _::_,h=>⟨h.1,OB.obs h.2⟩
 | .l _ _ _ _ _ _ _::_,h=>⟨h.1,OB.obs h.2⟩
 | .a _::r,h=>OB.obs (os:=r) h
 | .i _ _ _::_,h=>⟨h.1,h.2.1,h.2.2.1,h.2.2.2.1,OB.obs h.2.2.2.2⟩
 | .x _ _ _::_,h=>⟨h.1,h.2.1,h.2.2.1,OB.obs h.2.2.2⟩
 | .g _ _ _::_,h=>⟨h.1,h.2.1,OB.obs h.2.2⟩
 | .u _::_,h=>⟨h.1,OB.obs h.2⟩
 | .v _::_,h=>⟨h.1,OB.obs h.2⟩
 | .f _ _ _::_,h=>⟨h.1,OB.obs h.2⟩
 | .h _::_,h=>⟨h.1,OB.obs h.2⟩
 | .n _ _::_,h=>⟨h.1,OB.obs h.2⟩
def outF{α:Type}(P:Program)(f:Nat)(g:Func→Option α):Option α:=P.funcs[f]?.bind fun fn=>if fn.body.isSome then g fn else none
theorem qnZ{α:Type}{P:Program}{f:Nat}{g:Func→Option α}{x:α}(h:outF P f g=some x):∃fn,P.funcs[f]?=some fn∧fn.body.isSome=true∧g fn=some x:=by
 unfold outF at h;rw[zah]at h;obtain⟨fn,h1,h2⟩:=h;split at h2
 ·exact⟨fn,h1,‹_›,h2⟩
 ·cases h2
theorem OB.of{P:Program}{os:List O}{f:Nat}{args rs:List AD}(h:OB P os)(k:(outF P f fun fn=>outc P (qcw fn) fn.ntmps fn.results.toList args rs (anss os))=some (rs,props P os):=by kernel_rfl):Ret P f args rs:=by
 obtain⟨fn,h1,h2,h3⟩:=qnZ k;exact Ret.of _ _ h1 h2 h3 h.obs
theorem OB.ofG{P:Program}{os:List O}{f:Nat}{args:List GA}{rs:List AD}(h:OB P os)(k:(outF P f fun fn=>outG P (qcw fn) fn.ntmps fn.results.toList args rs (anss os))=some (rs,args,props P os):=by kernel_rfl):RetG P f args rs:=by
 obtain⟨fn,h1,h2,h3⟩:=qnZ k;exact RetG.of _ _ h1 h2 h3 h.obs
theorem OB.ofR{P:Program}{os:List O}{f:Nat}{args:List RA}{r:RR}(h:OB P os)(k:(outF P f fun fn=>outR P (qcw fn) fn.ntmps fn.results.toList args r (anss os))=some (r,args,props P os):=by kernel_rfl):RetR P f args r:=by
 obtain⟨fn,h1,h2,h3⟩:=qnZ k;exact RetR.of _ _ h1 h2 h3 h.obs
theorem OB.lp{P:Program}{os:List O}{c:Code}{st st':St}{e:Ex}(ks bs:List Nat)(h:OB P os)(k:loopc P c st (anss os) ks bs=some (e,st',props P os):=by kernel_rfl):Tr P c st e st':=Tr.of_loopc k h.obs
theorem OB.lr{P:Program}{os:List O}{c:Code}{st st':St}{e:Ex}(ns:List (Nat×Nat×Nat))(ks bs:List Nat)(h:OB P os)(k:loopr P c st (anss os) ns ks bs=some (e,st',props P os):=by kernel_rfl):Tr P c st e st':=Tr.of_loopr k h.obs
abbrev LL:=List (List D)
abbrev cl(a:LL)(b c:Int)(d e f g:LL):List D:=[.sl 4 a,I b,I c,.sl 8 d,.sl 6 e,.sl 5 f,.sl 3 g]
abbrev wk(a b c d e f g h:LL):List D:=[.sl 5 a,.sl 5 b,.sl 5 c,.sl 4 d,.sl 1 e,.sl 1 f,.sl 1 g,.sl 2 h]
abbrev lk(a:Int)(b:LL)(c d e f:Int):List D:=[I a,.sl 5 b,I c,I d,I e,I f]
abbrev ri(a b c d e:Int):List D:=[I a,I b,I c,I d,I e]
abbrev nd(a b c:Int)(d:LL):List D:=[I a,I b,I c,.sl 1 d]
abbrev gr(a:LL)(b c:Int):List D:=[.sl 4 a,I b,I c]
abbrev sn:Value:=.slice none 0 0
abbrev vI(n:Int):PV:=.al (.one (.v (.int .i64 n)))
abbrev vF(k:Nat)(l:LL):PV:=.al (.one (.sl .free k l))
abbrev lI(n:Int):Leaf:=.v (.int .i64 n)
abbrev vP(k:Nat):PV:=.al (.one (.ptr k 0))
abbrev lO(t k:Nat)(l:LL):Leaf:=.sl (.own t) k l
abbrev cI(x:Int):AD:=.one (I x)
abbrev cB(x:Bool):AD:=.one (B x)
abbrev cS(k:Nat)(l:LL):AD:=.one (.sl k l)
