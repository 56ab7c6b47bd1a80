import Derived.WalkKit
import Derived.WalkSpells
import Derived.WalkLawsBesides
import Derived.KernelRfl
set_option linter.unusedVariables false
set_option linter.unusedSimpArgs false
namespace Go.Sx
open Go.RowKit
universe u v w x
theorem ad:True:=⟨⟩
theorem aX:type_of% @Option.some.injEq.{u}:=@Option.some.injEq.{u}
theorem bA:type_of% @List.length_map.{u,v}:=@List.length_map.{u,v}
theorem b8:type_of% @Option.map_eq_some_iff.{u,v}:=@Option.map_eq_some_iff.{u,v}
theorem bJ:type_of% @Prod.mk.injEq.{u,v}:=@Prod.mk.injEq.{u,v}
theorem dp:type_of% @Bool.eq_false_or_eq_true:=@Bool.eq_false_or_eq_true
theorem kA:type_of% @decide_eq_false_iff_not:=@decide_eq_false_iff_not
theorem fi:type_of% @List.mem_cons_of_mem.{u}:=@List.mem_cons_of_mem.{u}
theorem ch:type_of% @List.length_nil.{u}:=@List.length_nil.{u}
theorem cr:type_of% @decide_eq_true_eq:=@decide_eq_true_eq
theorem cm:type_of% @Bool.and_eq_true:=@Bool.and_eq_true
theorem eW:type_of% @List.getElem?_eq_some_iff.{u}:=@List.getElem?_eq_some_iff.{u}
theorem ew:type_of% @Array.getD_eq_getD_getElem?.{u}:=@Array.getD_eq_getD_getElem?.{u}
theorem eO:type_of% @List.mem_cons_self.{u}:=@List.mem_cons_self.{u}
theorem e8:type_of% @List.length_set.{u}:=@List.length_set.{u}
theorem ba:type_of% @if_neg.{u}:=@if_neg.{u}
theorem bi:type_of% @if_pos.{u}:=@if_pos.{u}
theorem dK:type_of% @List.length_cons.{u}:=@List.length_cons.{u}
theorem du:type_of% @List.getElem?_map.{u,v}:=@List.getElem?_map.{u,v}
theorem lN:type_of% @decide_eq_false:=@decide_eq_false
theorem h4:type_of% @List.getElem?_eq_getElem.{u}:=@List.getElem?_eq_getElem.{u}
theorem dG:type_of% @Nat.zero_add:=@Nat.zero_add
theorem fF:type_of% @List.mem_of_getElem?.{u}:=@List.mem_of_getElem?.{u}
theorem eE:type_of% @Option.some.inj.{u}:=@Option.some.inj.{u}
theorem fB:type_of% @Bool.or_eq_false_iff:=@Bool.or_eq_false_iff
theorem jz:type_of% @Array.getElem?_eq_some_iff.{u}:=@Array.getElem?_eq_some_iff.{u}
theorem ky:type_of% @List.getElem?_drop.{u}:=@List.getElem?_drop.{u}
theorem hq:type_of% @Nat.mul_le_mul_right:=@Nat.mul_le_mul_right
theorem lh:type_of% @List.take_length.{u}:=@List.take_length.{u}
theorem h3:type_of% @Array.getElem?_eq_getElem.{u}:=@Array.getElem?_eq_getElem.{u}
theorem ed:type_of% @beq_iff_eq.{u}:=@beq_iff_eq.{u}
theorem kX:type_of% @List.getElem?_take.{u}:=@List.getElem?_take.{u}
theorem Zz:type_of% @List.cons.inj.{u}:=@List.cons.inj.{u}
theorem nY:type_of% @Array.getElem?_toList.{u}:=@Array.getElem?_toList.{u}
theorem gN:type_of% @List.mem_append_left.{u}:=@List.mem_append_left.{u}
theorem hR:type_of% @List.mem_append_right.{u}:=@List.mem_append_right.{u}
theorem kf:type_of% @Array.getElem?_append.{u}:=@Array.getElem?_append.{u}
theorem ez:type_of% @List.mem_cons.{u}:=@List.mem_cons.{u}
theorem fK:type_of% @List.all_eq_true.{u}:=@List.all_eq_true.{u}
theorem iv:type_of% @List.getD_eq_getElem?_getD.{u}:=@List.getD_eq_getElem?_getD.{u}
theorem ei:type_of% @Nat.le_refl:=@Nat.le_refl
theorem fh:type_of% @List.any_eq_false.{u}:=@List.any_eq_false.{u}
theorem lj:type_of% @Bool.eq_false_iff:=@Bool.eq_false_iff
theorem fA:type_of% @Nat.add_mul:=@Nat.add_mul
theorem fP:type_of% @Bool.not_eq_true':=@Bool.not_eq_true'
theorem lk:type_of% @List.getElem?_append.{u}:=@List.getElem?_append.{u}
theorem gW:type_of% @List.map_append.{u,v}:=@List.map_append.{u,v}
theorem ji:type_of% @Option.getD_some.{u}:=@Option.getD_some.{u}
theorem kz:type_of% @List.map_congr_left.{u,v}:=@List.map_congr_left.{u,v}
theorem jx:type_of% @Bool.not_eq_false':=@Bool.not_eq_false'
theorem pP:type_of% @List.getElem?_toArray.{u}:=@List.getElem?_toArray.{u}
theorem jj:type_of% @Bool.not_true:=@Bool.not_true
theorem lL:type_of% @List.append_nil.{u}:=@List.append_nil.{u}
theorem jy:type_of% @List.length_append.{u}:=@List.length_append.{u}
theorem nZ:type_of% @List.size_toArray.{u}:=@List.size_toArray.{u}
theorem iT:type_of% @List.getElem?_set.{u}:=@List.getElem?_set.{u}
theorem oX:type_of% @Int.toNat_natCast:=@Int.toNat_natCast
theorem oY:type_of% @List.getElem?_cons_succ.{u}:=@List.getElem?_cons_succ.{u}
theorem kg:type_of% @List.getElem?_cons_zero.{u}:=@List.getElem?_cons_zero.{u}
theorem mo:type_of% @Option.bind_eq_some_iff.{u,v}:=@Option.bind_eq_some_iff.{u,v}
theorem zN:type_of% @List.findIdx?_eq_some_iff_getElem.{u}:=@List.findIdx?_eq_some_iff_getElem.{u}
theorem pQ:type_of% @Option.isSome_iff_exists.{u}:=@Option.isSome_iff_exists.{u}
theorem r8:type_of% @List.mem_iff_getElem?.{u}:=@List.mem_iff_getElem?.{u}
theorem iU:type_of% @Bool.false_or:=@Bool.false_or
theorem C1:type_of% @List.set_set.{u}:=@List.set_set.{u}
theorem mZ:type_of% @Option.bind_some.{u,v}:=@Option.bind_some.{u,v}
theorem oZ:type_of% @Bool.false_eq_true:=@Bool.false_eq_true
theorem iV:type_of% @decide_eq_true:=@decide_eq_true
theorem ZA:type_of% @Int.le_trans:=@Int.le_trans
theorem jU:type_of% @List.mem_flatMap.{u,v}:=@List.mem_flatMap.{u,v}
theorem zO:type_of% @List.getElem?_append_right.{u}:=@List.getElem?_append_right.{u}
theorem r9:type_of% @List.length_filter_le.{u}:=@List.length_filter_le.{u}
theorem jV:type_of% @List.map_set.{u,v}:=@List.map_set.{u,v}
theorem jW:type_of% @List.map_cons.{u,v}:=@List.map_cons.{u,v}
theorem n0:type_of% @Option.map_some.{u,v}:=@Option.map_some.{u,v}
theorem zP:type_of% @List.getElem_mem.{u}:=@List.getElem_mem.{u}
theorem qW:type_of% @List.length_take.{u}:=@List.length_take.{u}
theorem hD:type_of% @List.mem_append.{u}:=@List.mem_append.{u}
theorem tw:type_of% @List.append_assoc.{u}:=@List.append_assoc.{u}
theorem fQ:type_of% @if_true.{u}:=@if_true.{u}
theorem pR:type_of% @Bool.not_false:=@Bool.not_false
theorem vw:type_of% @Array.size_append.{u}:=@Array.size_append.{u}
theorem r':type_of% @List.take_add_one.{u}:=@List.take_add_one.{u}
theorem hb:type_of% @List.mem_or_eq_of_mem_set.{u}:=@List.mem_or_eq_of_mem_set.{u}
theorem C2:type_of% @List.getElem?_append_left.{u}:=@List.getElem?_append_left.{u}
theorem zQ:type_of% @List.mem_of_mem_take.{u}:=@List.mem_of_mem_take.{u}
theorem lM:type_of% @Bool.or_eq_true:=@Bool.or_eq_true
theorem m':type_of% @Nat.add_zero:=@Nat.add_zero
theorem zR:type_of% @List.take_of_length_le.{u}:=@List.take_of_length_le.{u}
theorem na:type_of% @Bool.true_and:=@Bool.true_and
theorem jX:type_of% @List.mem_map.{u,v}:=@List.mem_map.{u,v}
theorem G7:type_of% @List.mem_of_mem_drop.{u}:=@List.mem_of_mem_drop.{u}
theorem zS:type_of% @List.getElem?_replicate.{u}:=@List.getElem?_replicate.{u}
theorem sa:type_of% @Nat.lt_or_ge:=@Nat.lt_or_ge
theorem xM:type_of% @beq_eq_false_iff_ne.{u}:=@beq_eq_false_iff_ne.{u}
theorem sb:type_of% @List.cons.injEq.{u}:=@List.cons.injEq.{u}
theorem O2:type_of% @List.findIdx?_eq_none_iff.{u}:=@List.findIdx?_eq_none_iff.{u}
theorem vx:type_of% @Bool.not_eq_true:=@Bool.not_eq_true
theorem n1:type_of% @List.not_mem_nil.{u}:=@List.not_mem_nil.{u}
theorem xN:type_of% @List.eq_nil_of_length_eq_zero.{u}:=@List.eq_nil_of_length_eq_zero.{u}
theorem O3:type_of% @List.take_append_of_le_length.{u}:=@List.take_append_of_le_length.{u}
theorem vy:type_of% @Array.length_toList.{u}:=@Array.length_toList.{u}
theorem tx:type_of% @beq_self_eq_true.{u}:=@beq_self_eq_true.{u}
theorem zT:type_of% @Nat.lt_of_lt_of_le:=@Nat.lt_of_lt_of_le
theorem G8:type_of% @Option.isSome_eq_false_iff.{u}:=@Option.isSome_eq_false_iff.{u}
theorem O4:type_of% @List.take_append_drop.{u}:=@List.take_append_drop.{u}
theorem hc:type_of% @ne_eq.{u}:=@ne_eq.{u}
theorem G9:type_of% @Option.isNone_iff_eq_none.{u}:=@Option.isNone_iff_eq_none.{u}
theorem nc:type_of% @Nat.le_trans:=@Nat.le_trans
theorem sc:type_of% @List.map_id.{u}:=@List.map_id.{u}
theorem vz:type_of% @List.any_cons.{u}:=@List.any_cons.{u}
theorem xO:type_of% @List.mapM_cons.{u,v,w}:=@List.mapM_cons.{u,v,w}
theorem ll:type_of% @if_false.{u}:=@if_false.{u}
theorem nd:type_of% @List.any_eq_true.{u}:=@List.any_eq_true.{u}
theorem tz:type_of% @List.drop_zero.{u}:=@List.drop_zero.{u}
theorem az9:type_of% @Int.natCast_zero:=@Int.natCast_zero
theorem O5:type_of% @List.flatMap_nil.{u,v}:=@List.flatMap_nil.{u,v}
theorem C3:type_of% @Array.getElem?_eq_none.{u}:=@Array.getElem?_eq_none.{u}
theorem zU:type_of% @Array.getElem?_map.{u,v}:=@Array.getElem?_map.{u,v}
theorem zV:type_of% @Option.toList_some.{u}:=@Option.toList_some.{u}
theorem G':type_of% @List.range_zero:=@List.range_zero
theorem qX:type_of% @List.map_take.{u,v}:=@List.map_take.{u,v}
theorem tA:type_of% @Bool.and_true:=@Bool.and_true
theorem vA:type_of% @List.length_range:=@List.length_range
theorem C4:type_of% @Nat.mod_eq_of_lt:=@Nat.mod_eq_of_lt
theorem zW:type_of% @Nat.add_assoc:=@Nat.add_assoc
theorem nf:type_of% @List.sum_cons.{u}:=@List.sum_cons.{u}
inductive D where
 | v (x:Value)
 | J (k:Nat) (es:List (List D))
 | ptr (ds:List D)
 | cl (g:FuncId) (bB:List D)
inductive c8 where
 | bO
 | box (id:Nat)
 | tok (t:Nat) (q:List (Nat×Nat))
abbrev Own:=Nat->c8
def c9(es:List (List D))(i j:Nat):Option D:=(es[i]?).bind (·[j]?)
inductive b7 (w:World) (ω:Own):(List (Nat×Nat)->c8->Prop)->D->Value->Prop
 | v (R:List (Nat×Nat)->c8->Prop) (x:Value) (h1:x.oneCell'=true):b7 w ω R (.v x) x
 | nil (R:List (Nat×Nat)->c8->Prop) (k:Nat) (a:Option Addr):b7 w ω R (.J k []) (.slice a 0 0)
 | row (R:List (Nat×Nat)->c8->Prop) (k:Nat) (es:List (List D)) (b off cap:Nat) (arr:Array Value) (ty:TypeId) (c0:Nat×Nat) (us:Nat->Nat->Value)
   (aj:w.heap[b]?=some (.cells arr ty c0)) (dT:R [] (ω b)) (ak:es.length<=cap) (ai:off+cap*k<=arr.size) (hk:∀e∈es,e.length=k)
   (hu:∀i j d,c9 es i j=some d->arr[off+i*k+j]?=some (us i j))
   (aE:∀i j d,c9 es i j=some d->b7 w ω (fun q=>R ((i,j)::q)) d (us i j)):
   b7 w ω R (.J k es) (.slice (some ⟨b,off,none⟩) es.length cap)
 | ptr (R:List (Nat×Nat)->c8->Prop) (ds:List D) (b:Nat) (arr:Array Value) (ty:TypeId) (c0:Nat×Nat) (us:Nat->Value)
   (aj:w.heap[b]?=some (.cells arr ty c0)) (dT:R [] (ω b)) (ai:arr.size=ds.length)
   (hu:∀j d,ds[j]?=some d->arr[j]?=some (us j)) (aE:∀j d,ds[j]?=some d->b7 w ω (fun q=>R ((0,j)::q)) d (us j)):
   b7 w ω R (.ptr ds) (.pointer (some ⟨b,0,none⟩))
 | cl (R:List (Nat×Nat)->c8->Prop) (g:FuncId) (bB:List D) (cs:Array Value) (us:Nat->Value) (ai:cs.size=bB.length)
   (hu:∀j d,bB[j]?=some d->cs[j]?=some (us j)) (aE:∀j d,bB[j]?=some d->b7 w ω (fun q=>R ((0,j)::q)) d (us j)):
   b7 w ω R (.cl g bB) (.func (.func g) #[] cs)
variable{w aS:World}{ω:Own}
theorem b7.frame{a':Own}{R:List (Nat×Nat)->c8->Prop}{d:D}{v:Value}(h:b7 w ω R d v):
  ∀{iw:List (Nat×Nat)->c8->Prop},(∀b q,b<w.heap.size->R q (ω b)->iw q (a' b)/\aS.heap[b]?=w.heap[b]?)->b7 aS a' iw d v:=by
 induction h with
 | v R x h1=>intro iw _;exact .v iw x h1
 | nil R k a=>intro iw _;exact .nil iw k a
 | row R k es b off cap arr ty c0 us aj dT ak ai hk hu aE dI=>
  intro iw bw;have bL:b<w.heap.size:=by
   rcases sa b w.heap.size with h | h
   ·exact h
   simp[C3 h]at aj
  obtain⟨h1,U⟩:=bw b [] bL dT;exact .row iw k es b off cap arr ty c0 us (U.trans aj) h1 ak ai hk hu (fun i j d dP=>dI i j d dP (fun b q ag az=>bw b ((i,j)::q) ag az))
 | ptr R ds b arr ty c0 us aj dT ai hu aE dI=>
  intro iw bw;have bL:b<w.heap.size:=by
   rcases sa b w.heap.size with h | h
   ·exact h
   simp[C3 h]at aj
  obtain⟨h1,U⟩:=bw b [] bL dT;exact .ptr iw ds b arr ty c0 us (U.trans aj) h1 ai hu (fun j d dP=>dI j d dP (fun b q ag az=>bw b ((0,j)::q) ag az))
 | cl R g bB cs us ai hu aE dI=>
  intro iw bw;exact .cl iw g bB cs us ai hu (fun j d dP=>dI j d dP (fun b q ag az=>bw b ((0,j)::q) ag az))
inductive Tag where
 | free
 | own (t:Nat)
 | ro (t:Nat)
def Tag.R:Tag->List (Nat×Nat)->c8->Prop
 | .free,_,o=>o=.bO
 | .own t,q,o=>o=.tok t q
 | .ro t,_,o=>o=.bO\/∃q,o=.tok t q
def Tag.ee(τ:Nat->Nat×Value):Tag->Nat×Value->Prop
 | .own t,y=>τ t=y
 | _,_=>True
def dj:Nat:=1000000000
inductive e9 where
 | cq
 | v (x:Value)
 | J (t:Tag) (k:Nat) (es:List (List D))
inductive vH where
 | here
 | lU
 | at_ (x y:Nat)
def vH.rel(k n:Nat):vH->Value->Value->Prop
 | .at_ x y,u,v=>∃b off cap,u=.slice (some ⟨b,off,none⟩) n cap/\v=.pointer (some ⟨b,off+x*k+y,none⟩)/\x<n
 | _,u,v=>v=u
def vH.home:vH->Bool
 | .lU=>false
 | _=>true
inductive aH where
 | cq
 | v (x:Value)
 | bc (c:Bool)
 | J (t:Tag) (k:Nat) (es:List (List D))
 | ptr (id off:Nat)
 | ep (t:Tag) (k:Nat) (es:List (List D)) (i j:Nat)
 | h0 (ds:List D) (off:Nat)
 | fd (d:D)
 | gP (g:FuncId) (ids:List Nat)
 | aO (t i j k:Nat) (es:List (List D)) (m:vH)
 | ft (t:Nat) (vs:List e9)
 | dx (t k:Nat) (es:List (List D))
def ptrTo(b:Nat):Value:=.pointer (some ⟨b,0,none⟩)
def qZ(w:World)(ω:Own)(τ:Nat->Nat×Value):e9->Value->Prop
 | .cq,_=>True
 | .v x,y=>y=x
 | .J t k es,y=>b7 w ω t.R (.J k es) y/\t.ee τ (k,y)
def uC(w:World)(ω:Own)(τ:Nat->Nat×Value)(t i j:Nat)(u:Value):Prop:=
 ∃(kT b off len cap:Nat) (arr:Array Value) (ty:TypeId) (c0:Nat×Nat),τ t=(kT,.slice (some ⟨b,off,none⟩) len cap)/\ω b=.tok t []/\w.heap[b]?=some (.cells arr ty c0)/\arr[off+i*kT+j]?=some u
def Sat(w:World)(ω:Own)(τ:Nat->Nat×Value):aH->Value->Prop
 | .cq,_=>True
 | .v x,y=>y=x
 | .bc c,y=>y=.bool c
 | .J t k es,y=>b7 w ω t.R (.J k es) y/\t.ee τ (k,y)
 | .ptr id off,y=>∃b,ω b=.box id/\y=.pointer (some ⟨b,off,none⟩)
 | .ep t k es i j,y=>∃b off cap,y=.pointer (some ⟨b,off+i*k+j,none⟩)/\i<es.length/\
   b7 w ω t.R (.J k es) (.slice (some ⟨b,off,none⟩) es.length cap)/\t.ee τ (k,.slice (some ⟨b,off,none⟩) es.length cap)
 | .h0 ds off,y=>∃b,y=.pointer (some ⟨b,off,none⟩)/\b7 w ω Tag.free.R (.ptr ds) (ptrTo b)
 | .fd d,y=>b7 w ω Tag.free.R d y
 | .gP g ids,y=>∃bs:List Nat,y=.func (.func g) #[] (bs.map ptrTo).toArray/\bs.length=ids.length/\∀(i:Nat) (id:Nat),ids[i]?=some id->∃b,bs[i]?=some b/\ω b=.box id
 | .dx t k es,y=>b7 w ω Tag.free.R (.J k es) y/\(dj<=t->τ t=(k,y))
 | .aO t i j k es m,y=>∃u,m.rel k es.length u y/\b7 w ω (fun q o=>o=.tok t ((i,j)::q)) (.J k es) u/\(m.home=true->uC w ω τ t i j u)
 | .ft t vs,y=>∃(b:Nat) (ty:TypeId) (arr:Array Value),y=ptrTo b/\ω b=.tok t []/\w.heap[b]?=some (.cells arr ty (0,0))/\arr.size=vs.length/\∀(j:Nat) (c:e9),vs[j]?=some c->∃u,arr[j]?=some u/\qZ w ω τ c u
inductive bC where
 | one (l:aH)
 | agg (ls:List aH)
inductive aJ where
 | aI (a:bC)
 | ga (as:List bC)
abbrev aJ.one(l:aH):aJ:=.aI (.one l)
abbrev aJ.agg(ls:List aH):aJ:=.aI (.agg ls)
abbrev aJ.cq:aJ:=.aI (.one .cq)
def kk(S:aH->Value->Prop)(ls:List aH)(vs:Array Value):Prop:=
 vs.size=ls.length/\∀(i:Nat) (l:aH),ls[i]?=some l->∃u,vs[i]?=some u/\S l u
def kj(S:aH->Value->Prop):bC->Value->Prop
 | .one l,y=>S l y
 | .agg ls,y=>∃vs,y=.agg vs/\kk S ls vs
def cU(S:aH->Value->Prop):aJ->Value->Prop
 | .aI a,y=>kj S a y
 | .ga as,y=>∃vs:Array Value,y=.tuple vs/\vs.size=as.length/\∀(i:Nat) (a:bC),as[i]?=some a->∃u,vs[i]?=some u/\kj S a u
structure aF where
 env:List aJ
 boxes:List (Nat×List aH)
def dF(id:Nat):List (Nat×List aH)->Option (List aH)
 | []=>none
 | (i,ls)::r=>if i=id then some ls else dF id r
def bC.map(f:aH->aH):bC->bC
 | .one l=>.one (f l)
 | .agg ls=>.agg (ls.map f)
def aJ.map(f:aH->aH):aJ->aJ
 | .aI a=>.aI (a.map f)
 | .ga as=>.ga (as.map (bC.map f))
def aF.map(f:aH->aH)(s:aF):aF:=⟨s.env.map (aJ.map f),s.boxes.map fun x=>(x.1,x.2.map f)⟩
variable{S:aH->Value->Prop}
theorem kk.map{kE:aH->Value->Prop}{f:aH->aH}(h:∀l v,S l v->kE (f l) v){ls:List aH}{vs:Array Value}(ai:kk S ls vs):kk kE (ls.map f) vs:=by
 refine⟨by simpa using ai.1,fun i l ag=>?_⟩;rw[du,b8]at ag;obtain⟨gh,bg,rfl⟩:=ag;obtain⟨u,h1,U⟩:=ai.2 i gh bg;exact⟨u,h1,h _ _ U⟩
theorem kj.map{kE:aH->Value->Prop}{f:aH->aH}(h:∀l v,S l v->kE (f l) v):∀{a:bC} {y:Value},kj S a y->kj kE (a.map f) y
 | .one l,y,ai=>h _ _ ai
 | .agg ls,y,⟨vs,e,ai⟩=>⟨vs,e,ai.map h⟩
theorem cU.map{kE:aH->Value->Prop}{f:aH->aH}(h:∀l v,S l v->kE (f l) v):∀{p:aJ} {y:Value},cU S p y->cU kE (p.map f) y
 | .aI a,y,ai=>show kj kE (a.map f) y from kj.map h (show kj S a y from ai)
 | .ga as,y,⟨vs,e,aR,ai⟩=>⟨vs,e,by simpa using aR,fun i a ae=>by
   rw[du,b8]at ae;obtain⟨a0,bg,rfl⟩:=ae;obtain⟨u,h1,U⟩:=ai i a0 bg;exact⟨u,h1,kj.map h U⟩⟩
theorem s6(f:aH->aH)(id:Nat):∀bs:List (Nat×List aH),dF id (bs.map fun x=>(x.1,x.2.map f))=(dF id bs).map (·.map f)
 | []=>rfl
 | (i,ls)::r=>by
  simp only[jW,dF];split
  ·rfl
  exact s6 f id r
structure eK where
 w:World
 G:Nat->Prop
 H:Nat->Nat×Value
def eK.D4(B:eK)(b:Nat):Prop:=B.w.heap.size<=b\/B.G b
def JU:Bool:=true
structure gO (n:Nat) (w aS:World):Prop where
 below:Below n w aS
 drawn:JU=true->w.drawn<=aS.drawn
variable{n:Nat}
theorem gO.size(h:gO n w aS):w.heap.size<=aS.heap.size:=h.below.size
theorem gO.block(h:gO n w aS):∀k,k<n->aS.heap[k]?=w.heap[k]?:=h.below.block
theorem gO.refl(n:Nat)(w:World):gO n w w:=⟨Below.refl _ _,fun _=>ei _⟩
theorem gO.drew(h:gO n w aS):gO n w aS.drew:=⟨h.below.drew,fun ai=>Nat.le_succ_of_le (h.drawn ai)⟩
theorem gO.alloc(h:gO n w aS)(aR:n<=aS.heap.size)(o:Obj):gO n w (aS.alloc o):=⟨h.below.alloc aR o,h.drawn⟩
def Ct:List (Nat×List Int):=[]
def pU(w:World):Prop:=∀x∈Ct,∃ty c0,w.heap[x.1]?=some (.cells (x.2.map (Value.int .u64)).toArray ty c0)
theorem pU.lt(h:pU w){x:Nat×List Int}(aa:x∈Ct):x.1<w.heap.size:=by
 obtain⟨ty,c0,e⟩:=h x aa;rcases sa x.1 w.heap.size with h | h
 ·exact h
 simp[C3 h]at e
def Tidy(w:World)(ω:Own):Prop:=pU w/\∀x∈Ct,ω x.1=.bO
structure hr (B:eK) (w:World):Prop where
 os:w.os=B.w.os
 tape:w.tape=B.w.tape
 output:w.output=B.w.output
 size:B.w.heap.size<=w.heap.size
 block:∀k,k<B.w.heap.size->¬B.G k->w.heap[k]?=B.w.heap[k]?
 drawn:JU=true->B.w.drawn<=w.drawn
 laid:pU w
 free:∀x∈Go.Sx.Ct,¬B.D4 x.1
theorem pU.next(h:pU w)(k:gO w.heap.size w aS):pU aS:=fun x aa=>by
 rw[k.below.block x.1 (h.lt aa)];exact h x aa
theorem hr.next{B:eK}(h:hr B w)(k:gO w.heap.size w aS):hr B aS:=
 ⟨k.below.os.trans h.os,k.below.tape.trans h.tape,k.below.output.trans h.output,nc h.size k.below.size,fun i hi av=>(k.below.block i (zT hi h.size)).trans (h.block i hi av),fun ai=>nc (h.drawn ai) (k.drawn ai),h.laid.next k,h.free⟩
def eK.of(w:World):eK:=⟨w,fun _=>False,fun _=>(0,undef)⟩
theorem hr.refl(B:eK)(h:pU B.w)(av:∀x∈Ct,¬B.G x.1):hr B B.w:=⟨rfl,rfl,rfl,ei _,fun _ _ _=>rfl,fun _=>ei _,h,fun x aa hm=>by
 rcases hm with hm | hm
 ·exact absurd (h.lt aa) (by omega)
 exact av x aa hm⟩
theorem hr.start{H:Nat->Nat×Value}(h:Tidy w ω):hr ⟨w,fun b=>ω b≠.bO,H⟩ w:=hr.refl ⟨w,fun b=>ω b≠.bO,H⟩ h.1 fun x aa hm=>hm (h.2 x aa)
theorem hr.below(h:hr (eK.of w) aS):gO w.heap.size w aS:=⟨⟨h.os,h.tape,h.output,h.size,fun k hk=>h.block k hk (fun h=>h)⟩,h.drawn⟩
theorem hr.setRow{B:eK}(h:hr B w){b:Nat}(aj:B.D4 b)(arr:Array Value):hr B (w.setRow b arr):=
 ⟨h.os,h.tape,h.output,by simpa using h.size,fun k hk av=>by
  have:k≠b:=by
   rintro rfl;rcases aj with aj | aj
   ·omega
   exact av aj
  rw[setRow_other w b k arr this];exact h.block k hk av,h.drawn,fun x aa=>by
  have:x.1≠b:=fun e=>h.free x aa (e▸aj)
  rw[setRow_other w b x.1 arr this];exact h.laid x aa,h.free⟩
def n4(w0:eK)(w:World)(ω:Own):Prop:=∀b,ω b≠.bO->w0.D4 b/\∃arr ty,w.heap[b]?=some (.cells arr ty (0,0))
def tC(w:World)(ω:Own)(τ:Nat->Nat×Value)(id:Nat)(ls:List aH):Prop:=
 ∃b arr ty,ω b=.box id/\(∀da,ω da=.box id->da=b)/\w.heap[b]?=some (.cells arr ty (0,0))/\kk (Sat w ω τ) ls arr
structure cI (w0:eK) (st:aF) (a:Act) (w:World) (ω:Own) (τ:Nat->Nat×Value):Prop where
 defers:a.defers=[]
 size:a.tmps.size=st.env.length
 below:hr w0 w
 owned:n4 w0 w ω
 fixed:∀t,dj<=t->τ t=w0.H t
 pinned:∀id b,dj<=id->ω b=.box id->(w0.H id).1=b
 env:∀(i:Nat) (p:aJ),st.env[i]?=some p->∃v,a.tmps[i]?=some v/\cU (Sat w ω τ) p v
 boxes:∀id ls,dF id st.boxes=some ls->tC w ω τ id ls
def Rel(w0:eK)(st:aF)(a:Act)(w:World):Prop:=∃ω τ,cI w0 st a w ω τ
structure O7 (B:eK) (w:World):Prop where
 os:w.os=B.w.os
 tape:w.tape=B.w.tape
 output:w.output=B.w.output
 size:B.w.heap.size<=w.heap.size
 block:∀k,k<B.w.heap.size->¬B.G k->w.heap[k]?=B.w.heap[k]?
 drawn:JU=true->B.w.drawn<=w.drawn
variable{w0:eK}
theorem cI.tidy{st:aF}{a:Act}{a':Own}{τ:Nat->Nat×Value}(h:cI w0 st a w ω τ)(dr:∀b,ω b=.bO->a' b=.bO):Tidy w a':=
 ⟨h.below.laid,fun x aa=>dr _ (Classical.byContradiction fun aR=>h.below.free x aa (h.owned _ aR).1)⟩
theorem n4.lt(h:n4 w0 w ω){b:Nat}(aj:ω b≠.bO):b<w.heap.size:=by
 obtain⟨_,arr,ty,e⟩:=h b aj;rcases sa b w.heap.size with h | h
 ·exact h
 simp[C3 h]at e
theorem n4.fresh(h:n4 w0 w ω){b:Nat}(aj:w.heap.size<=b):ω b=.bO:=by
 cases e:ω b with
 | bO=>rfl
 | box id=>have:=h.lt (b:=b) (by simp[e]);omega
 | tok t q=>have:=h.lt (b:=b) (by simp[e]);omega
end Go.Sx
namespace Go.Sx
open Go.RowKit
def e9.cz(g:Tag->Option Tag):e9->e9
 | .J t k es=>match g t with | some dt=>.J dt k es | none=>.cq
 | c=>c
def aH.cz(g:Tag->Option Tag)(p:Nat->Bool):aH->aH
 | .J t k es=>match g t with | some dt=>.J dt k es | none=>.cq
 | .ep t k es i j=>match g t with | some dt=>.ep dt k es i j | none=>.cq
 | .ptr id off=>if p id then .ptr id off else .cq
 | .gP f ids=>if ids.all p then .gP f ids else .cq
 | .aO t i j k es m=>match g (.own t) with | some (.own dt)=>if dt=t then .aO t i j k es m else .cq | _=>.cq
 | .ft t vs=>match g (.own t) with | some (.own dt)=>if dt=t then .ft t (vs.map (e9.cz g)) else .cq | _=>.cq
 | l=>l
structure lQ (w:World) (ω:Own) (τ:Nat->Nat×Value) (aS:World) (a':Own) (cW:Nat->Nat×Value) (g:Tag->Option Tag) (p:Nat->Bool):Prop where
 rep:∀t dt b q,g t=some dt->b<w.heap.size->t.R q (ω b)->dt.R q (a' b)/\aS.heap[b]?=w.heap[b]?
 ee:∀t dt y,g t=some dt->t.ee τ y->dt.ee cW y
 box:∀id b,p id=true->ω b=.box id->a' b=.box id
 free:g .free=some .free
 fix:∀t,dj<=t->cW t=τ t
variable{w aS:World}{ω a':Own}{τ cW:Nat->Nat×Value}{g:Tag->Option Tag}
theorem Ek(h:∀c u,qZ w ω τ c u->qZ aS a' cW (e9.cz g c) u){arr:Array Value}{vs:List e9}
  (aR:arr.size=vs.length) (bF:∀(j:Nat) (c:e9),vs[j]?=some c->∃u,arr[j]?=some u/\qZ w ω τ c u):
  arr.size=(vs.map (e9.cz g)).length/\∀(j:Nat) (c:e9),(vs.map (e9.cz g))[j]?=some c->∃u,arr[j]?=some u/\qZ aS a' cW c u:=by
 refine⟨by simpa using aR,fun j c ak=>?_⟩;rw[du,b8]at ak;obtain⟨de,bg,rfl⟩:=ak;obtain⟨u,h1,U⟩:=bF j de bg;exact⟨u,h1,h de u U⟩
theorem lQ.mI{p:Nat->Bool}(h:lQ w ω τ aS a' cW g p)(c:e9)(u:Value)(ai:qZ w ω τ c u):qZ aS a' cW (e9.cz g c) u:=by
 cases c with
 | cq=>exact trivial
 | v x=>exact ai
 | J t k es=>
  simp only[e9.cz];cases av:g t with
  | none=>exact trivial
  | some dt=>exact⟨ai.1.frame fun b q aj az=>h.rep t dt b q av aj az,h.ee t dt _ av ai.2⟩
theorem lQ.sat{g:Tag->Option Tag}{p:Nat->Bool}(h:lQ w ω τ aS a' cW g p):
  ∀(l:aH) (v:Value),Sat w ω τ l v->Sat aS a' cW (l.cz g p) v:=by
 intro l v ai;cases l with
 | cq=>exact trivial
 | v x=>exact ai
 | bc c=>exact ai
 | J t k es=>
  simp only[aH.cz];cases av:g t with
  | none=>exact trivial
  | some dt=>exact⟨ai.1.frame fun b q aj az=>h.rep t dt b q av aj az,h.ee t dt _ av ai.2⟩
 | ptr id off=>
  simp only[aH.cz];split
  ·obtain⟨b,aj,e⟩:=ai;exact⟨b,h.box id b ‹_› aj,e⟩
  exact trivial
 | gP f ids=>
  simp only[aH.cz];split
  ·rename_i hp;obtain⟨bs,e,aR,hi⟩:=ai;refine⟨bs,e,aR,fun i id fT=>?_⟩;obtain⟨b,h1,U⟩:=hi i id fT;exact⟨b,h1,h.box id b (fK.1 hp id (fF fT)) U⟩
  exact trivial
 | h0 ds off=>
  obtain⟨b,e,aA⟩:=ai;exact⟨b,e,aA.frame fun b q aj az=>h.rep .free .free b q h.free aj az⟩
 | fd d=>exact b7.frame ai fun b q aj az=>h.rep .free .free b q h.free aj az
 | dx t k es=>exact⟨ai.1.frame fun b q aj az=>h.rep .free .free b q h.free aj az,fun bH=>(h.fix t bH).trans (ai.2 bH)⟩
 | aO t i j k es m=>
  simp only[aH.cz];split
  ·rename_i dt av;split
   ·rename_i bH;subst bH;obtain⟨u,hu,h1,hm⟩:=ai;refine⟨u,hu,h1.frame fun c q ak az=>h.rep _ _ c _ av ak az,fun bQ=>?_⟩;obtain⟨kT,b,off,len,cap,arr,ty,c0,U,a7,ax,aK⟩:=hm bQ;have bL:b<w.heap.size:=(jz.1 ax).1;have hk:=h.rep _ _ b [] av bL a7;exact⟨kT,b,off,len,cap,arr,ty,c0,h.ee _ _ _ av U,hk.1,hk.2.trans ax,aK⟩
   exact trivial
  exact trivial
 | ft t vs=>
  simp only[aH.cz];split
  ·rename_i dt av;split
   ·rename_i bH;subst bH;obtain⟨b,ty,arr,e,a7,ax,aR,bF⟩:=ai;have bL:b<w.heap.size:=(jz.1 ax).1;have hk:=h.rep _ _ b [] av bL a7;exact⟨b,ty,arr,e,hk.1,hk.2.trans ax,Ek (h.mI) aR bF⟩
   exact trivial
  exact trivial
 | ep t k es i j=>
  simp only[aH.cz];cases av:g t with
  | none=>exact trivial
  | some dt=>
   obtain⟨b,off,cap,e,hi,aA,bQ⟩:=ai;exact⟨b,off,cap,e,hi,aA.frame fun b q aj az=>h.rep t dt b q av aj az,h.ee t dt _ av bQ⟩
variable{a:Act}
theorem aag{d:Nat}{v:Value}{i:Nat}:(a.put (some d) v).tmps[i]?=if d=i/\i<a.tmps.size then some v else a.tmps[i]?:=by
 simp only[Act.put,Array.getElem?_setIfInBounds];by_cases h:d=i
 ·subst h;by_cases U:d<a.tmps.size
  ·simp[U]
  simp[U]
 simp[h]
variable{w0:eK}{st:aF}
theorem cI.put(h:cI w0 st a w ω τ){d:Nat}{p:aJ}{v:Value}(ai:cU (Sat w ω τ) p v):
  cI w0 ⟨st.env.set d p,st.boxes⟩ (a.put (some d) v) w ω τ where
 defers:=h.defers
 size:=by simp[Act.put,h.size]
 below:=h.below
 owned:=h.owned
 fixed:=h.fixed
 pinned:=h.pinned
 boxes:=h.boxes
 env:=by
  intro i q az;rw[iT]at az;rw[aag];by_cases aE:d=i
  ·subst aE;simp only[fQ]at az;split at az
   ·rename_i bL;have e:=eE az;subst e;exact⟨v,by rw[bi ⟨rfl,by rw[h.size];exact bL⟩],ai⟩
   cases az
  rw[ba aE]at az;rw[ba (by simp[aE])];exact h.env i q az
theorem cI.HA{p:Nat->Bool}
  (h:cI w0 st a w ω τ) (e:lQ w ω τ aS a' cW g p) (rb:hr w0 aS) (qh:n4 w0 aS a') {bs:List (Nat×List aH)}
  (rc:∀id ls,dF id bs=some ls->tC aS a' cW id ls) (wi:∀id b,dj<=id->a' b=.box id->ω b=.box id) (ri:∀t,dj<=t->cW t=τ t:=by intros;rfl):cI w0 ⟨st.env.map (aJ.map (aH.cz g p)),bs⟩ a aS a' cW where
 defers:=h.defers
 size:=by simp[h.size]
 below:=rb
 owned:=qh
 fixed:=fun t bH=>(ri t bH).trans (h.fixed t bH)
 pinned:=fun id b hi aj=>h.pinned id b hi (wi id b hi aj)
 boxes:=rc
 env:=by
  intro i q az;rw[du,b8]at az;obtain⟨ic,bg,rfl⟩:=az;obtain⟨v,h1,U⟩:=h.env i ic bg;exact⟨v,h1,cU.map e.sat U⟩
theorem rE{o:Obj}:(w.alloc o).heap[w.heap.size]?=some o:=by
 show (w.heap.push o)[_]?=_;simp
theorem JV{o:Obj}{i:Nat}(h:i<w.heap.size):(w.alloc o).heap[i]?=w.heap[i]?:=Below.heap_alloc w o i h
def px(id:Nat):List (Nat×List aH)->List (Nat×List aH)
 | []=>[]
 | (i,ls)::r=>if i=id then px id r else (i,ls)::px id r
theorem JW(id:Nat):∀bs,dF id (px id bs)=none
 | []=>rfl
 | (i,ls)::r=>by
  simp only[px];split
  ·exact JW id r
  simp only[dF];rw[ba ‹_›];exact JW id r
theorem yV{id gZ:Nat}(h:gZ≠id):∀bs,dF gZ (px id bs)=dF gZ bs
 | []=>rfl
 | (i,ls)::r=>by
  simp only[px,dF];by_cases h1:i=id
  ·rw[bi h1,ba (by omega)];exact yV h r
  rw[ba h1];simp only[dF];split
  ·rfl
  exact yV h r
def rr:Tag->Option Tag:=some
def jI(id:Nat):Nat->Bool:=fun i=>decide (i≠id)
def aF.um(st:aF)(id:Nat)(ls:List aH):aF:=
 let f:=aH.cz rr (jI id)
 ⟨st.env.map (aJ.map f),(id,ls.map f)::(px id st.boxes).map fun x=>(x.1,x.2.map f)⟩
theorem cI.um(h:cI w0 st a w ω τ)(id:Nat)(fT:id<dj){ls:List aH}{arr:Array Value}(ty:TypeId)
  (ai:kk (Sat w ω τ) ls arr):
  ∃a',cI w0 (st.um id ls) a (w.alloc (.cells arr ty)) a' τ/\a' w.heap.size=.box id:=by
 let a':Own:=fun b=>if b=w.heap.size then .box id else match ω b with | .box i=>if i=id then .bO else .box i | o=>o
 have gg:a' w.heap.size=.box id:=by simp[a']
 have hold:∀b,b<w.heap.size->a' b=(match ω b with | .box i=>if i=id then .bO else .box i | o=>o):=by
  intro b aj;simp only[a'];rw[ba (by omega)]
 have gY:∀b,b≠w.heap.size->a' b=(match ω b with | .box i=>if i=id then .bO else .box i | o=>o):=by
  intro b aj;simp only[a'];rw[ba aj]
 have br:lQ w ω τ (w.alloc (.cells arr ty)) a' τ rr (jI id):=by
  refine⟨?_,?_,?_,rfl,fun _ _=>rfl⟩
  ·intro t dt b q av aj az;simp only[rr,aX]at av;subst av;refine⟨?_,JV aj⟩;rw[hold b aj];cases t with
   | free=>simp only[Tag.R]at az ⊢;rw[az]
   | own s=>simp only[Tag.R]at az ⊢;rw[az]
   | ro s=>
    simp only[Tag.R]at az ⊢;rcases az with az | ⟨dD,az⟩
    ·rw[az];exact .inl rfl
    rw[az];exact .inr ⟨dD,rfl⟩
  ·intro t dt y av bu;simp only[rr,aX]at av;subst av;exact bu
  intro i b hp aj;have bL:=h.owned.lt (b:=b) (by simp[aj]);rw[hold b bL,aj];simp only[jI,cr]at hp;simp[hp]
 have rb:hr w0 (w.alloc (.cells arr ty)):=h.below.next ((gO.refl _ _).alloc (ei _) _);have qh:n4 w0 (w.alloc (.cells arr ty)) a':=by
  intro b aj;by_cases aR:b=w.heap.size
  ·subst aR;exact⟨.inl h.below.size,arr,ty,rE⟩
  rw[gY b aR]at aj;have U:ω b≠.bO:=by intro e;rw[e]at aj;exact aj rfl
  obtain⟨ax,cf,qU,e⟩:=h.owned b U;exact⟨ax,cf,qU,(JV (h.owned.lt U)).trans e⟩
 refine⟨a',?_,gg⟩;refine h.HA br rb qh ?_ (fun i b hi aj=>?_)
 case refine_2=>
  by_cases aR:b=w.heap.size
  ·subst aR;rw[gg]at aj;simp only[c8.box.injEq]at aj;omega
  rw[gY b aR]at aj;cases e:ω b with
  | bO=>simp[e]at aj
  | tok t q=>simp[e]at aj
  | box j=>
   simp only[e]at aj;split at aj
   ·cases aj
   exact aj
 intro i fl ag;simp only[dF]at ag;split at ag
 ·rename_i hi;subst hi;have e:=eE ag;subst e;refine⟨w.heap.size,arr,ty,gg,?_,rE,ai.map br.sat⟩;intro da dz;by_cases aR:da=w.heap.size
  ·exact aR
  rw[gY da aR]at dz;cases e:ω da with
  | bO=>simp[e]at dz
  | tok t q=>simp[e]at dz
  | box j=>
   simp only[e]at dz;split at dz
   ·cases dz
   rename_i ct;simp only[c8.box.injEq]at dz;exact absurd dz ct
 rename_i hi;rw[s6,b8]at ag;obtain⟨jq,bg,rfl⟩:=ag;have ct:i≠id:=fun e=>hi e.symm
 rw[yV ct]at bg;obtain⟨b,cf,qU,aj,hu,bQ,eS⟩:=h.boxes i jq bg;have bL:=h.owned.lt (b:=b) (by simp[aj]);refine⟨b,cf,qU,br.box i b (by simp[jI,ct]) aj,?_,(JV bL).trans bQ,eS.map br.sat⟩;intro da dz;by_cases aR:da=w.heap.size
 ·subst aR;rw[gg]at dz;simp only[c8.box.injEq]at dz;exact absurd dz.symm ct
 rw[gY da aR]at dz;refine hu da ?_;cases e:ω da with
 | bO=>simp[e]at dz
 | tok t q=>simp[e]at dz
 | box j=>
  simp only[e]at dz;split at dz
  ·cases dz
  exact dz
end Go.Sx
namespace Go.Sx
open Go.RowKit
inductive cQ where
 | one (d:D)
 | agg (ds:List D)
inductive aV where
 | vals (rs:List cQ)
 | hX (src:List (Option Nat)) (ds:List D)
abbrev aV.new (ds : List D) : aV := .hX [] ds
inductive hE where
 | normal
 | exit (id:Nat)
 | ret
inductive ci where
 | own
 | sub
 | xH (ww:List (List (Option (Option (List (List D)))))) (src:Nat) (ds:List D) (rs:List cQ)
 | res (rs:List cQ)
 | dm (ww:List (Option (List D))) (r:aV)
 | loop (D5:List (Nat×Nat×Nat)) (eN boxes:List Nat) (e:hE) (st:aF)
 | o1 (b:Bool)
 | el (ds:List D)
 | wr
 | eq (c:Bool)
 | num (n:Int)
 | oF (p:aJ)
 | iu (st:aF)
def cO:List Prop->Prop
 | []=>True
 | p::r=>p/\cO r
theorem cO.append:∀{a b:List Prop},cO (a++b)->cO a/\cO b
 | [],_,h=>⟨ad,h⟩
 | _::_,_,h=>⟨⟨h.1,(cO.append h.2).1⟩,(cO.append h.2).2⟩
abbrev jY:=Option (aJ×List ci×List Prop)
def Dq:Value->aJ
 | .agg cs=>.agg (cs.toList.map .v)
 | v=>.one (.v v)
def aF.br(st:aF):Operand->aJ
 | .tmp t=>st.env.getD t .cq
 | .const v=>Dq v
 | .func f=>.one (.fd (.cl f []))
 | _=>.cq
theorem asF(w:World)(ω:Own)(τ:Nat->Nat×Value)(v:Value):cU (Sat w ω τ) (Dq v) v:=by
 unfold Dq;split
 ·rename_i cs;refine⟨cs,rfl,by simp,fun i l ag=>?_⟩;rw[du,b8]at ag;obtain⟨u,hu,rfl⟩:=ag;exact⟨u,by simpa using hu,rfl⟩
 exact rfl
variable{w:World}{ω:Own}{τ:Nat->Nat×Value}
theorem cI.br{w0:eK}{st:aF}{a:Act}(h:cI w0 st a w ω τ)(x:Operand):cU (Sat w ω τ) (st.br x) (a.eval x):=by
 cases x with
 | tmp t=>
  simp only[aF.br,Act.eval];cases e:st.env[t]? with
  | none=>
   rw[iv,e];exact trivial
  | some p=>
   obtain⟨v,bF,ai⟩:=h.env t p e;rw[iv,e];simpa[ew,bF]using ai
 | const v=>exact asF w ω τ v
 | global g=>exact trivial
 | func f=>exact b7.cl _ f [] #[] (fun _=>undef) rfl (fun j d aE=>by simp at aE) (fun j d aE=>by simp at aE)
def aH.val:aH->Option Value
 | .v x=>some x
 | .bc c=>some (.bool c)
 | _=>none
variable{y:Value}
theorem aH.XW{l:aH}{x:Value}(h:l.val=some x)(ai:Sat w ω τ l y):y=x:=by
 cases l<;>simp[aH.val]at h
 ·subst h;exact ai
 subst h;exact ai
def aJ.leaf:aJ->Option aH
 | .aI (.one l)=>some l
 | _=>none
theorem aJ.dN{S:aH->Value->Prop}{p:aJ}{l:aH}(h:p.leaf=some l)(ai:cU S p y):S l y:=by
 cases p with
 | ga as=>cases h
 | aI a=>
  cases a with
  | agg ls=>cases h
  | one hg=>simp only[aJ.leaf,aX]at h;subst h;exact ai
def aJ.int(p:aJ):Option (IntKind×Int):=
 match p.leaf with
 | some (.v (.int k n))=>some (k,n)
 | _=>none
variable{p:aJ}{k:IntKind}
theorem aJ.oq{n:Int}(h:p.int=some (k,n))(ai:cU (Sat w ω τ) p y):y=.int k n:=by
 unfold aJ.int at h;split at h
 ·rename_i cn acD e;simp only[aX,bJ]at h;obtain⟨rfl,rfl⟩:=h;exact aJ.dN e ai
 cases h
def aJ.vals:aJ->Option (List Value)
 | .aI (.agg ls)=>ls.mapM aH.val
 | _=>none
theorem Rc{w:World}{ω:Own}{τ:Nat->Nat×Value}:∀{ls:List aH} {xs:List Value},ls.mapM aH.val=some xs->∀{vs:List Value},vs.length=ls.length->(∀(i:Nat) (l:aH),ls[i]?=some l->∃u,vs[i]?=some u/\Sat w ω τ l u)->vs=xs
 | [],xs,h,vs,aR,_=>by
  simp at h;subst h;exact xN aR
 | l::ls,xs,h,vs,aR,ai=>by
  rw[xO]at h;cases e:l.val with
  | none=>simp[e]at h
  | some x=>
   cases e2:ls.mapM aH.val with
   | none=>simp[e,e2]at h
   | some ys=>
    simp[e,e2]at h;subst h;cases vs with
    | nil=>simp at aR
    | cons v vs=>
     obtain⟨u,hu,eS⟩:=ai 0 l rfl;simp at hu;subst hu;rw[aH.XW e eS]
     congr 1
     exact Rc e2 (by simpa using aR) (fun i hg ag=>by have:=ai (i+1) hg (by simpa using ag);simpa using this)
theorem aJ.ayc{xs:List Value}(h:p.vals=some xs)(ai:cU (Sat w ω τ) p y):y=.agg xs.toArray:=by
 cases p with
 | ga as=>cases h
 | aI a=>
  cases a with
  | one l=>cases h
  | agg ls=>
   obtain⟨vs,rfl,aR,bF⟩:=ai;have:=Rc (w:=w) (ω:=ω) (τ:=τ) h (vs:=vs.toList) (by simpa using aR) (fun i l ag=>by obtain⟨u,h1,U⟩:=bF i l ag;exact⟨u,by simpa using h1,U⟩);rw[<-this]
def aG(k:IntKind)(e:Int):Prop:=
 match k with
 | .i64=>-9223372036854775808<=e/\e<=9223372036854775807
 | k=>k.wrap e=e
theorem aG.wrap{e:Int}(h:aG k e):k.wrap e=e:=by
 cases k<;>first | exact h | (simp only[aG]at h;rw[IntKind.wrap_i64];omega)
def arith(k:IntKind)(e:Int)(ans:List ci):jY:=
 match ans with
 | .wr::r=>some (.one (.v (.int k (k.wrap e))),r,[])
 | _=>some (.one (.v (.int k e)),ans,[aG k e])
variable{ans cu:List ci}{obs:List Prop}
theorem yW{e:Int}(h:arith k e ans=some (p,cu,obs))(aU:cO obs):cU (Sat w ω τ) p (.int k (k.wrap e)):=by
 unfold arith at h;split at h
 ·simp only[aX,bJ]at h;obtain⟨rfl,_,_⟩:=h;exact rfl
 simp only[aX,bJ]at h;obtain⟨rfl,_,rfl⟩:=h;rw[aU.1.wrap];exact rfl
def mg(P:Program)(op:BinOp)(t:TypeId)(x y:Operand)(u v c:Value):Prop:=
 ∀w:World,((do eqGuard op t x y u v;binOp op t u v:Sem Value)).run P w=.ok c w
def JX(op:BinOp)(k:IntKind)(x y:Int)(ans:List ci):jY:=
 match op with
 | .add=>arith k (x+y) ans
 | .sub=>arith k (x-y) ans
 | .mul=>arith k (x*y) ans
 | .quo=>(arith k (x.tdiv y) ans).map fun r=>(r.1,r.2.1,(y≠0)::r.2.2)
 | .rem=>some (.one (.v (.int k (x.tmod y))),ans,[y≠0])
 | .eql=>some (.one (.bc (x==y)),ans,[])
 | .neq=>some (.one (.bc (x != y)),ans,[])
 | .lss=>some (.one (.bc (decide (x<y))),ans,[])
 | .leq=>some (.one (.bc (decide (x<=y))),ans,[])
 | .gtr=>some (.one (.bc (decide (x>y))),ans,[])
 | .geq=>some (.one (.bc (decide (x>=y))),ans,[])
 | _=>none
variable{P:Program}{op:BinOp}
theorem asG{x y:Int}(t:TypeId)(acK acL:Operand)
  (h:JX op k x y ans=some (p,cu,obs)) (aU:cO obs):
  ∃v,((do eqGuard op t acK acL (.int k x) (.int k y);binOp op t (.int k x) (.int k y):Sem Value)).run P w=.ok v w/\cU (Sat w ω τ) p v:=by
 rw[eqGuard_at_int];simp only[Sem.run_bind,Sem.run_pure,Result.andThen_ok];cases op<;>simp only[JX,aX,bJ,reduceCtorEq]at h
 case add=>exact⟨_,by rw[binOp_add];rfl,yW h aU⟩
 case sub=>exact⟨_,by rw[binOp_sub];rfl,yW h aU⟩
 case mul=>exact⟨_,by rw[binOp_mul];rfl,yW h aU⟩
 case quo=>
  rw[b8]at h;obtain⟨⟨qu,cJ,oB⟩,h1,U⟩:=h;simp only[bJ]at U;obtain⟨rfl,rfl,rfl⟩:=U;refine⟨_,?_,yW h1 aU.2⟩;rw[binOp_quo];simp[Op.intDiv,aU.1]
 case rem=>
  obtain⟨rfl,_,rfl⟩:=h;refine⟨_,?_,rfl⟩;rw[binOp_rem];simp[Op.intDiv,aU.1]
 case eql=>obtain⟨rfl,_,rfl⟩:=h;exact⟨_,by rw[binOp_eql];rfl,rfl⟩
 case neq=>obtain⟨rfl,_,rfl⟩:=h;exact⟨_,by rw[binOp_neq];rfl,rfl⟩
 case lss=>obtain⟨rfl,_,rfl⟩:=h;exact⟨_,by rw[binOp_lss];rfl,rfl⟩
 case leq=>obtain⟨rfl,_,rfl⟩:=h;exact⟨_,by rw[binOp_leq];rfl,rfl⟩
 case gtr=>obtain⟨rfl,_,rfl⟩:=h;exact⟨_,by rw[binOp_gtr];rfl,rfl⟩
 case geq=>obtain⟨rfl,_,rfl⟩:=h;exact⟨_,by rw[binOp_geq];rfl,rfl⟩
def aJ.value(p:aJ):Option Value:=
 match p with
 | .aI (.one l)=>l.val
 | p=>p.vals.map fun xs=>.agg xs.toArray
theorem aJ.zD{x:Value}(h:p.value=some x)(ai:cU (Sat w ω τ) p y):y=x:=by
 unfold aJ.value at h;split at h
 ·exact aH.XW h ai
 rw[b8]at h;obtain⟨xs,h1,rfl⟩:=h;exact aJ.ayc h1 ai
def wI(P:Program)(t:TypeId):Option Bool:=
 match P.underlying t with
 | some (.struct _) | some (.array _ _)=>some true
 | some _=>some false
 | none=>none
variable{t:TypeId}
theorem yX{b:Bool}(h:wI P t=some b)(w:World):(isAgg t).run P w=.ok b w:=by
 unfold wI at h;unfold isAgg;split at h
 ·rename_i hu;simp only[aX]at h;subst h;simp[run_underlying hu]
 ·rename_i hu;simp only[aX]at h;subst h;simp[run_underlying hu]
 ·rename_i d h1 U hu;simp only[aX]at h;subst h;rw[Sem.run_bind,run_underlying hu];cases d<;>first | rfl | (exact absurd rfl (h1 _)) | (exact absurd rfl (U _ _))
 cases h
def D'(P:Program)(t:TypeId)(cs:Array Value)(off:Nat):Option Value:=
 match wI P t,P.info? t with
 | some true,some i=>some (.agg (cs.extract off (off+i.size)))
 | some false,_=>cs[off]?
 | _,_=>none
variable{v:Value}
theorem Re{cs:Array Value}{off:Nat}(h:D' P t cs off=some v)(w:World):(part t cs off).run P w=.ok v w:=by
 unfold D' at h;split at h
 ·rename_i i e1 e2;simp only[aX]at h;subst h;simp[part,yX e1,sizeOf,typeInfo,e2]
 ·rename_i e1;simp[part,yX e1,h]
 cases h
def Aa(P:Program)(f:TypeId->Value->Value->Option Bool)(xs ys:Array Value):List Field->Option Bool
 | []=>some true
 | fd::r=>
  if fd.name = "_" then none else
  match D' P fd.type xs fd.offset,D' P fd.type ys fd.offset with
  | some a,some b=>
   match f fd.type a b with
   | some c=>
    match r with
    | []=>some c
    | r=>(Aa P f xs ys r).map fun j2=>c&&j2
   | none=>none
  | _,_=>none
def x8(P:Program):Nat->TypeId->Value->Value->Option Bool
 | 0,_,_,_=>none
 | m+1,t,x,y=>
  match P.underlying t,x,y with
  | some .bool,.bool a,.bool b=>some (a==b)
  | some (.int _),.int k a,.int cn b=>if k=cn then some (a==b) else none
  | some .string,.string a,.string b=>some (a.toList==b.toList)
  | some (.struct e3),.agg xs,.agg ys=>if P.stoodInHeld t then none else Aa P (x8 P m) xs ys e3.toList
  | _,_,_=>none
theorem Rf{d:Nat}{f:TypeId->Value->Value->Option Bool}(bw:∀t x y c,f t x y=some c->∀w,(Op.equalIn d t x y).run P w=.ok c w){xs ys:Array Value}:
  ∀{e3:List Field} {c:Bool},Aa P f xs ys e3=some c->∀w,(Op.eqFields d xs ys e3).run P w=.ok c w
 | [],c,h,w=>by simp only[Aa,aX]at h;subst h;simp[Op.eqFields]
 | fd::r,c,h,w=>by
  simp only[Aa]at h;split at h
  ·cases h
  rename_i aR;split at h
  ·rename_i a b e1 e2;split at h
   ·rename_i c1 ck;simp only [Op.eqFields, bi (show fd.name ≠ "_" from aR), Sem.run_bind, Re e1, Re e2, Result.andThen_ok, bw _ _ _ _ ck, Sem.run_ite];split at h
    ·simp only[aX]at h;subst h;cases c1<;>simp[Op.eqFields]
    ·rw[b8]at h;obtain⟨c2,h1,rfl⟩:=h;have:=Rf bw h1 w;cases c1<;>simp[this]
   cases h
  cases h
theorem Rg:∀{m:Nat} {t:TypeId} {x y:Value} {c:Bool},x8 P m t x y=some c->∀(d:Nat) (w:World),(Op.equalIn (d+m) t x y).run P w=.ok c w
 | 0,_,_,_,_,h,_,_=>by cases h
 | m+1,t,x,y,c,h,d,w=>by
  rw[show d+(m+1)=(d+m)+1 from rfl];simp only[x8]at h;split at h
  ·rename_i a b e;simp only[aX]at h;subst h;exact run_equalIn_bool w _ t a b e
  ·rename_i cn k a cg b e;split at h
   ·rename_i hk;subst hk;simp only[aX]at h;subst h;exact run_equalIn_int w _ t k cn a b e
   cases h
  ·rename_i a b e;simp only[aX]at h;subst h;exact run_equalIn_string w _ t a b e
  ·rename_i e3 xs ys e;split at h
   ·cases h
   rename_i ai;have P2:P.fieldsOf t=e3:=by simp[Program.fieldsOf,e]
   rw[run_equalIn_struct w _ t xs ys (by rw[P2];exact e) (by simpa using ai),P2];exact Rf (fun t x y c h w=>Rg h d w) h w
  cases h
def Hz(P:Program)(op:BinOp)(t:TypeId)(u v:Value):Option Bool:=
 match op,u,v with
 | .eql,.agg xs,.agg ys=>if P.eqGuardType P.depth t then none else x8 P 20 t (.agg xs) (.agg ys)
 | .neq,.agg xs,.agg ys=>if P.eqGuardType P.depth t then none else (x8 P 20 t (.agg xs) (.agg ys)).map fun c=>!c
 | .eql,.bool a,.bool b=>match P.underlying t with | some .bool=>some (a==b) | _=>none
 | .neq,.bool a,.bool b=>match P.underlying t with | some .bool=>some (!(a==b)) | _=>none
 | .eql,.string a,.string b=>match P.underlying t with | some .string=>some (a.toList==b.toList) | _=>none
 | .neq,.string a,.string b=>match P.underlying t with | some .string=>some (!(a.toList==b.toList)) | _=>none
 | _,_,_=>none
theorem asH{x y:Operand}{u:Value}{c:Bool}(h:Hz P op t u v=some c):mg P op t x y u v (.bool c):=by
 intro w;have fj:∀{x y:Value} {c:Bool},x8 P 20 t x y=some c->(Op.equalIn 10000 t x y).run P w=.ok c w:=fun h=>Rg h 9980 w
 unfold Hz at h;split at h
 ·rename_i xs ys;split at h
  ·cases h
  rename_i av;simp[run_eqGuard_agg w .eql t x y xs ys (by simpa using av),run_eql_struct,fj h]
 ·rename_i xs ys;split at h
  ·cases h
  rename_i av;rw[b8]at h;obtain⟨j2,h1,rfl⟩:=h;simp[run_eqGuard_agg w .neq t x y xs ys (by simpa using av),run_neq_struct,fj h1]
 ·rename_i a b;split at h
  ·rename_i e;simp only[aX]at h;subst h;simp[eqGuard,binOp,run_equal_bool w t a b e]
  cases h
 ·rename_i a b;split at h
  ·rename_i e;simp only[aX]at h;subst h;simp[eqGuard,binOp,run_equal_bool w t a b e]
  cases h
 ·rename_i a b;split at h
  ·simp only[aX]at h;subst h;simp[eqGuard,binOp,Op.stringOp,beq_toListBytes]
  cases h
 ·rename_i a b;split at h
  ·simp only[aX]at h;subst h;simp[eqGuard,binOp,Op.stringOp,beq_toListBytes]
  cases h
 cases h
def JY(P:Program)(op:BinOp)(t:TypeId)(x y:Operand)(p q:aJ)(ans:List ci):jY:=
 match p.int,q.int with
 | some (k,a),some (cn,b)=>
  match (if k=cn then JX op k a b ans else none) with
  | some r=>some r
  | none=>
   match ans with
   | .oF (.aI (.one (.v c)))::r=>some (.one (.v c),r,[mg P op t x y (.int k a) (.int cn b) c])
   | _=>none
 | _,_=>
  match (match p.value,q.value with | some u,some v=>Hz P op t u v | _,_=>none) with
  | some c=>some (.one (.bc c),ans,[])
  | none=>
  match p.value,q.value,ans with
  | some u,some v,.eq c::r=>some (.one (.bc c),r,[mg P op t x y u v (.bool c)])
  | some u,some v,.oF (.aI (.one (.v c)))::r=>some (.one (.v c),r,[mg P op t x y u v c])
  | _,_,_=>none
theorem asI{x y:Operand}{q r:aJ}{u:Value}
  (hp:cU (Sat w ω τ) p u) (az:cU (Sat w ω τ) q v) (h:JY P op t x y p q ans=some (r,cu,obs)) (aU:cO obs):
  ∃z,((do eqGuard op t x y u v;binOp op t u v:Sem Value)).run P w=.ok z w/\cU (Sat w ω τ) r z:=by
 unfold JY at h;split at h
 ·rename_i k a cn b e1 e2;rw[aJ.oq e1 hp,aJ.oq e2 az];split at h
  ·rename_i kx ck;simp only[aX]at h;subst h;split at ck
   ·rename_i hk;subst hk;exact asG t x y ck aU
   cases ck
  split at h
  ·rename_i c kx _;simp only[aX,bJ]at h;obtain⟨rfl,_,rfl⟩:=h;exact⟨_,aU.1 w,rfl⟩
  cases h
 split at h
 ·rename_i c bM;simp only[aX,bJ]at h;obtain⟨rfl,_,_⟩:=h;split at bM
  ·rename_i tu r5 e1 e2;rw[aJ.zD e1 hp,aJ.zD e2 az];exact⟨_,asH bM w,rfl⟩
  cases bM
 split at h
 ·rename_i tu r5 c kx e1 e2;simp only[aX,bJ]at h;obtain⟨rfl,_,rfl⟩:=h;rw[aJ.zD e1 hp,aJ.zD e2 az];exact⟨_,aU.1 w,rfl⟩
 ·rename_i tu r5 c kx e1 e2;simp only[aX,bJ]at h;obtain⟨rfl,_,rfl⟩:=h;rw[aJ.zD e1 hp,aJ.zD e2 az];exact⟨_,aU.1 w,rfl⟩
 cases h
end Go.Sx
namespace Go.Sx
open Go.RowKit
def Tag.Gb:Tag->Tag
 | .free=>.free
 | .own t=>.ro t
 | .ro t=>.ro t
theorem Tag.NL{t:Tag}{q dD:List (Nat×Nat)}{o:c8}(h:t.R q o):t.Gb.R dD o:=by
 cases t with
 | free=>exact h
 | own s=>exact .inr ⟨q,h⟩
 | ro s=>exact h
variable{τ:Nat->Nat×Value}
theorem Tag.NM{t:Tag}{y:Nat×Value}:t.Gb.ee τ y:=by cases t<;>exact trivial
def D.leaf(t:Tag):D->aH
 | .v (.bool c)=>.bc c
 | .v x=>.v x
 | .J k es=>.J t.Gb k es
 | .ptr ds=>match t with | .free=>.h0 ds 0 | _=>.cq
 | .cl g bB=>match t with | .free=>.fd (.cl g bB) | _=>.cq
variable{w:World}{ω:Own}
theorem D.dN{τ:Nat->Nat×Value}{t:Tag}{p:Nat×Nat}{d:D}{u:Value}(h:b7 w ω (fun q=>t.R (p::q)) d u):Sat w ω τ (d.leaf t) u:=by
 cases d with
 | v x=>
  have e:u=x:=by cases h;rfl
  subst e;unfold D.leaf;split
  ·rename_i h;cases h;exact rfl
  ·rename_i h;cases h;exact rfl
  ·rename_i h;cases h
  ·rename_i h;cases h
  rename_i h;cases h
 | J k es=>exact⟨h.frame fun b q aj az=>⟨Tag.NL az,rfl⟩,Tag.NM⟩
 | ptr ds=>
  cases t with
  | free=>
   have U:b7 w ω Tag.free.R (.ptr ds) u:=h;have ax:=U;cases ax with
   | ptr R ds b arr ty c0 us aj dT ai hu aE=>exact⟨b,rfl,U⟩
  | own s=>exact trivial
  | ro s=>exact trivial
 | cl g bB=>
  cases t with
  | free=>exact h
  | own s=>exact trivial
  | ro s=>exact trivial
def D.QM(t i j:Nat):D->aH
 | .J k es=>.aO t i j k es .here
 | d=>d.leaf (.own t)
def uD(t i:Nat):Nat->List D->List aH
 | _,[]=>[]
 | j,d::ds=>d.QM t i j::uD t i (j+1) ds
theorem Rh(t i:Nat):∀(ds:List D) (j x:Nat),(uD t i j ds)[x]?=(ds[x]?).map (D.QM t i (j+x))
 | [],_,_=>by simp[uD]
 | d::ds,j,0=>by simp[uD]
 | d::ds,j,x+1=>by
  simp only[uD,oY,Rh t i ds (j+1) x];rw[show j+1+x=j+(x+1) by omega]
theorem Ri(t i:Nat):∀(ds:List D) (j:Nat),(uD t i j ds).length=ds.length
 | [],_=>rfl
 | d::ds,j=>by simp[uD,Ri t i ds (j+1)]
def JZ(P:Program)(s:TypeId)(f:Nat):Option Nat:=
 match P.underlying s with
 | some (.struct e3)=>
  match e3[f]? with
  | some fd=>
   match P.info? fd.type with
   | some i=>if i.size=0 then none else some fd.offset
   | none=>none
  | none=>none
 | _=>none
theorem qG(b off n:Nat):(⟨b,off,none⟩:Addr).add n=⟨b,off+n,none⟩:=by
 unfold Addr.add;split
 ·rename_i h;simp[h]
 rfl
variable{P:Program}{off:Nat}
theorem El{s:TypeId}{f:Nat}(h:JZ P s f=some off)(w:World)(b o:Nat):
  (Instr.fieldAt s (.pointer (some ⟨b,o,none⟩)) f).run P w=.ok (.pointer (some ⟨b,o+off,none⟩)) w:=by
 unfold JZ at h;split at h
 ·rename_i e3 hu;split at h
  ·rename_i fd bw;split at h
   ·rename_i i hi;split at h
    ·cases h
    rename_i a6;simp only[aX]at h;subst h;simp[Instr.fieldAt,run_underlying hu,bw,Instr.sureAddr,fieldPlace,sizeOf,typeInfo,hi,a6,qG]
   cases h
  cases h
 cases h
def J0(P:Program)(s:TypeId)(p:aJ)(f:Nat)(ans:List ci):jY:=
 match JZ P s f,p.leaf with
 | some off,some (.ptr id o)=>some (.one (.ptr id (o+off)),ans,[])
 | some off,some (.ep t k es i j)=>some (.one (.ep t k es i (j+off)),ans,[])
 | some off,some (.h0 ds o)=>some (.one (.h0 ds (o+off)),ans,[])
 | some off,some (.aO t i j k es (.at_ x y))=>some (.one (.aO t i j k es (.at_ x (y+off))),ans,[])
 | _,_=>none
variable{p r:aJ}{v:Value}{ans cu:List ci}{obs:List Prop}
theorem asJ{s:TypeId}{f:Nat}
  (hp:cU (Sat w ω τ) p v) (h:J0 P s p f ans=some (r,cu,obs)):
  ∃z,(Instr.fieldAt s v f).run P w=.ok z w/\cU (Sat w ω τ) r z:=by
 unfold J0 at h;split at h
 ·rename_i off id o e1 e2;simp only[aX,bJ]at h;obtain⟨rfl,_,rfl⟩:=h;obtain⟨b,aj,rfl⟩:=aJ.dN e2 hp;exact⟨_,El e1 w b o,b,aj,rfl⟩
 ·rename_i off t k es i j e1 e2;simp only[aX,bJ]at h;obtain⟨rfl,_,rfl⟩:=h;obtain⟨b,o,cap,rfl,hi,aA,bQ⟩:=aJ.dN e2 hp;exact⟨_,El e1 w b _,b,o,cap,by rw[zW],hi,aA,bQ⟩
 ·rename_i off ds o e1 e2;simp only[aX,bJ]at h;obtain⟨rfl,_,rfl⟩:=h;obtain⟨b,rfl,aA⟩:=aJ.dN e2 hp;exact⟨_,El e1 w b o,b,rfl,aA⟩
 ·rename_i off t i j k es x y e1 e2;simp only[aX,bJ]at h;obtain⟨rfl,_,rfl⟩:=h;obtain⟨u,⟨b,o,cap,rfl,rfl,aa⟩,aA,hm⟩:=aJ.dN e2 hp;exact⟨_,El e1 w b _,_,⟨b,o,cap,rfl,by rw[zW],aa⟩,aA,fun _=>hm rfl⟩
 cases h
def qH(P:Program)(t:TypeId):Option (TypeId×Nat):=
 match P.underlying t with
 | some (.slice e)=>(P.info? e).map fun i=>(e,i.size)
 | _=>none
variable{t:TypeId}
theorem wJ{e:TypeId}{k:Nat}(h:qH P t=some (e,k)):P.underlying t=some (.slice e)/\∃i,P.info? e=some i/\i.size=k:=by
 unfold qH at h;split at h
 ·rename_i e' hu;rw[b8]at h;obtain⟨i,hi,h⟩:=h;simp only[bJ]at h;obtain⟨rfl,rfl⟩:=h;exact⟨hu,i,hi,rfl⟩
 cases h
def aH.flat:aH->aH
 | .dx _ k es=>.J .free k es
 | l=>l
def aJ.kN(p:aJ):Option aH:=p.leaf.map aH.flat
variable{y:Value}{l:aH}
theorem aJ.wq(h:p.kN=some l)(ai:cU (Sat w ω τ) p y):Sat w ω τ l y:=by
 unfold aJ.kN at h;rw[b8]at h;obtain⟨gh,bg,rfl⟩:=h;have:=aJ.dN bg ai;unfold aH.flat;split
 ·exact⟨this.1,ad⟩
 exact this
def J1(P:Program)(t:TypeId)(p q:aJ)(ans:List ci):jY:=
 match qH P t,p.kN,q.int with
 | some (_,k),some (.J tag cn es),some (_,n)=>if k=cn then some (.one (.ep tag cn es n.toNat 0),ans,[0<=n,n<(es.length:Int)]) else none
 | some (_,k),some (.aO s i j cn es .here),some (_,n)=>if k=cn then some (.one (.aO s i j cn es (.at_ n.toNat 0)),ans,[0<=n,n<(es.length:Int)]) else none
 | _,_,_=>none
theorem asK{q:aJ}{u:Value}
  (hp:cU (Sat w ω τ) p u) (az:cU (Sat w ω τ) q v) (h:J1 P t p q ans=some (r,cu,obs)) (aU:cO obs):
  ∃z,(Instr.indexAt t u v).run P w=.ok z w/\cU (Sat w ω τ) r z:=by
 unfold J1 at h;split at h
 ·rename_i e k tag cn es AU n e1 e2 ck;split at h
  ·rename_i hk;subst hk;simp only[aX,bJ]at h;obtain⟨rfl,_,rfl⟩:=h;obtain⟨hu,i,hi,a6⟩:=wJ e1;obtain⟨aA,bQ⟩:=aJ.wq e2 hp;rw[aJ.oq ck az];have bg:0<=n:=aU.1;have h1:n<(es.length:Int):=aU.2.1;cases aA with
   | nil=>simp at h1;omega
   | row R k es b off cap arr ty c0 us aj dT ak ai hk jG aE=>
    refine⟨.pointer (some ⟨b,off+n.toNat*k+0,none⟩),?_,b,off,cap,rfl,by omega,.row _ k es b off cap arr ty c0 us aj dT ak ai hk jG aE,bQ⟩;simp[Instr.indexAt,run_underlying hu,asIntOf,bg,h1,sizeOf,typeInfo,hi,a6,qG]
  cases h
 ·rename_i e k s Cr Cs cn es AU n e1 e2 ck;split at h
  ·rename_i hk;subst hk;simp only[aX,bJ]at h;obtain⟨rfl,_,rfl⟩:=h;obtain⟨hu,i,hi,a6⟩:=wJ e1;obtain⟨hQ,rfl,aA,hm⟩:=aJ.wq e2 hp;rw[aJ.oq ck az];have bg:0<=n:=aU.1;have h1:n<(es.length:Int):=aU.2.1;cases aA with
   | nil=>simp at h1;omega
   | row R k es b off cap arr ty c0 us aj dT ak ai hk jG aE=>
    refine⟨.pointer (some ⟨b,off+n.toNat*k+0,none⟩),?_,_,⟨b,off,cap,rfl,rfl,by omega⟩,.row _ k es b off cap arr ty c0 us aj dT ak ai hk jG aE,hm⟩;simp[Instr.indexAt,run_underlying hu,asIntOf,bg,h1,sizeOf,typeInfo,hi,a6,qG]
  cases h
 cases h
theorem asL{P:Program}{b n:Nat}{arr:Array Value}{ty:TypeId}{c0:Nat×Nat}(aj:w.heap[b]?=some (.cells arr ty c0))(aR:off+n<=arr.size):
  (loadCells ⟨b,off,none⟩ n).run P w=.ok (arr.extract off (off+n)) w:=by
 have ag:((arr.extract off (off+n)).toList).length=n:=by simp;omega
 have:=run_loadCells_list (P:=P) w ⟨b,off,none⟩ (arr.extract off (off+n)).toList (fun j v bF=>by
  rw[qG,cell_of_row w b (off+j) arr ty c0 aj];rw[nY,Array.getElem?_extract]at bF;split at bF
  ·exact bF
  cases bF)
 rw[ag,Array.toArray_toList]at this;exact this
def rF(agg:Bool)(n:Nat)(ls:List aH)(off:Nat):Option aJ:=
 if agg then (if off+n<=ls.length then some (.agg ((ls.drop off).take n)) else none)
 else (ls[off]?).map fun l=>.one l
theorem yY{P:Program}{ω:Own}{τ:Nat->Nat×Value}{agg:Bool}{i:TypeInfo}{ls:List aH}(ae:wI P t=some agg)(hi:P.info? t=some i)
  (h:rF agg i.size ls off=some p) {b base:Nat} {arr:Array Value} {ty:TypeId} {c0:Nat×Nat} (aj:w.heap[b]?=some (.cells arr ty c0)) (eT:base+ls.length<=arr.size)
  (ai:∀(j:Nat) (l:aH),ls[j]?=some l->∃u,arr[base+j]?=some u/\Sat w ω τ l u):
  ∃z,(loadVar t ⟨b,base+off,none⟩).run P w=.ok z w/\cU (Sat w ω τ) p z:=by
 unfold rF at h;cases agg with
 | true=>
  simp only[fQ]at h;split at h
  ·rename_i hle;simp only[aX]at h;subst h;refine⟨.agg (arr.extract (base+off) (base+off+i.size)),?_,?_⟩
   ·simp[loadVar,yX ae,sizeOf,typeInfo,hi,asL (P:=P) aj (show base+off+i.size<=arr.size by omega)]
   refine⟨_,rfl,by simp;omega,fun j l ag=>?_⟩;rw[kX]at ag;split at ag
   ·rw[ky]at ag;obtain⟨u,h1,U⟩:=ai _ l ag;refine⟨u,?_,U⟩;rw[Array.getElem?_extract,bi (by omega),<-h1]
    congr 1
    omega
   cases ag
  cases h
 | false=>
  simp only[oZ,ll,b8]at h;obtain⟨l,ag,rfl⟩:=h;obtain⟨u,h1,U⟩:=ai _ l ag;refine⟨u,?_,U⟩;simp[loadVar,yX ae,cell_of_row w b (base+off) arr ty c0 aj,h1]
def Ea(P:Program)(st:aF)(t:TypeId)(p:aJ)(ans:List ci):jY:=
 match wI P t,P.info? t,p.leaf with
 | some agg,some i,some (.ptr id off)=>
  match dF id st.boxes with
  | some ls=>(rF agg i.size ls off).map fun r=>(r,ans,[])
  | none=>none
 | some agg,some i,some (.ep tag k es x j)=>
  match ans with
  | .el ds::r=>if ds.length=k then (rF agg i.size (ds.map (D.leaf tag)) j).map fun v=>(v,r,[es[x]?=some ds]) else none
  | .sub::.el ds::r=>
   match tag with
   | .own t=>if ds.length=k then (rF agg i.size (uD t x 0 ds) j).map fun v=>(v,r,[es[x]?=some ds]) else none
   | _=>none
  | _=>none
 | some agg,some i,some (.h0 ds off)=>(rF agg i.size (ds.map (D.leaf .free)) off).map fun r=>(r,ans,[])
 | some agg,some i,some (.aO s _ _ k es (.at_ x y))=>
  match ans with
  | .el ds::r=>if ds.length=k then (rF agg i.size (ds.map (D.leaf (.ro s))) y).map fun v=>(v,r,[es[x]?=some ds]) else none
  | _=>none
 | _,_,_=>none
variable{w0:eK}{a:Act}{st:aF}
theorem asM
  (aZ:cI w0 st a w ω τ) (hp:cU (Sat w ω τ) p v) (h:Ea P st t p ans=some (r,cu,obs)) (aU:cO obs):
  ∃z,(Instr.loadAt t v).run P w=.ok z w/\cU (Sat w ω τ) r z:=by
 unfold Ea at h;split at h
 ·rename_i agg i id off e1 e2 ck;split at h
  ·rename_i ls cA;rw[b8]at h;obtain⟨kx,h1,h⟩:=h;simp only[bJ]at h;obtain⟨rfl,rfl,rfl⟩:=h;obtain⟨b,aj,rfl⟩:=aJ.dN ck hp;obtain⟨da,arr,ty,dz,AK,Ib,eT,eS⟩:=aZ.boxes id ls cA;have:=AK b aj;subst this;have:=yY (P:=P) e1 e2 h1 Ib (base:=0) (by omega) (fun j l ag=>by simpa using eS j l ag);simpa[Instr.loadAt,Instr.sureAddr]using this
  cases h
 ·rename_i agg i tag k es x j e1 e2 ck;split at h
  ·rename_i ds hA;split at h
   ·rename_i hlen;rw[b8]at h;obtain⟨kx,h1,h⟩:=h;simp only[bJ]at h;obtain⟨rfl,rfl,rfl⟩:=h;have eI:es[x]?=some ds:=aU.1;obtain⟨b,off,cap,rfl,hi,aA,bQ⟩:=aJ.dN ck hp;cases aA with
    | nil=>simp at hi
    | row R k es b off cap arr ty c0 us aj dT ak ai hk hu aE=>
     have P8:x*k+k<=cap*k:=by
      have:(x+1)*k<=cap*k:=hq k (by omega);rw[fA]at this;omega
     have:=yY (P:=P) (τ:=τ) (ω:=ω) e1 e2 h1 aj (base:=off+x*k) (by simp[hlen];omega) (fun jb l ag=>by
      rw[du,b8]at ag;obtain⟨d,U,rfl⟩:=ag;have ak:c9 es x jb=some d:=by simp[c9,eI,U]
      exact⟨us x jb,hu x jb d ak,D.dN (aE x jb d ak)⟩)
     simpa[Instr.loadAt,Instr.sureAddr]using this
   cases h
  ·rename_i ds hA;split at h
   ·rename_i t;split at h
    ·rename_i hlen;rw[b8]at h;obtain⟨kx,h1,h⟩:=h;simp only[bJ]at h;obtain⟨rfl,rfl,rfl⟩:=h;have eI:es[x]?=some ds:=aU.1;obtain⟨b,off,cap,rfl,hi,aA,bQ⟩:=aJ.dN ck hp;cases aA with
     | nil=>simp at hi
     | row R k es b off cap arr ty c0 us aj dT ak ai hk hu aE=>
      have P8:x*k+k<=cap*k:=by
       have:(x+1)*k<=cap*k:=hq k (by omega);rw[fA]at this;omega
      have:=yY (P:=P) (τ:=τ) (ω:=ω) e1 e2 h1 aj (base:=off+x*k) (by simp[Ri,hlen];omega) (fun jb l ag=>by
       rw[Rh,b8]at ag;obtain⟨d,U,rfl⟩:=ag;rw[dG];have ak:c9 es x jb=some d:=by simp[c9,eI,U]
       have re:=aE x jb d ak;refine⟨us x jb,hu x jb d ak,?_⟩;cases d with
       | J cg bX=>exact⟨_,rfl,re,fun _=>⟨k,b,off,es.length,cap,arr,ty,c0,bQ,dT,aj,hu x jb _ ak⟩⟩
       | v z=>exact D.dN (t:=.own t) (p:=(x,jb)) re
       | ptr ds=>exact D.dN (t:=.own t) (p:=(x,jb)) re
       | cl g cs=>exact D.dN (t:=.own t) (p:=(x,jb)) re)
      simpa[Instr.loadAt,Instr.sureAddr]using this
    cases h
   cases h
  cases h
 ·rename_i agg i ds off e1 e2 ck;rw[b8]at h;obtain⟨kx,h1,h⟩:=h;simp only[bJ]at h;obtain⟨rfl,rfl,rfl⟩:=h;obtain⟨b,rfl,aA⟩:=aJ.dN ck hp;have eo:b7 w ω Tag.free.R (.ptr ds) (.pointer (some ⟨b,0,none⟩)):=aA;cases eo with
  | ptr R ds b arr ty c0 us aj dT ai hu aE=>
   have:=yY (P:=P) (τ:=τ) (ω:=ω) e1 e2 h1 aj (base:=0) (by simp;omega) (fun jb l ag=>by
    rw[du,b8]at ag;obtain⟨d,U,rfl⟩:=ag;exact⟨us jb,by simpa using hu jb d U,D.dN (p:=(0,jb)) (aE jb d U)⟩)
   simpa[Instr.loadAt,Instr.sureAddr]using this
 ·rename_i agg i s Cr Cs k es x y e1 e2 ck;split at h
  ·rename_i ds hA;split at h
   ·rename_i hlen;rw[b8]at h;obtain⟨kx,h1,h⟩:=h;simp only[bJ]at h;obtain⟨rfl,rfl,rfl⟩:=h;have eI:es[x]?=some ds:=aU.1;obtain⟨hQ,⟨b,off,cap,rfl,rfl,hi⟩,aA,hm⟩:=aJ.dN ck hp;cases aA with
    | nil=>simp at hi
    | row R k es b off cap arr ty c0 us aj dT ak ai hk hu aE=>
     have P8:x*k+k<=cap*k:=by
      have:(x+1)*k<=cap*k:=hq k (by omega);rw[fA]at this;omega
     have:=yY (P:=P) (τ:=τ) (ω:=ω) e1 e2 h1 aj (base:=off+x*k) (by simp[hlen];omega) (fun jb l ag=>by
      rw[du,b8]at ag;obtain⟨d,U,rfl⟩:=ag;have ak:c9 es x jb=some d:=by simp[c9,eI,U]
      refine⟨us x jb,hu x jb d ak,D.dN (t:=.ro s) (p:=(x,jb)) ((aE x jb d ak).frame fun b q _ az=>⟨.inr ⟨_,az⟩,rfl⟩)⟩)
     simpa[Instr.loadAt,Instr.sureAddr]using this
   cases h
  cases h
 cases h
def J2(P:Program)(t:TypeId)(p:aJ)(ans:List ci):jY:=
 match P.underlying t,p.kN with
 | some (.slice _),some (.J _ _ es)=>some (.one (.v (.int .i64 es.length)),ans,[])
 | some (.slice _),some (.v (.slice _ n _))=>some (.one (.v (.int .i64 n)),ans,[])
 | some (.slice _),some (.aO _ _ _ _ es .here)=>some (.one (.v (.int .i64 es.length)),ans,[])
 | some (.slice _),some (.aO _ _ _ _ es .lU)=>some (.one (.v (.int .i64 es.length)),ans,[])
 | some .string,some (.v (.string s))=>some (.one (.v (.int .i64 s.size)),ans,[])
 | _,_=>none
theorem b7.len{R:List (Nat×Nat)->c8->Prop}{k:Nat}{es:List (List D)}(h:b7 w ω R (.J k es) y):∃b c,y=.slice b es.length c:=by
 cases h with
 | nil=>exact⟨_,_,rfl⟩
 | row R k es b off cap arr ty c0 us aj dT ak ai hk hu aE=>exact⟨_,_,rfl⟩
theorem asd{ty:TypeId}
  (hp:cU (Sat w ω τ) p v) (h:J2 P t p ans=some (r,cu,obs)):
  ∃z,(Builtin.len_ #[t] ty #[v]).run P w=.ok z w/\cU (Sat w ω τ) r z:=by
 unfold J2 at h;split at h
 ·rename_i e XS k es e1 e2;simp only[aX,bJ]at h;obtain⟨rfl,_,rfl⟩:=h;obtain⟨aA,_⟩:=aJ.wq e2 hp;obtain⟨b,c,rfl⟩:=aA.len;exact⟨_,by simp[Builtin.len_,run_underlying e1];rfl,rfl⟩
 ·rename_i e b n c e1 e2;simp only[aX,bJ]at h;obtain⟨rfl,_,rfl⟩:=h;have:v=.slice b n c:=aJ.wq e2 hp;subst this;exact⟨_,by simp[Builtin.len_,run_underlying e1];rfl,rfl⟩
 ·rename_i e s Cr Cs k es e1 e2;simp only[aX,bJ]at h;obtain⟨rfl,_,rfl⟩:=h;obtain⟨hQ,rfl,aA,_⟩:=aJ.wq e2 hp;obtain⟨b,c,rfl⟩:=aA.len;exact⟨_,by simp[Builtin.len_,run_underlying e1];rfl,rfl⟩
 ·rename_i e s Cr Cs k es e1 e2;simp only[aX,bJ]at h;obtain⟨rfl,_,rfl⟩:=h;obtain⟨hQ,rfl,aA,_⟩:=aJ.wq e2 hp;obtain⟨b,c,rfl⟩:=aA.len;exact⟨_,by simp[Builtin.len_,run_underlying e1];rfl,rfl⟩
 ·rename_i s e1 e2;simp only[aX,bJ]at h;obtain⟨rfl,_,rfl⟩:=h;have:v=.string s:=aJ.wq e2 hp;subst this;exact⟨_,by simp[Builtin.len_,run_underlying e1];rfl,rfl⟩
 cases h
theorem Rj{es:List (List D)}{l n i j:Nat}{d:D}(h:c9 ((es.drop l).take n) i j=some d):i<n/\c9 es (l+i) j=some d:=by
 unfold c9 at h ⊢;rw[kX]at h;split at h
 ·rw[ky]at h;exact⟨by omega,h⟩
 simp at h
theorem b7.sub{R iw:List (Nat×Nat)->c8->Prop}{k:Nat}{es:List (List D)}{b cap:Nat}(h:b7 w ω R (.J k es) (.slice (some ⟨b,off,none⟩) es.length cap))
  {l m:Nat} (ag:l<=m) (hm:m<=es.length) (DA:∀o,R [] o->iw [] o) (aao:∀i j q o,l<=i->R ((i,j)::q) o->iw ((i-l,j)::q) o):
  b7 w ω iw (.J k ((es.drop l).take (m-l))) (sliced (some ⟨b,off,none⟩) l m cap k):=by
 cases h with
 | nil=>
  have e1:l=0:=by simp at hm;omega
  have e2:m=0:=by simp at hm;omega
  subst e1 e2;simpa[sliced]using b7.nil iw k _
 | row R k es b off cap arr ty c0 us aj dT ak ai hk hu aE=>
  have hlen:((es.drop l).take (m-l)).length=m-l:=by simp;omega
  have hmul:l*k+(cap-l)*k=cap*k:=by rw[<-fA];congr 1;omega
  have key:∀oB:Nat,(cap=l\/oB=off+l*k)->oB+(cap-l)*k<=arr.size->
    b7 w ω iw (.J k ((es.drop l).take (m-l))) (.slice (some ⟨b,oB,none⟩) (m-l) (cap-l)):=by
   intro oB aU eT;have a6:cap=l->m-l=0:=fun e=>by omega
   have aA:=b7.row (w:=w) (ω:=ω) iw k ((es.drop l).take (m-l)) b oB (cap-l) arr ty c0 (fun i j=>us (l+i) j) aj (DA _ dT) (by omega) eT
    (fun e he=>hk e (G7 (zQ he)))
    (fun i j d vU=>by
     obtain⟨hi,H0⟩:=Rj vU;rcases aU with aU | rfl
     ·have:=a6 aU;omega
     rw[<-hu (l+i) j d H0]
     congr 1
     rw[fA];omega)
    (fun i j d vU=>by
     obtain⟨hi,H0⟩:=Rj vU;refine (aE (l+i) j d H0).frame fun b q _ az=>⟨?_,rfl⟩
     have:=aao _ _ _ _ (Nat.le_add_right l i) az;rwa[show l+i-l=i by omega]at this)
   rw[hlen]at aA;exact aA
  unfold sliced;split
  ·rename_i p';exact key off (.inl p') (by have:cap-l=0:=(by omega);rw[this];simp;omega)
  simp only[n0,qG];exact key _ (.inr rfl) (by omega)
def aH.view:aH->aH
 | .aO t _ _ k es .here=>.J (.ro t) k es
 | .aO t _ _ k es .lU=>.J (.ro t) k es
 | .dx _ k es=>.J .free k es
 | l=>l
theorem aH.NO(ai:Sat w ω τ l y):Sat w ω τ l.view y:=by
 unfold aH.view;split
 ·obtain⟨hQ,rfl,aA,_⟩:=ai;exact⟨aA.frame fun b q _ az=>⟨.inr ⟨_,az⟩,rfl⟩,ad⟩
 ·obtain⟨hQ,rfl,aA,_⟩:=ai;exact⟨aA.frame fun b q _ az=>⟨.inr ⟨_,az⟩,rfl⟩,ad⟩
 ·exact⟨ai.1,ad⟩
 exact ai
theorem aJ.NO(h:p.leaf.map aH.view=some l)(ai:cU (Sat w ω τ) p y):Sat w ω τ l y:=by
 rw[b8]at h;obtain⟨gh,bg,rfl⟩:=h;exact aH.NO (aJ.dN bg ai)
def mh(st:aF):Option Operand->Option (Option Int)
 | none=>some none
 | some x=>((st.br x).int).map fun p=>some p.2
def Eb(P:Program)(st:aF)(t:TypeId)(p:aJ)(cZ hi jc:Option Operand)(ans:List ci):jY:=
 match qH P t,p.leaf.map aH.view,jc with
 | some (_,k),some (.J tag cn es),none=>
  if k=cn then
   match mh st cZ,mh st hi with
   | some l,some h=>some (.one (.J tag.Gb k ((es.drop (l.getD 0).toNat).take ((h.getD es.length).toNat-(l.getD 0).toNat))),ans,[0<=l.getD 0,l.getD 0<=h.getD es.length,h.getD es.length<=es.length])
   | _,_=>none
  else none
 | _,_,_=>none
theorem Bd{len cap:Nat}{cZ hi:Option Value}{l h:Int}(ag:cZ=none/\l=0\/∃k,cZ=some (.int k l))(bQ:hi=none/\h=len\/∃k,hi=some (.int k h))
  (bg:0<=l) (h1:l<=h) (U:h<=cap):(Instr.sliceBounds true len cap cZ hi none).run P w=.ok (l.toNat,h.toNat,cap) w:=by
 have ayY:(h.toNat:Int)=h:=Int.toNat_of_nonneg (by omega);have ax:0<=h:=by omega
 rcases ag with⟨rfl,rfl⟩ | ⟨k,rfl⟩<;>rcases bQ with⟨rfl,rfl⟩ | ⟨cn,rfl⟩<;>
  simp_all[Instr.sliceBounds,run_sliceBound]
theorem Be(aZ:cI w0 st a w ω τ){x:Option Operand}{r:Option Int}(h:mh st x=some r):
  (x.map a.eval=none/\r=none)\/∃k n,x.map a.eval=some (.int k n)/\r=some n:=by
 cases x with
 | none=>simp[mh]at h;exact .inl ⟨rfl,h.symm⟩
 | some x=>
  simp only[mh,b8]at h;obtain⟨⟨k,n⟩,h1,U⟩:=h;exact .inr ⟨k,n,by simp[aJ.oq h1 (aZ.br x)],U.symm⟩
theorem ase{cZ hi jc:Option Operand}
  (aZ:cI w0 st a w ω τ) (hp:cU (Sat w ω τ) p v) (h:Eb P st t p cZ hi jc ans=some (r,cu,obs)) (aU:cO obs):
  ∃z,(Instr.sliceAt t v (cZ.map a.eval) (hi.map a.eval) (jc.map a.eval)).run P w=.ok z w/\cU (Sat w ω τ) r z:=by
 unfold Eb at h;split at h
 ·rename_i e k tag cn es e1 e2;split at h
  ·rename_i hk;subst hk;split at h
   ·rename_i l bQ ck dX;simp only[aX,bJ]at h;obtain⟨rfl,_,rfl⟩:=h;obtain⟨hu,i,lX,a6⟩:=wJ e1;obtain⟨aA,_⟩:=aJ.NO e2 hp;obtain⟨cv,ca,cD,_⟩:=aU;have ax:=Be aZ ck;have aK:=Be aZ dX;have kJ:(cZ.map a.eval=none/\l.getD 0=0)\/∃k,cZ.map a.eval=some (.int k (l.getD 0)):=by
     rcases ax with⟨h,rfl⟩ | ⟨k,n,h,rfl⟩
     ·exact .inl ⟨h,rfl⟩
     exact .inr ⟨k,h⟩
    have sK:(hi.map a.eval=none/\bQ.getD es.length=es.length)\/∃k,hi.map a.eval=some (.int k (bQ.getD es.length)):=by
     rcases aK with⟨h,rfl⟩ | ⟨k,n,h,rfl⟩
     ·exact .inl ⟨h,rfl⟩
     exact .inr ⟨k,h⟩
    cases aA with
    | nil _ _ a0=>
     simp only[ch] at*;have bM:l.getD 0=0:=by omega
     have Ht:bQ.getD ((0:Nat):Int)=0:=by omega
     refine⟨.slice a0 0 0,?_,?_⟩
     ·simp only[Instr.sliceAt,Sem.run_bind,run_underlying hu,Result.andThen_ok,Instr.slice,Option.map_none];rw[Bd kJ sK cv ca cD];have Hu:bQ.getD 0=0:=by simpa using Ht
      simp[sizeOf,typeInfo,lX,bM,Hu]
     refine⟨?_,Tag.NM⟩;simp only[List.drop_nil,List.take_nil];exact .nil _ _ _
    | row R k es b off cap arr ty c0 us aj dT ak ai hk jG aE=>
     refine⟨sliced (some ⟨b,off,none⟩) (l.getD 0).toNat (bQ.getD es.length).toNat cap k,?_,?_,Tag.NM⟩
     ·simp only[Instr.sliceAt,Sem.run_bind,run_underlying hu,Result.andThen_ok,Instr.slice,Option.map_none];rw[Bd kJ sK cv ca (by omega)];simp[sizeOf,typeInfo,lX,a6,sliced]
     exact b7.sub (.row _ k es b off cap arr ty c0 us aj dT ak ai hk jG aE) (by omega) (by omega) (fun o h=>Tag.NL h) (fun i j q o _ h=>Tag.NL h)
   cases h
  cases h
 cases h
end Go.Sx
namespace Go.Sx
open Go.RowKit
def aH.ok:aH->Bool
 | .cq=>false
 | .v x=>x.oneCell'
 | _=>true
variable{w:World}{ω:Own}{y:Value}
theorem b7.pt{R:List (Nat×Nat)->c8->Prop}{d:D}(h:b7 w ω R d y):y.oneCell'=true:=by
 cases h with
 | v R x h1=>exact h1
 | nil=>rfl
 | row=>rfl
 | ptr=>rfl
 | cl=>rfl
variable{τ:Nat->Nat×Value}
theorem aH.QW{l:aH}(h:l.ok=true)(ai:Sat w ω τ l y):y.oneCell'=true:=by
 cases l with
 | cq=>cases h
 | v x=>have:y=x:=ai;subst this;exact h
 | bc c=>have:y=.bool c:=ai;subst this;rfl
 | J t k es=>exact ai.1.pt
 | ptr id off=>obtain⟨b,_,rfl⟩:=ai;rfl
 | ep t k es i j=>obtain⟨b,off,cap,rfl,_⟩:=ai;rfl
 | h0 ds off=>obtain⟨b,rfl,_⟩:=ai;rfl
 | fd d=>exact b7.pt ai
 | dx t k es=>exact ai.1.pt
 | gP g ids=>obtain⟨bs,rfl,_⟩:=ai;rfl
 | aO t i j k es m=>
  obtain⟨u,hu,aA,_⟩:=ai;cases m with
  | at_ x y=>obtain⟨b,off,cap,_,rfl,_⟩:=hu;rfl
  | here=>have:y=u:=hu;subst this;exact aA.pt
  | lU=>have:y=u:=hu;subst this;exact aA.pt
 | ft t vs=>obtain⟨b,ty,arr,rfl,_⟩:=ai;rfl
theorem Bf(h:y.oneCell'=true):y.cells=#[y]:=by
 cases y<;>first | rfl | (simp[Value.oneCell']at h)
def aJ.leaves:aJ->Option (List aH)
 | .aI (.one l)=>if l.ok then some [l] else none
 | .aI (.agg ls)=>if ls.all aH.ok then some ls else none
 | _=>none
variable{p:aJ}{ls:List aH}
theorem aJ.yE(h:p.leaves=some ls)(ai:cU (Sat w ω τ) p y):
  kk (Sat w ω τ) ls y.cells/\∀u∈y.cells.toList,u.oneCell'=true:=by
 unfold aJ.leaves at h;split at h
 ·rename_i l;split at h
  ·rename_i bP;simp only[aX]at h;subst h;have h1:=aH.QW bP ai;rw[Bf h1];refine⟨⟨rfl,fun i hg ag=>?_⟩,by simpa using h1⟩;cases i with
   | zero=>simp at ag;subst ag;exact⟨y,rfl,ai⟩
   | succ i=>simp at ag
  cases h
 ·rename_i fl;split at h
  ·rename_i bP;simp only[aX]at h;subst h;obtain⟨vs,rfl,aR,bF⟩:=ai;refine⟨⟨aR,bF⟩,fun u hu=>?_⟩;obtain⟨i,hi⟩:=r8.1 hu;have bL:i<fl.length:=by
    have:=(eW.1 hi).1;simp[Value.cells]at this;omega
   obtain⟨tu,h1,U⟩:=bF i fl[i] (by simp);have e:u=tu:=by
    have:(Value.agg vs).cells.toList[i]?=vs[i]?:=by simp[Value.cells]
    rw[this,h1]at hi;exact (eE hi).symm
   subst e;exact aH.QW (fK.1 bP _ (zP bL)) U
  cases h
 cases h
theorem Rk(off:Nat):∀(vs:List Value) (k:Nat) (cells:Array Value) (i:Nat),off+k+vs.length<=cells.size->
  ((vs.zipIdx k).foldl (fun cs (x:Value×Nat)=>cs.setIfInBounds (off+x.2) x.1) cells)[i]?=if off+k<=i/\i<off+k+vs.length then vs[i-(off+k)]? else cells[i]?
 | [],k,cells,i,_=>by simp;intro h1 U;omega
 | v::vs,k,cells,i,h=>by
  simp only[List.zipIdx_cons,List.foldl_cons,dK]at h ⊢;rw[Rk off vs (k+1) _ i (by simp;omega),Array.getElem?_setIfInBounds];by_cases h1:off+k=i
  ·subst h1;rw[ba (by omega),bi rfl,bi (by omega),bi (by omega)];simp
  by_cases U:off+(k+1)<=i/\i<off+(k+1)+vs.length
  ·rw[bi U,bi (by omega)];obtain⟨j,bd⟩:∃j,i-(off+k)=j+1:=⟨i-(off+k)-1,by omega⟩
   rw[bd,oY]
   congr 1
   omega
  rw[ba U,ba h1,ba (by omega)]
theorem Rl(off:Nat):∀(l:List (Value×Nat)) (cells:Array Value),(l.foldl (fun cs (x:Value×Nat)=>cs.setIfInBounds (off+x.2) x.1) cells).size=cells.size
 | [],_=>rfl
 | x::l,cells=>by simp only[List.foldl_cons];rw[Rl off l];simp
def tI(ls:List aH)(off:Nat)(xs:List aH):List aH:=ls.take off++(xs++ls.drop (off+xs.length))
variable{off:Nat}
theorem Rm{xs:List aH}{i:Nat}(h:off+xs.length<=ls.length):(tI ls off xs)[i]?=if off<=i/\i<off+xs.length then xs[i-off]? else ls[i]?:=by
 unfold tI;rw[lk,qW,Nat.min_eq_left (by omega)];by_cases h1:i<off
 ·rw[bi h1,ba (by omega),kX,bi h1]
 rw[ba h1,lk];by_cases U:i-off<xs.length
 ·rw[bi U,bi (by omega)]
 rw[ba U,ba (by omega),ky]
 congr 1
 omega
theorem JK{xs:List aH}(h:off+xs.length<=ls.length):(tI ls off xs).length=ls.length:=by
 simp[tI];omega
def q9(place:Nat->Option (Nat×Nat))(ls:List aH):List (Nat×aJ)->Option (List aH)
 | []=>some ls
 | (i,p)::rest=>
  match place i,p.leaves with
  | some (off,size),some xs=>if xs.length=size/\off+size<=ls.length then q9 place (tI ls off xs) rest else none
  | _,_=>none
theorem JL{place:Nat->Option (Nat×Nat)}:∀{parts:List (Nat×aJ)} {vals:List (Nat×Value)} {ls r:List aH} {cells:Array Value},
  parts.length=vals.length->(∀(j:Nat) i p,parts[j]?=some (i,p)->∃v,vals[j]?=some (i,v)/\cU (Sat w ω τ) p v)->q9 place ls parts=some r->kk (Sat w ω τ) ls cells->
  ∃out,Instr.fill place cells vals=some out/\kk (Sat w ω τ) r out
 | [],vals,ls,r,cells,aR,_,h,ai=>by
  have:vals=[]:=xN (by simpa using aR.symm);subst this;simp only[q9,aX]at h;subst h;exact⟨cells,rfl,ai⟩
 | (i,p)::parts,vals,ls,r,cells,aR,hp,h,ai=>by
  obtain⟨v,bF,eS⟩:=hp 0 i p rfl;cases vals with
  | nil=>simp at bF
  | cons x vals=>
   simp only[kg,aX]at bF;subst bF;simp only[q9]at h;split at h
   ·rename_i off size xs e1 e2;split at h
    ·rename_i ak;obtain⟨k1,kI⟩:=ak;obtain⟨⟨eT,yy⟩,_⟩:=aJ.yE e2 eS;have yv:v.cells.size=size:=by omega
     have mx:off+v.cells.size<=cells.size:=by have:=ai.1;omega
     have gg:kk (Sat w ω τ) (tI ls off xs) (v.cells.zipIdx.foldl (fun cs (c,j)=>cs.setIfInBounds (off+j) c) cells):=by
      have e:v.cells.zipIdx.foldl (fun cs (c,j)=>cs.setIfInBounds (off+j) c) cells=(v.cells.toList.zipIdx 0).foldl (fun cs (x:Value×Nat)=>cs.setIfInBounds (off+x.2) x.1) cells:=by
       rw[<-Array.foldl_toList];simp
      rw[e];refine⟨by rw[Rl,JK (by omega)];exact ai.1,fun j l ag=>?_⟩;rw[Rm (by omega)]at ag;rw[Rk off _ 0 _ _ (by simp;omega)];simp only[vy,m'];by_cases bd:off<=j/\j<off+xs.length
      ·rw[bi bd]at ag;rw[bi (by omega)];obtain⟨u,h1,U⟩:=yy _ _ ag;exact⟨u,by simpa using h1,U⟩
      rw[ba bd]at ag;rw[ba (by omega)];exact ai.2 _ _ ag
     obtain⟨out,h1,U⟩:=JL (parts:=parts) (vals:=vals) (by simpa using aR) (fun j fI qu bd=>by have:=hp (j+1) fI qu (by simpa using bd);simpa using this) h gg;refine⟨out,?_,U⟩;simp only[Instr.fill,e1];rw[ba (by simp;omega)];exact h1
    cases h
   cases h
def JM(P:Program)(t:TypeId)(f:Nat):Option (Nat×Nat):=
 match P.underlying t with
 | some (.struct e3)=>
  match e3[f]? with
  | some fd=>(P.info? fd.type).map fun i=>(fd.offset,i.size)
  | none=>none
 | _=>none
def Ec(P:Program)(st:aF)(t:TypeId)(parts:List (Nat×Operand))(ans:List ci):jY:=
 match P.underlying t,P.info? t with
 | some (.struct e3),some i=>
  match i.zero with
  | some z=>
   if e3.toList.all fun f=>(P.info? f.type).isSome then
    (q9 (JM P t) (z.cells.toList.map .v) (parts.map fun x=>(x.1,st.br x.2))).map fun ls=>(.agg ls,ans,[])
   else none
  | none=>none
 | _,_=>none
theorem Rn{P:Program}(w:World):∀(e3:List Field),(∀f∈e3,(P.info? f.type).isSome=true)->
  (e3.mapM fun f=>(do pure (f.offset,<-sizeOf f.type):Sem (Nat×Nat))).run P w=.ok (e3.map fun f=>(f.offset,((P.info? f.type).map (·.size)).getD 0)) w
 | [],_=>by simp
 | f::e3,h=>by
  obtain⟨i,hi⟩:=pQ.1 (h f (by simp));have dI:=Rn (P:=P) w e3 (fun g av=>h g (by simp[av]));simp only[xO,Sem.run_bind,sizeOf,typeInfo,run_program,Result.andThen_ok,hi,Sem.run_pure,jW,n0,ji];simp only[Sem.run_bind,sizeOf,typeInfo,Sem.run_pure]at dI;rw[dI];simp
theorem Ed{P:Program}{α β:Type}(f:α->Sem β)(xs:Array α)(w:World)(r:List β)(h:(xs.toList.mapM f).run P w=.ok r w):(xs.mapM f).run P w=.ok r.toArray w:=by
 rw[<-Array.toArray_toList (xs:=xs),List.mapM_toArray];rw[<-bind_pure_comp,Sem.run_bind,h];rfl
variable{P:Program}{w0:eK}{a:Act}{st:aF}{t:TypeId}{r:aJ}{ans cu:List ci}{obs:List Prop}
theorem asf{parts:Array (Nat×Operand)}
  (aZ:cI w0 st a w ω τ) (h:Ec P st t parts.toList ans=some (r,cu,obs)):
  ∃z,(Instr.build t (parts.map fun (i,x)=>(i,a.eval x))).run P w=.ok z w/\cU (Sat w ω τ) r z:=by
 unfold Ec at h;split at h
 ·rename_i e3 i hu hi;split at h
  ·rename_i z a6;split at h
   ·rename_i hV;rw[b8]at h;obtain⟨ls,h1,h⟩:=h;simp only[bJ]at h;obtain⟨rfl,_,_⟩:=h;have Jh:kk (Sat w ω τ) (z.cells.toList.map .v) z.cells:=by
     refine⟨by simp,fun j l ag=>?_⟩;rw[du,b8]at ag;obtain⟨u,hu,rfl⟩:=ag;exact⟨u,by simpa using hu,rfl⟩
    obtain⟨out,U,ax⟩:=JL (vals:=parts.toList.map fun x=>(x.1,a.eval x.2)) (by simp) (fun j fI p bd=>by
     rw[du,b8]at bd;obtain⟨⟨i2,x⟩,aa,e⟩:=bd;simp only[bJ]at e;obtain⟨rfl,rfl⟩:=e;exact⟨a.eval x,by simp only[du,aa,n0],aZ.br x⟩) h1 Jh
    have hm:=Ed (P:=P) (fun f:Field=>(do pure (f.offset,<-sizeOf f.type):Sem (Nat×Nat))) e3 w _ (Rn (P:=P) w e3.toList (fun f bw=>fK.1 hV f bw));have pe:(fun x=>(e3.toList.map fun f=>(f.offset,((P.info? f.type).map (·.size)).getD 0)).toArray[x]?)=JM P t:=by
     funext x;simp only[pP,du,nY,JM,hu];cases aa:e3[x]? with
     | none=>rfl
     | some fd=>
      have:(P.info? fd.type).isSome=true:=fK.1 hV fd (by simpa using Array.mem_of_getElem? aa);obtain⟨fI,lX⟩:=pQ.1 this;simp[lX]
    refine⟨.agg out,?_,out,rfl,ax⟩;simp only[Instr.build,Sem.run_bind,zeroValue,typeInfo,run_program,Result.andThen_ok,hi,Sem.run_pure,a6,run_underlying hu,hm,pe];have e:(Array.map (fun (x:Nat×Operand)=>(x.1,a.eval x.2)) parts).toList=parts.toList.map fun x=>(x.1,a.eval x.2):=by simp
    simp only[e,U,Sem.run_pure]
   cases h
  cases h
 cases h
def JN(p:aJ)(D0:Nat)(ans:List ci):jY:=
 match p with
 | .ga as=>(as[D0]?).map fun a=>(.aI a,ans,[])
 | _=>none
variable{v:Value}
theorem asg{P:Program}{D0:Nat}
  (hp:cU (Sat w ω τ) p v) (h:JN p D0 ans=some (r,cu,obs)):∃z,(Instr.extract v D0).run P w=.ok z w/\cU (Sat w ω τ) r z:=by
 unfold JN at h;split at h
 ·rename_i as;rw[b8]at h;obtain⟨aI,h1,h⟩:=h;simp only[bJ]at h;obtain⟨rfl,_,_⟩:=h;obtain⟨vs,rfl,aR,bF⟩:=hp;obtain⟨u,U,ax⟩:=bF _ _ h1;exact⟨u,by simp[Instr.extract,U],ax⟩
 cases h
def JO(P:Program)(t:TypeId)(p:aJ)(f:Nat)(ans:List ci):jY:=
 match P.underlying t with
 | some (.struct e3)=>
  match e3[f]? with
  | some fd=>
   match wI P fd.type,P.info? fd.type,p with
   | some agg,some i,.aI (.agg ls)=>(rF agg i.size ls fd.offset).map fun r=>(r,ans,[])
   | _,_,_=>none
  | none=>none
 | _=>none
theorem ash{f:Nat}
  (hp:cU (Sat w ω τ) p v) (h:JO P t p f ans=some (r,cu,obs)):∃z,(Instr.field t v f).run P w=.ok z w/\cU (Sat w ω τ) r z:=by
 unfold JO at h;split at h
 ·rename_i e3 hu;split at h
  ·rename_i fd bw;split at h
   ·rename_i agg i ls e1 e2;rw[b8]at h;obtain⟨kx,h1,h⟩:=h;simp only[bJ]at h;obtain⟨rfl,_,_⟩:=h;obtain⟨vs,rfl,aR,bF⟩:=hp;unfold rF at h1;cases agg with
    | true=>
     simp only[fQ]at h1;split at h1
     ·rename_i hle;simp only[aX]at h1;subst h1;refine⟨.agg (vs.extract fd.offset (fd.offset+i.size)),by simp[Instr.field,run_underlying hu,bw,asAgg,part,yX e1,sizeOf,typeInfo,e2],_,rfl,by simp;omega,fun j l ag=>?_⟩;rw[kX]at ag;split at ag
      ·rw[ky]at ag;obtain⟨u,h1,U⟩:=bF _ l ag;refine⟨u,?_,U⟩;rw[Array.getElem?_extract,bi (by omega),<-h1]
      cases ag
     cases h1
    | false=>
     simp only[oZ,ll,b8]at h1;obtain⟨l,ag,rfl⟩:=h1;obtain⟨u,h1,U⟩:=bF _ l ag;exact⟨u,by simp[Instr.field,run_underlying hu,bw,asAgg,part,yX e1,h1],U⟩
   cases h
  cases h
 cases h
def JP(op:UnOp)(p:aJ)(ans:List ci):jY:=
 match op,p.leaf with
 | .not,some (.bc c)=>some (.one (.bc (!c)),ans,[])
 | .not,some (.v (.bool c))=>some (.one (.v (.bool (!c))),ans,[])
 | .neg,some (.v (.int k n))=>arith k (0-n) ans
 | _,_=>none
theorem asi{op:UnOp}
  (hp:cU (Sat w ω τ) p v) (h:JP op p ans=some (r,cu,obs)) (aU:cO obs):∃z,(Op.unary op v).run P w=.ok z w/\cU (Sat w ω τ) r z:=by
 unfold JP at h;split at h
 ·rename_i c e;simp only[aX,bJ]at h;obtain⟨rfl,_,_⟩:=h;have:v=.bool c:=aJ.dN e hp;subst this;exact⟨_,rfl,rfl⟩
 ·rename_i c e;simp only[aX,bJ]at h;obtain⟨rfl,_,_⟩:=h;have:v=.bool c:=aJ.dN e hp;subst this;exact⟨_,rfl,rfl⟩
 ·rename_i k n e;have:v=.int k n:=aJ.dN e hp;subst this;exact⟨_,rfl,yW h aU⟩
 cases h
def dA(c a b:aJ)(ans:List ci):jY:=
 match c.leaf with
 | some (.v (.bool true))=>some (a,ans,[])
 | some (.v (.bool false))=>some (b,ans,[])
 | some (.bc c)=>
  match ans with
  | .o1 true::r=>some (a,r,[c=true])
  | .o1 false::r=>some (b,r,[c=false])
  | _=>none
 | _=>none
variable{u:Value}
theorem asj{c a b:aJ}{x:Value}
  (ak:cU (Sat w ω τ) c u) (ae:cU (Sat w ω τ) a x) (aj:cU (Sat w ω τ) b y) (h:dA c a b ans=some (r,cu,obs)) (aU:cO obs):
  ∃z,(do pure (.value (if <-asBool u then x else y)):Sem Next).run P w=.ok (.value z) w/\cU (Sat w ω τ) r z:=by
 unfold dA at h;split at h
 ·rename_i e;simp only[aX,bJ]at h;obtain⟨rfl,_,_⟩:=h;have:u=.bool true:=aJ.dN e ak;subst this;exact⟨x,rfl,ae⟩
 ·rename_i e;simp only[aX,bJ]at h;obtain⟨rfl,_,_⟩:=h;have:u=.bool false:=aJ.dN e ak;subst this;exact⟨y,rfl,aj⟩
 ·rename_i j2 e;have:u=.bool j2:=aJ.dN e ak;subst this;split at h
  ·simp only[aX,bJ]at h;obtain⟨rfl,_,rfl⟩:=h;have vU:j2=true:=aU.1;subst vU;exact⟨x,rfl,ae⟩
  ·simp only[aX,bJ]at h;obtain⟨rfl,_,rfl⟩:=h;have vU:j2=false:=aU.1;subst vU;exact⟨y,rfl,aj⟩
  cases h
 cases h
def yZ:List (List D)->Option (List Int)
 | []=>some []
 | [.v (.int .u8 n)]::r=>(yZ r).map (n::·)
 | _=>none
theorem Ro:∀{es:List (List D)} {xs:List Int},yZ es=some xs->xs.length=es.length/\∀i,i<xs.length->c9 es i 0=some (.v (.int .u8 (xs.getD i 0)))/\∀e,es[i]?=some e->e.length=1
 | [],xs,h=>by
  simp only[yZ,aX]at h;subst h;exact⟨rfl,fun i hi=>by simp at hi⟩
 | e::r,xs,h=>by
  unfold yZ at h;split at h
  ·rename_i he;cases he
  ·rename_i n kx he;obtain⟨rfl,rfl⟩:=Zz he;rw[b8]at h;obtain⟨ys,h1,rfl⟩:=h;obtain⟨U,ax⟩:=Ro h1;refine⟨by simp[U],fun i hi=>?_⟩;cases i with
   | zero=>exact⟨rfl,fun e he=>by simp at he;subst he;rfl⟩
   | succ i=>
    simp only[dK,Nat.add_lt_add_iff_right]at hi;obtain⟨aK,a7⟩:=ax i hi;exact⟨by simpa[c9]using aK,fun e he=>a7 e (by simpa using he)⟩
  cases h
theorem cell_of_heap{b:Nat}{arr:Array Value}{ty:TypeId}{c0:Nat×Nat}(aj:w.heap[b]?=some (.cells arr ty c0))(h:arr[off]?=some v):w.cell? ⟨b,off,none⟩=some v:=by
 unfold World.cell?;simp[aj,h]
def aH.XM:aH->Option (List (List D))
 | .J _ 1 es=>some es
 | _=>none
def JQ(P:Program)(src dst:TypeId)(p:aJ)(ans:List ci):jY:=
 match P.underlying src,P.underlying dst,p.int with
 | some _,some (.int k),some (_,n)=>arith k n ans
 | some (.slice e),some .string,none=>
  match P.underlying e,p.leaf.bind aH.XM,ans with
  | some (.int .u8),some es,.oF (.aI (.one (.v (.string s))))::r=>some (.one (.v (.string s)),r,[(yZ es).map strOfNums=some s])
  | _,_,_=>none
 | _,_,_=>none
theorem asl{src dst:TypeId}
  (hp:cU (Sat w ω τ) p v) (h:JQ P src dst p ans=some (r,cu,obs)) (aU:cO obs):∃z,(convert src dst v).run P w=.ok z w/\cU (Sat w ω τ) r z:=by
 unfold JQ at h;split at h
 ·rename_i d k AU n e1 e2 ck;rw[aJ.oq ck hp];exact⟨_,by simp[convert,run_underlying e1,run_underlying e2,Conv.intToInt],yW h aU⟩
 ·rename_i e e1 e2 ck;split at h
  ·rename_i es s kx dX gB;simp only[aX,bJ]at h;obtain⟨rfl,_,rfl⟩:=h;have kL:(yZ es).map strOfNums=some s:=aU.1;rw[b8]at kL;obtain⟨xs,h1,rfl⟩:=kL;obtain⟨U,ax⟩:=Ro h1;rw[mo]at gB;obtain⟨l,kl,np⟩:=gB;have ag:=aJ.dN kl hp;unfold aH.XM at np;split at np
   ·rename_i t cH;simp only[aX]at np;subst np;obtain⟨aA,_⟩:=ag;refine⟨.string (strOfNums xs),?_,rfl⟩;cases aA with
    | nil R k a=>
     have:xs=[]:=List.length_eq_zero_iff.1 (by simpa using U);subst this;cases a with
     | none=>exact run_convert_bytes_nil w src e e1 dX 0 0 dst e2
     | some a=>
      rw[run_convert_bytes_string w src dst e _ 0 0 e1 dX e2];exact run_bytesToString w a 0 0 [] (run_loadCells_list w a [] (fun j v bd=>by simp at bd))
    | row R k _ b off cap arr ty c0 us aj dT ak ai hk hu aE=>
     refine run_convert_bytes_arg w src e e1 dX b off cH.length cap xs U (fun i hi=>?_) dst e2;obtain⟨aK,_⟩:=ax i (by omega);have a7:=hu i 0 _ aK;have bp:=aE i 0 _ aK;generalize us i 0=u at a7 bp;cases bp;rw[Nat.mul_one,m']at a7;exact (cell_of_heap aj (by simpa using a7))
   cases np
  cases h
 cases h
def JR(P:Program)(t:TypeId)(p q:aJ)(ans:List ci):jY:=
 match P.underlying t,p.leaf,q.int with
 | some .string,some (.v (.string s)),some (_,n)=>
  match ans with
  | .num m::r=>some (.one (.v (.int .u8 m)),r,[0<=n,(s[n.toNat]?).map (fun b=>((b.toNat:Nat):Int))=some m])
  | _=>none
 | _,_,_=>none
variable{q:aJ}
theorem asm
  (hp:cU (Sat w ω τ) p u) (az:cU (Sat w ω τ) q v) (h:JR P t p q ans=some (r,cu,obs)) (aU:cO obs):∃z,(Instr.index t u v).run P w=.ok z w/\cU (Sat w ω τ) r z:=by
 unfold JR at h;split at h
 ·rename_i s AU n e1 e2 ck;split at h
  ·rename_i m hA;simp only[aX,bJ]at h;obtain⟨rfl,_,rfl⟩:=h;obtain⟨bg,h1,_⟩:=aU;have:u=.string s:=aJ.dN e2 hp;subst this;rw[aJ.oq ck az];rw[b8]at h1;obtain⟨b,aj,hm⟩:=h1;exact⟨.int .u8 m,by simp[Instr.index,asIntOf,run_underlying e1,bg,aj,hm],rfl⟩
  cases h
 cases h
def JS(p q:aJ)(ans:List ci):jY:=
 match p.int,q.int with
 | some (k,a),some (_,b)=>some (.one (.v (.int k (if b<a then b else a))),ans,[])
 | _,_=>none
def JT(p q:aJ)(ans:List ci):jY:=
 match p.int,q.int with
 | some (k,a),some (_,b)=>some (.one (.v (.int k (if b>a then b else a))),ans,[])
 | _,_=>none
theorem asn{P:Program}{ts:Array TypeId}{ty:TypeId}
  (hp:cU (Sat w ω τ) p u) (az:cU (Sat w ω τ) q v) (h:JS p q ans=some (r,cu,obs)):∃z,(Builtin.min_ ts ty #[u,v]).run P w=.ok z w/\cU (Sat w ω τ) r z:=by
 unfold JS at h;split at h
 ·rename_i k a AU b e1 e2;simp only[aX,bJ]at h;obtain⟨rfl,_,_⟩:=h;rw[aJ.oq e1 hp,aJ.oq e2 az];exact⟨_,by simp[Builtin.min_,Builtin.min2],rfl⟩
 cases h
theorem aso{P:Program}{ts:Array TypeId}{ty:TypeId}
  (hp:cU (Sat w ω τ) p u) (az:cU (Sat w ω τ) q v) (h:JT p q ans=some (r,cu,obs)):∃z,(Builtin.max_ ts ty #[u,v]).run P w=.ok z w/\cU (Sat w ω τ) r z:=by
 unfold JT at h;split at h
 ·rename_i k a AU b e1 e2;simp only[aX,bJ]at h;obtain⟨rfl,_,_⟩:=h;rw[aJ.oq e1 hp,aJ.oq e2 az];exact⟨_,by simp[Builtin.max_,Builtin.max2],rfl⟩
 cases h
def Rp(p:aJ)(ans:List ci):jY:=
 match p.leaf with
 | some (.ptr id off)=>some (.one (.ptr id off),ans,[])
 | some (.ep t k es i j)=>some (.one (.ep t k es i j),ans,[])
 | some (.h0 ds off)=>some (.one (.h0 ds off),ans,[])
 | some (.aO t i j k es (.at_ x y))=>some (.one (.aO t i j k es (.at_ x y)),ans,[])
 | _=>none
def Q0(p:aJ):Option Nat:=
 match p.leaf with
 | some (.ptr id 0)=>some id
 | _=>none
def Pr(p:aJ):Option D:=
 match p.leaf with
 | some (.h0 ds 0)=>some (.ptr ds)
 | some (.v x)=>if x.oneCell' then some (.v x) else none
 | _=>none
def Ee(st:aF)(fn:Fn)(first captured:List Operand)(ans:List ci):jY:=
 match fn,first with
 | .func g,[]=>
  match (captured.map st.br).mapM Q0 with
  | some ids=>some (.one (.gP g ids),ans,[])
  | none=>
   match (captured.map st.br).mapM Pr with
   | some ds=>some (.one (.fd (.cl g ds)),ans,[])
   | none=>none
 | _,_=>none
theorem KC{α β:Type}{f:α->Option β}:∀{xs:List α} {ys:List β},xs.mapM f=some ys->ys.length=xs.length/\∀(i:Nat) (y:β),ys[i]?=some y->∃x,xs[i]?=some x/\f x=some y
 | [],ys,h=>by simp at h;subst h;simp
 | x::xs,ys,h=>by
  rw[xO]at h;cases e:f x with
  | none=>simp[e]at h
  | some y=>
   cases e2:xs.mapM f with
   | none=>simp[e,e2]at h
   | some zs=>
    simp[e,e2]at h;subst h;obtain⟨h1,U⟩:=KC e2;refine⟨by simp[h1],fun i gy hi=>?_⟩;cases i with
    | zero=>simp at hi;subst hi;exact⟨x,rfl,e⟩
    | succ i=>simpa using U i gy (by simpa using hi)
theorem asp{P:Program}{fn:Fn}{first captured:Array Operand}
  (aZ:cI w0 st a w ω τ) (h:Ee st fn first.toList captured.toList ans=some (r,cu,obs)):
  ∃z,(Instr.makeFunc fn (first.map a.eval) (captured.map a.eval)).run P w=.ok z w/\cU (Sat w ω τ) r z:=by
 unfold Ee at h;split at h
 ·rename_i g aaV;have bw:first=#[]:=by
   rcases first with⟨l⟩
   simpa using aaV
  subst bw;refine⟨.func (.func g) #[] (captured.map a.eval),by simp[Instr.makeFunc],?_⟩;have rh:∀(i:Nat) (x:aJ),(captured.toList.map st.br)[i]?=some x->∃v,(captured.map a.eval)[i]?=some v/\cU (Sat w ω τ) x v:=by
   intro i x aa;rw[du,b8]at aa;obtain⟨o,aU,rfl⟩:=aa;refine⟨a.eval o,?_,aZ.br o⟩;rw[zU];rw[nY]at aU;rw[aU];rfl
  split at h
  ·rename_i ids aa8;simp only[aX,bJ]at h;obtain⟨rfl,_,_⟩:=h;obtain⟨aR,av⟩:=KC aa8;have hex:∀i,i<ids.length->∃b id,ids[i]?=some id/\(captured.map a.eval)[i]?=some (ptrTo b)/\ω b=.box id:=by
    intro i hi;obtain⟨x,aa,ka⟩:=av i ids[i] (by simp[hi]);obtain⟨v,bF,ai⟩:=rh i x aa;unfold Q0 at ka;split at ka
    ·rename_i id ag;simp only[aX]at ka;obtain⟨b,aj,rfl⟩:=aJ.dN ag ai;exact⟨b,id,by simp[hi,ka],bF,aj⟩
    cases ka
   have eT:(captured.map a.eval).size=ids.length:=by simp at aR;simp[aR]
   let bs:=(List.range ids.length).map fun i=>(match (captured.map a.eval)[i]? with | some (.pointer (some p))=>p.block | _=>0)
   refine⟨bs,?_,by simp[bs],fun i id fT=>?_⟩
   ·congr 1
    apply Array.ext
    ·simp[bs,eT]
    intro i h1 U;obtain⟨b,id,_,bF,_⟩:=hex i (by rw[<-eT];exact h1);have mD:=bF;rw[h3 h1,aX]at mD;rw[mD];have e:bs[i]'(by simpa using U)=b:=by simp only[bs,List.getElem_map,List.getElem_range,bF,ptrTo]
    simp[e]
   have hi:=(eW.1 fT).1;obtain⟨b,gZ,P6,bF,aj⟩:=hex i hi;rw[fT]at P6;have:=eE P6;subst this;refine⟨b,?_,aj⟩;simp only[bs,du,List.getElem?_range hi,n0,bF,ptrTo]
  split at h
  ·rename_i ds eI;simp only[aX,bJ]at h;obtain⟨rfl,_,_⟩:=h;obtain⟨aR,av⟩:=KC eI;refine b7.cl _ g ds (captured.map a.eval) (fun j=>(captured.map a.eval).getD j undef) (by simp at aR;simp[aR]) (fun j d aE=>?_) (fun j d aE=>?_)
   ·obtain⟨x,aa,_⟩:=av j d aE;obtain⟨v,bF,_⟩:=rh j x aa;rw[bF];simp only[ew,bF,ji]
   obtain⟨x,aa,ka⟩:=av j d aE;obtain⟨v,bF,ai⟩:=rh j x aa;have e:(captured.map a.eval).getD j undef=v:=by simp only[ew,bF,ji]
   rw[e];unfold Pr at ka;split at ka
   ·rename_i sr ag;simp only[aX]at ka;subst ka;obtain⟨b,rfl,aA⟩:=aJ.dN ag ai;exact aA.frame fun b q aj az=>⟨az,rfl⟩
   ·rename_i y ag;split at ka
    ·rename_i abI;simp only[aX]at ka;subst ka;have:v=y:=aJ.dN ag ai;subst this;exact .v _ _ abI
    cases ka
   cases ka
  cases h
 cases h
def Ef(P:Program)(st:aF)(b:Builtin)(args:List Operand)(ts:List TypeId)(ans:List ci):jY:=
 match b,args,ts with
 | .len,[x],[t]=>J2 P t (st.br x) ans
 | .min,[x,y],_=>JS (st.br x) (st.br y) ans
 | .max,[x,y],_=>JT (st.br x) (st.br y) ans
 | _,_,_=>none
def py(P:Program)(st:aF)(op:Op)(ans:List ci):jY:=
 match op with
 | .move x | .assign x=>some (st.br x,ans,[])
 | .pick c a b=>dA (st.br c) (st.br a) (st.br b) ans
 | .load t x=>Ea P st t (st.br x) ans
 | .nilCheck x=>Rp (st.br x) ans
 | .binOp op t x y _=>JY P op t x y (st.br x) (st.br y) ans
 | .unOp op _ x=>JP op (st.br x) ans
 | .convert s d x=>JQ P s d (st.br x) ans
 | .slice t x cZ hi jc=>Eb P st t (st.br x) cZ hi jc ans
 | .fieldAddr s x f=>J0 P s (st.br x) f ans
 | .field t x f=>JO P t (st.br x) f ans
 | .indexAddr t x i=>J1 P t (st.br x) (st.br i) ans
 | .index t x i=>JR P t (st.br x) (st.br i) ans
 | .extract x i=>JN (st.br x) i ans
 | .build t parts=>Ec P st t parts.toList ans
 | .call ⟨.builtin b,args,ts⟩=>Ef P st b args.toList ts.toList ans
 | .makeFunc fn first captured=>Ee st fn first.toList captured.toList ans
 | _=>none
theorem jh{aS:World}{s:Sem Value}{z:Value}(h:s.run P w=.ok z aS):(do pure (.value (<-s)):Sem Next).run P w=.ok (.value z) aS:=by
 rw[Sem.run_bind,h];rfl
theorem asq{b:Builtin}{args:Array Operand}{ts:Array TypeId}{ty:TypeId}{consts:Array Bool}
  (aZ:cI w0 st a w ω τ) (h:Ef P st b args.toList ts.toList ans=some (r,cu,obs)):
  ∃z,(builtin b ts ty consts (args.map a.eval)).run P w=.ok (.value z) w/\cU (Sat w ω τ) r z:=by
 obtain⟨args⟩:=args;obtain⟨ts⟩:=ts;unfold Ef at h;split at h
 ·rename_i x t e1 e2;simp only at e1 e2;subst e1 e2;obtain⟨z,h1,U⟩:=asd (ty:=ty) (aZ.br x) h;refine⟨z,jh (s:=Builtin.len_ #[t] ty (Array.map a.eval #[x])) ?_,U⟩;simpa using h1
 ·rename_i x y e1;simp only at e1;subst e1;obtain⟨z,h1,U⟩:=asn (P:=P) (ts:=⟨ts⟩) (ty:=ty) (aZ.br x) (aZ.br y) h;refine⟨z,jh (s:=Builtin.min_ ⟨ts⟩ ty (Array.map a.eval #[x,y])) ?_,U⟩;simpa using h1
 ·rename_i x y e1;simp only at e1;subst e1;obtain⟨z,h1,U⟩:=aso (P:=P) (ts:=⟨ts⟩) (ty:=ty) (aZ.br x) (aZ.br y) h;refine⟨z,jh (s:=Builtin.max_ ⟨ts⟩ ty (Array.map a.eval #[x,y])) ?_,U⟩;simpa using h1
 cases h
theorem KD{o:Oper}
  (aZ:cI w0 st a w ω τ) (h:py P st o.op ans=some (r,cu,obs)) (aU:cO obs):
  ∃z,(execOp a.eval o).run P w=.ok (.value z) w/\cU (Sat w ω τ) r z:=by
 obtain⟨dst,op,type,pos,after,guard⟩:=o;simp only at h;unfold py at h;split at h
 ·rename_i x;simp only[aX,bJ]at h;obtain⟨rfl,_,_⟩:=h;exact⟨a.eval x,rfl,aZ.br x⟩
 ·rename_i x;simp only[aX,bJ]at h;obtain⟨rfl,_,_⟩:=h;exact⟨a.eval x,rfl,aZ.br x⟩
 ·rename_i c x y;exact asj (aZ.br c) (aZ.br x) (aZ.br y) h aU
 ·rename_i t x;obtain⟨z,h1,U⟩:=asM aZ (aZ.br x) h aU;exact⟨z,jh h1,U⟩
 ·rename_i x;unfold Rp at h;split at h
  ·rename_i id off e;simp only[aX,bJ]at h;obtain⟨rfl,_,_⟩:=h;have ai:=aJ.dN e (aZ.br x);obtain⟨b,aj,aa⟩:=ai;exact⟨_,by simp only[execOp,aa];rfl,b,aj,rfl⟩
  ·rename_i t k es i j e;simp only[aX,bJ]at h;obtain⟨rfl,_,_⟩:=h;have ai:=aJ.dN e (aZ.br x);have dg:=ai;obtain⟨b,off,cap,aa,h1⟩:=ai;refine⟨_,by simp only[execOp,aa];rfl,?_⟩;rw[<-aa];exact dg
  ·rename_i ds off e;simp only[aX,bJ]at h;obtain⟨rfl,_,_⟩:=h;have ai:=aJ.dN e (aZ.br x);have dg:=ai;obtain⟨b,aa,h1⟩:=ai;refine⟨_,by simp only[execOp,aa];rfl,?_⟩;rw[<-aa];exact dg
  ·rename_i t i j k es ayf O1 e;simp only[aX,bJ]at h;obtain⟨rfl,_,_⟩:=h;have ai:=aJ.dN e (aZ.br x);have dg:=ai;obtain⟨hQ,⟨b,off,cap,_,aa,_⟩,_⟩:=ai;refine⟨_,by simp only[execOp,aa];rfl,?_⟩;rw[<-aa];exact dg
  cases h
 ·rename_i acH t x y qU;obtain⟨z,h1,U⟩:=asI (aZ.br x) (aZ.br y) h aU;exact⟨z,jh h1,U⟩
 ·rename_i acH t x;obtain⟨z,h1,U⟩:=asi (aZ.br x) h aU;exact⟨z,jh h1,U⟩
 ·rename_i s d x;obtain⟨z,h1,U⟩:=asl (aZ.br x) h aU;exact⟨z,jh h1,U⟩
 ·rename_i t x cZ hi jc;obtain⟨z,h1,U⟩:=ase aZ (aZ.br x) h aU;exact⟨z,jh h1,U⟩
 ·rename_i s x f;obtain⟨z,h1,U⟩:=asJ (aZ.br x) h;exact⟨z,jh h1,U⟩
 ·rename_i t x f;obtain⟨z,h1,U⟩:=ash (aZ.br x) h;exact⟨z,jh h1,U⟩
 ·rename_i t x i;obtain⟨z,h1,U⟩:=asK (aZ.br x) (aZ.br i) h aU;exact⟨z,jh h1,U⟩
 ·rename_i t x i;obtain⟨z,h1,U⟩:=asm (aZ.br x) (aZ.br i) h aU;exact⟨z,jh h1,U⟩
 ·rename_i x i;obtain⟨z,h1,U⟩:=asg (P:=P) (aZ.br x) h;exact⟨z,jh h1,U⟩
 ·rename_i t parts;obtain⟨z,h1,U⟩:=asf aZ h;exact⟨z,jh h1,U⟩
 ·rename_i b args ts;obtain⟨z,h1,U⟩:=asq (ty:=type) (consts:=args.map fun | .const _=>true | _=>false) aZ h;exact⟨z,by simp only[execOp,resolve,Sem.run_bind,Sem.run_pure,Result.andThen_ok,invoke];exact h1,U⟩
 ·rename_i fn first captured
  obtain⟨z,h1,U⟩:=asp (P:=P) aZ h;exact⟨z,jh h1,U⟩
 cases h
