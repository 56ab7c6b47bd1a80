import Derived.WalkKit
import Derived.WalkSpells
import Derived.WalkLawsBesides
import Derived.KernelRfl
set_option linter.unusedVariables false
set_option linter.unusedSimpArgs false
namespace Go.Sx
open Go.RowKit
universe u v w x
theorem aa:True:=⟨⟩
theorem aQ:type_of% @Option.some.injEq.{u}:=@Option.some.injEq.{u}
theorem bm:type_of% @List.length_map.{u,v}:=@List.length_map.{u,v}
theorem b0:type_of% @Option.map_eq_some_iff.{u,v}:=@Option.map_eq_some_iff.{u,v}
theorem bu:type_of% @Prod.mk.injEq.{u,v}:=@Prod.mk.injEq.{u,v}
theorem c7:type_of% @Bool.eq_false_or_eq_true:=@Bool.eq_false_or_eq_true
theorem ki:type_of% @decide_eq_false_iff_not:=@decide_eq_false_iff_not
theorem ht:type_of% @List.mem_cons_of_mem.{u}:=@List.mem_cons_of_mem.{u}
theorem b9:type_of% @List.length_nil.{u}:=@List.length_nil.{u}
theorem cK:type_of% @decide_eq_true_eq:=@decide_eq_true_eq
theorem cq:type_of% @Bool.and_eq_true:=@Bool.and_eq_true
theorem eu:type_of% @List.getElem?_eq_some_iff.{u}:=@List.getElem?_eq_some_iff.{u}
theorem d':type_of% @Array.getD_eq_getD_getElem?.{u}:=@Array.getD_eq_getD_getElem?.{u}
theorem gN:type_of% @List.mem_cons_self.{u}:=@List.mem_cons_self.{u}
theorem fb:type_of% @List.length_set.{u}:=@List.length_set.{u}
theorem bg:type_of% @if_neg.{u}:=@if_neg.{u}
theorem br:type_of% @if_pos.{u}:=@if_pos.{u}
theorem dH:type_of% @List.length_cons.{u}:=@List.length_cons.{u}
theorem dd:type_of% @List.getElem?_map.{u,v}:=@List.getElem?_map.{u,v}
theorem ly:type_of% @decide_eq_false:=@decide_eq_false
theorem gp:type_of% @List.getElem?_eq_getElem.{u}:=@List.getElem?_eq_getElem.{u}
theorem dx:type_of% @Nat.zero_add:=@Nat.zero_add
theorem fp:type_of% @List.mem_of_getElem?.{u}:=@List.mem_of_getElem?.{u}
theorem eL:type_of% @Option.some.inj.{u}:=@Option.some.inj.{u}
theorem gq:type_of% @Bool.or_eq_false_iff:=@Bool.or_eq_false_iff
theorem iO:type_of% @Array.getElem?_eq_some_iff.{u}:=@Array.getElem?_eq_some_iff.{u}
theorem jZ:type_of% @List.getElem?_drop.{u}:=@List.getElem?_drop.{u}
theorem gK:type_of% @Nat.mul_le_mul_right:=@Nat.mul_le_mul_right
theorem k1:type_of% @List.take_length.{u}:=@List.take_length.{u}
theorem hJ:type_of% @Array.getElem?_eq_getElem.{u}:=@Array.getElem?_eq_getElem.{u}
theorem dY:type_of% @beq_iff_eq.{u}:=@beq_iff_eq.{u}
theorem j1:type_of% @List.getElem?_take.{u}:=@List.getElem?_take.{u}
theorem VW:type_of% @List.cons.inj.{u}:=@List.cons.inj.{u}
theorem mT:type_of% @Array.getElem?_toList.{u}:=@Array.getElem?_toList.{u}
theorem hZ:type_of% @List.mem_append_left.{u}:=@List.mem_append_left.{u}
theorem iz:type_of% @List.mem_append_right.{u}:=@List.mem_append_right.{u}
theorem jI:type_of% @Array.getElem?_append.{u}:=@Array.getElem?_append.{u}
theorem et:type_of% @List.mem_cons.{u}:=@List.mem_cons.{u}
theorem fv:type_of% @List.all_eq_true.{u}:=@List.all_eq_true.{u}
theorem ik:type_of% @List.getD_eq_getElem?_getD.{u}:=@List.getD_eq_getElem?_getD.{u}
theorem fK:type_of% @Nat.le_refl:=@Nat.le_refl
theorem hr:type_of% @List.any_eq_false.{u}:=@List.any_eq_false.{u}
theorem lr:type_of% @Bool.eq_false_iff:=@Bool.eq_false_iff
theorem fo:type_of% @Nat.add_mul:=@Nat.add_mul
theorem g':type_of% @Bool.not_eq_true':=@Bool.not_eq_true'
theorem kB:type_of% @List.getElem?_append.{u}:=@List.getElem?_append.{u}
theorem ha:type_of% @List.map_append.{u,v}:=@List.map_append.{u,v}
theorem iA:type_of% @Option.getD_some.{u}:=@Option.getD_some.{u}
theorem kC:type_of% @List.map_congr_left.{u,v}:=@List.map_congr_left.{u,v}
theorem kD:type_of% @Bool.not_eq_false':=@Bool.not_eq_false'
theorem o5:type_of% @List.getElem?_toArray.{u}:=@List.getElem?_toArray.{u}
theorem jJ:type_of% @Bool.not_true:=@Bool.not_true
theorem lu:type_of% @List.append_nil.{u}:=@List.append_nil.{u}
theorem hs:type_of% @List.length_append.{u}:=@List.length_append.{u}
theorem mU:type_of% @List.size_toArray.{u}:=@List.size_toArray.{u}
theorem jK:type_of% @List.getElem?_set.{u}:=@List.getElem?_set.{u}
theorem l0:type_of% @Int.toNat_natCast:=@Int.toNat_natCast
theorem n1:type_of% @List.getElem?_cons_succ.{u}:=@List.getElem?_cons_succ.{u}
theorem j2:type_of% @List.getElem?_cons_zero.{u}:=@List.getElem?_cons_zero.{u}
theorem lv:type_of% @Option.bind_eq_some_iff.{u,v}:=@Option.bind_eq_some_iff.{u,v}
theorem x8:type_of% @List.findIdx?_eq_some_iff_getElem.{u}:=@List.findIdx?_eq_some_iff_getElem.{u}
theorem o6:type_of% @Option.isSome_iff_exists.{u}:=@Option.isSome_iff_exists.{u}
theorem o7:type_of% @List.mem_iff_getElem?.{u}:=@List.mem_iff_getElem?.{u}
theorem jL:type_of% @Bool.false_or:=@Bool.false_or
theorem Bt:type_of% @List.set_set.{u}:=@List.set_set.{u}
theorem l1:type_of% @Option.bind_some.{u,v}:=@Option.bind_some.{u,v}
theorem rc:type_of% @Bool.false_eq_true:=@Bool.false_eq_true
theorem j3:type_of% @decide_eq_true:=@decide_eq_true
theorem aui:type_of% @Int.le_trans:=@Int.le_trans
theorem mV:type_of% @List.mem_flatMap.{u,v}:=@List.mem_flatMap.{u,v}
theorem sD:type_of% @List.getElem?_append_right.{u}:=@List.getElem?_append_right.{u}
theorem ud:type_of% @List.length_filter_le.{u}:=@List.length_filter_le.{u}
theorem iB:type_of% @List.map_set.{u,v}:=@List.map_set.{u,v}
theorem l2:type_of% @List.map_cons.{u,v}:=@List.map_cons.{u,v}
theorem l3:type_of% @Option.map_some.{u,v}:=@Option.map_some.{u,v}
theorem x9:type_of% @List.getElem_mem.{u}:=@List.getElem_mem.{u}
theorem lx:type_of% @List.length_take.{u}:=@List.length_take.{u}
theorem mW:type_of% @List.mem_append.{u}:=@List.mem_append.{u}
theorem re:type_of% @List.append_assoc.{u}:=@List.append_assoc.{u}
theorem gL:type_of% @if_true.{u}:=@if_true.{u}
theorem o8:type_of% @Bool.not_false:=@Bool.not_false
theorem ue:type_of% @Array.size_append.{u}:=@Array.size_append.{u}
theorem sE:type_of% @List.take_add_one.{u}:=@List.take_add_one.{u}
theorem n2:type_of% @List.mem_or_eq_of_mem_set.{u}:=@List.mem_or_eq_of_mem_set.{u}
theorem x':type_of% @List.getElem?_append_left.{u}:=@List.getElem?_append_left.{u}
theorem Fg:type_of% @List.mem_of_mem_take.{u}:=@List.mem_of_mem_take.{u}
theorem n3:type_of% @Bool.or_eq_true:=@Bool.or_eq_true
theorem l4:type_of% @Nat.add_zero:=@Nat.add_zero
theorem ya:type_of% @List.take_of_length_le.{u}:=@List.take_of_length_le.{u}
theorem o9:type_of% @Bool.true_and:=@Bool.true_and
theorem k2:type_of% @List.mem_map.{u,v}:=@List.mem_map.{u,v}
theorem Mt:type_of% @List.mem_of_mem_drop.{u}:=@List.mem_of_mem_drop.{u}
theorem Bu:type_of% @List.getElem?_replicate.{u}:=@List.getElem?_replicate.{u}
theorem rf:type_of% @Nat.lt_or_ge:=@Nat.lt_or_ge
theorem wh:type_of% @beq_eq_false_iff_ne.{u}:=@beq_eq_false_iff_ne.{u}
theorem rh:type_of% @List.cons.injEq.{u}:=@List.cons.injEq.{u}
theorem Mu:type_of% @List.findIdx?_eq_none_iff.{u}:=@List.findIdx?_eq_none_iff.{u}
theorem uf:type_of% @Bool.not_eq_true:=@Bool.not_eq_true
theorem mX:type_of% @List.not_mem_nil.{u}:=@List.not_mem_nil.{u}
theorem ug:type_of% @List.eq_nil_of_length_eq_zero.{u}:=@List.eq_nil_of_length_eq_zero.{u}
theorem Mv:type_of% @List.take_append_of_le_length.{u}:=@List.take_append_of_le_length.{u}
theorem uh:type_of% @Array.length_toList.{u}:=@Array.length_toList.{u}
theorem sF:type_of% @beq_self_eq_true.{u}:=@beq_self_eq_true.{u}
theorem yb:type_of% @Nat.lt_of_lt_of_le:=@Nat.lt_of_lt_of_le
theorem Fh:type_of% @Option.isSome_eq_false_iff.{u}:=@Option.isSome_eq_false_iff.{u}
theorem Fi:type_of% @List.take_append_drop.{u}:=@List.take_append_drop.{u}
theorem gM:type_of% @ne_eq.{u}:=@ne_eq.{u}
theorem Fj:type_of% @Option.isNone_iff_eq_none.{u}:=@Option.isNone_iff_eq_none.{u}
theorem ui:type_of% @Nat.le_trans:=@Nat.le_trans
theorem ri:type_of% @List.map_id.{u}:=@List.map_id.{u}
theorem uj:type_of% @List.any_cons.{u}:=@List.any_cons.{u}
theorem wi:type_of% @List.mapM_cons.{u,v,w}:=@List.mapM_cons.{u,v,w}
theorem mY:type_of% @if_false.{u}:=@if_false.{u}
theorem qk:type_of% @List.any_eq_true.{u}:=@List.any_eq_true.{u}
theorem yc:type_of% @List.drop_zero.{u}:=@List.drop_zero.{u}
theorem auj:type_of% @Int.natCast_zero:=@Int.natCast_zero
theorem Fk:type_of% @List.flatMap_nil.{u,v}:=@List.flatMap_nil.{u,v}
theorem Bv:type_of% @Array.getElem?_eq_none.{u}:=@Array.getElem?_eq_none.{u}
theorem yd:type_of% @Array.getElem?_map.{u,v}:=@Array.getElem?_map.{u,v}
theorem Fl:type_of% @Option.toList_some.{u}:=@Option.toList_some.{u}
theorem Mw:type_of% @List.range_zero:=@List.range_zero
theorem uk:type_of% @List.map_take.{u,v}:=@List.map_take.{u,v}
theorem um:type_of% @Bool.and_true:=@Bool.and_true
theorem ye:type_of% @List.length_range:=@List.length_range
theorem Bw:type_of% @Nat.mod_eq_of_lt:=@Nat.mod_eq_of_lt
theorem Bx:type_of% @Nat.add_assoc:=@Nat.add_assoc
theorem uo:type_of% @List.sum_cons.{u}:=@List.sum_cons.{u}
inductive D where
 | v (x:Value)
 | J (k:Nat) (es:List (List D))
 | ptr (ds:List D)
 | cl (g:FuncId) (bK:List D)
inductive cS where
 | bE
 | box (id:Nat)
 | tok (t:Nat) (q:List (Nat×Nat))
abbrev Own:=Nat->cS
def cT(es:List (List D))(i j:Nat):Option D:=(es[i]?).bind (·[j]?)
inductive bW (w:World) (ω:Own):(List (Nat×Nat)->cS->Prop)->D->Value->Prop
 | v (R:List (Nat×Nat)->cS->Prop) (x:Value) (h1:x.oneCell'=true):bW w ω R (.v x) x
 | nil (R:List (Nat×Nat)->cS->Prop) (k:Nat) (a:Option Addr):bW w ω R (.J k []) (.slice a 0 0)
 | row (R:List (Nat×Nat)->cS->Prop) (k:Nat) (es:List (List D)) (b off cap:Nat) (arr:Array Value) (ty:TypeId) (cN:Nat×Nat) (us:Nat->Nat->Value)
   (aq:w.heap[b]?=some (.cells arr ty cN)) (dI:R [] (ω b)) (ah:es.length<=cap) (ai:off+cap*k<=arr.size) (hk:∀e∈es,e.length=k)
   (hu:∀i j d,cT es i j=some d->arr[off+i*k+j]?=some (us i j))
   (aE:∀i j d,cT es i j=some d->bW w ω (fun q=>R ((i,j)::q)) d (us i j)):
   bW w ω R (.J k es) (.slice (some ⟨b,off,none⟩) es.length cap)
 | ptr (R:List (Nat×Nat)->cS->Prop) (ds:List D) (b:Nat) (arr:Array Value) (ty:TypeId) (cN:Nat×Nat) (us:Nat->Value)
   (aq:w.heap[b]?=some (.cells arr ty cN)) (dI:R [] (ω b)) (ai:arr.size=ds.length)
   (hu:∀j d,ds[j]?=some d->arr[j]?=some (us j)) (aE:∀j d,ds[j]?=some d->bW w ω (fun q=>R ((0,j)::q)) d (us j)):
   bW w ω R (.ptr ds) (.pointer (some ⟨b,0,none⟩))
 | cl (R:List (Nat×Nat)->cS->Prop) (g:FuncId) (bK:List D) (cs:Array Value) (us:Nat->Value) (ai:cs.size=bK.length)
   (hu:∀j d,bK[j]?=some d->cs[j]?=some (us j)) (aE:∀j d,bK[j]?=some d->bW w ω (fun q=>R ((0,j)::q)) d (us j)):
   bW w ω R (.cl g bK) (.func (.func g) #[] cs)
variable{w aN:World}{ω:Own}
theorem bW.frame{aY:Own}{R:List (Nat×Nat)->cS->Prop}{d:D}{v:Value}(h:bW w ω R d v):
  ∀{h0:List (Nat×Nat)->cS->Prop},(∀b q,b<w.heap.size->R q (ω b)->h0 q (aY b)/\aN.heap[b]?=w.heap[b]?)->bW aN aY h0 d v:=by
 induction h with
 | v R x h1=>intro h0 _;exact .v h0 x h1
 | nil R k a=>intro h0 _;exact .nil h0 k a
 | row R k es b off cap arr ty cN us aq dI ah ai hk hu aE dE=>
  intro h0 bY;have bC:b<w.heap.size:=by
   rcases rf b w.heap.size with h | h
   ·exact h
   simp[Bv h]at aq
  obtain⟨h1,U⟩:=bY b [] bC dI;exact .row h0 k es b off cap arr ty cN us (U.trans aq) h1 ah ai hk hu (fun i j d dD=>dE i j d dD (fun b q ak aC=>bY b ((i,j)::q) ak aC))
 | ptr R ds b arr ty cN us aq dI ai hu aE dE=>
  intro h0 bY;have bC:b<w.heap.size:=by
   rcases rf b w.heap.size with h | h
   ·exact h
   simp[Bv h]at aq
  obtain⟨h1,U⟩:=bY b [] bC dI;exact .ptr h0 ds b arr ty cN us (U.trans aq) h1 ai hu (fun j d dD=>dE j d dD (fun b q ak aC=>bY b ((0,j)::q) ak aC))
 | cl R g bK cs us ai hu aE dE=>
  intro h0 bY;exact .cl h0 g bK cs us ai hu (fun j d dD=>dE j d dD (fun b q ak aC=>bY b ((0,j)::q) ak aC))
inductive Tag where
 | free
 | own (t:Nat)
 | ro (t:Nat)
def Tag.R:Tag->List (Nat×Nat)->cS->Prop
 | .free,_,o=>o=.bE
 | .own t,q,o=>o=.tok t q
 | .ro t,_,o=>o=.bE\/∃q,o=.tok t q
def Tag.dN(τ:Nat->Nat×Value):Tag->Nat×Value->Prop
 | .own t,y=>τ t=y
 | _,_=>True
def c3:Nat:=1000000000
inductive eK where
 | cp
 | v (x:Value)
 | J (t:Tag) (k:Nat) (es:List (List D))
inductive uy where
 | here
 | k7
 | at_ (x y:Nat)
def uy.rel(k n:Nat):uy->Value->Value->Prop
 | .at_ x y,u,v=>∃b off cap,u=.slice (some ⟨b,off,none⟩) n cap/\v=.pointer (some ⟨b,off+x*k+y,none⟩)/\x<n
 | _,u,v=>v=u
def uy.home:uy->Bool
 | .k7=>false
 | _=>true
inductive aB where
 | cp
 | v (x:Value)
 | bc (c:Bool)
 | J (t:Tag) (k:Nat) (es:List (List D))
 | ptr (id off:Nat)
 | cX (t:Tag) (k:Nat) (es:List (List D)) (i j:Nat)
 | hF (ds:List D) (off:Nat)
 | fd (d:D)
 | gg (g:FuncId) (ids:List Nat)
 | aO (t i j k:Nat) (es:List (List D)) (m:uy)
 | e5 (t:Nat) (vs:List eK)
 | dg (t k:Nat) (es:List (List D))
def ptrTo(b:Nat):Value:=.pointer (some ⟨b,0,none⟩)
def qm(w:World)(ω:Own)(τ:Nat->Nat×Value):eK->Value->Prop
 | .cp,_=>True
 | .v x,y=>y=x
 | .J t k es,y=>bW w ω t.R (.J k es) y/\t.dN τ (k,y)
def tS(w:World)(ω:Own)(τ:Nat->Nat×Value)(t i j:Nat)(u:Value):Prop:=
 ∃(kT b off len cap:Nat) (arr:Array Value) (ty:TypeId) (cN:Nat×Nat),τ t=(kT,.slice (some ⟨b,off,none⟩) len cap)/\ω b=.tok t []/\w.heap[b]?=some (.cells arr ty cN)/\arr[off+i*kT+j]?=some u
def Sat(w:World)(ω:Own)(τ:Nat->Nat×Value):aB->Value->Prop
 | .cp,_=>True
 | .v x,y=>y=x
 | .bc c,y=>y=.bool c
 | .J t k es,y=>bW w ω t.R (.J k es) y/\t.dN τ (k,y)
 | .ptr id off,y=>∃b,ω b=.box id/\y=.pointer (some ⟨b,off,none⟩)
 | .cX t k es i j,y=>∃b off cap,y=.pointer (some ⟨b,off+i*k+j,none⟩)/\i<es.length/\
   bW w ω t.R (.J k es) (.slice (some ⟨b,off,none⟩) es.length cap)/\t.dN τ (k,.slice (some ⟨b,off,none⟩) es.length cap)
 | .hF ds off,y=>∃b,y=.pointer (some ⟨b,off,none⟩)/\bW w ω Tag.free.R (.ptr ds) (ptrTo b)
 | .fd d,y=>bW w ω Tag.free.R d y
 | .gg g ids,y=>∃bs:List Nat,y=.func (.func g) #[] (bs.map ptrTo).toArray/\bs.length=ids.length/\∀(i:Nat) (id:Nat),ids[i]?=some id->∃b,bs[i]?=some b/\ω b=.box id
 | .dg t k es,y=>bW w ω Tag.free.R (.J k es) y/\(c3<=t->τ t=(k,y))
 | .aO t i j k es m,y=>∃u,m.rel k es.length u y/\bW w ω (fun q o=>o=.tok t ((i,j)::q)) (.J k es) u/\(m.home=true->tS w ω τ t i j u)
 | .e5 t vs,y=>∃(b:Nat) (ty:TypeId) (arr:Array Value),y=ptrTo b/\ω b=.tok t []/\w.heap[b]?=some (.cells arr ty (0,0))/\arr.size=vs.length/\∀(j:Nat) (c:eK),vs[j]?=some c->∃u,arr[j]?=some u/\qm w ω τ c u
inductive bq where
 | one (l:aB)
 | agg (ls:List aB)
inductive aI where
 | aJ (a:bq)
 | fE (as:List bq)
abbrev aI.one(l:aB):aI:=.aJ (.one l)
abbrev aI.agg(ls:List aB):aI:=.aJ (.agg ls)
abbrev aI.cp:aI:=.aJ (.one .cp)
def jP(S:aB->Value->Prop)(ls:List aB)(vs:Array Value):Prop:=
 vs.size=ls.length/\∀(i:Nat) (l:aB),ls[i]?=some l->∃u,vs[i]?=some u/\S l u
def jO(S:aB->Value->Prop):bq->Value->Prop
 | .one l,y=>S l y
 | .agg ls,y=>∃vs,y=.agg vs/\jP S ls vs
def cI(S:aB->Value->Prop):aI->Value->Prop
 | .aJ a,y=>jO S a y
 | .fE as,y=>∃vs:Array Value,y=.tuple vs/\vs.size=as.length/\∀(i:Nat) (a:bq),as[i]?=some a->∃u,vs[i]?=some u/\jO S a u
structure aH where
 env:List aI
 boxes:List (Nat×List aB)
def dn(id:Nat):List (Nat×List aB)->Option (List aB)
 | []=>none
 | (i,ls)::r=>if i=id then some ls else dn id r
def bq.map(f:aB->aB):bq->bq
 | .one l=>.one (f l)
 | .agg ls=>.agg (ls.map f)
def aI.map(f:aB->aB):aI->aI
 | .aJ a=>.aJ (a.map f)
 | .fE as=>.fE (as.map (bq.map f))
def aH.map(f:aB->aB)(s:aH):aH:=⟨s.env.map (aI.map f),s.boxes.map fun x=>(x.1,x.2.map f)⟩
variable{S:aB->Value->Prop}
theorem jP.map{j4:aB->Value->Prop}{f:aB->aB}(h:∀l v,S l v->j4 (f l) v){ls:List aB}{vs:Array Value}(ai:jP S ls vs):jP j4 (ls.map f) vs:=by
 refine⟨by simpa using ai.1,fun i l ak=>?_⟩;rw[dd,b0]at ak;obtain⟨eP,bJ,rfl⟩:=ak;obtain⟨u,h1,U⟩:=ai.2 i eP bJ;exact⟨u,h1,h _ _ U⟩
theorem jO.map{j4:aB->Value->Prop}{f:aB->aB}(h:∀l v,S l v->j4 (f l) v):∀{a:bq} {y:Value},jO S a y->jO j4 (a.map f) y
 | .one l,y,ai=>h _ _ ai
 | .agg ls,y,⟨vs,e,ai⟩=>⟨vs,e,ai.map h⟩
theorem cI.map{j4:aB->Value->Prop}{f:aB->aB}(h:∀l v,S l v->j4 (f l) v):∀{p:aI} {y:Value},cI S p y->cI j4 (p.map f) y
 | .aJ a,y,ai=>show jO j4 (a.map f) y from jO.map h (show jO S a y from ai)
 | .fE as,y,⟨vs,e,aT,ai⟩=>⟨vs,e,by simpa using aT,fun i a aj=>by
   rw[dd,b0]at aj;obtain⟨a0,bJ,rfl⟩:=aj;obtain⟨u,h1,U⟩:=ai i a0 bJ;exact⟨u,h1,jO.map h U⟩⟩
theorem r9(f:aB->aB)(id:Nat):∀bs:List (Nat×List aB),dn id (bs.map fun x=>(x.1,x.2.map f))=(dn id bs).map (·.map f)
 | []=>rfl
 | (i,ls)::r=>by
  simp only[l2,dn];split
  ·rfl
  exact r9 f id r
structure ej where
 w:World
 G:Nat->Prop
 H:Nat->Nat×Value
def ej.Cr(B:ej)(b:Nat):Prop:=B.w.heap.size<=b\/B.G b
def H3:Bool:=true
structure gd (n:Nat) (w aN:World):Prop where
 below:Below n w aN
 drawn:H3=true->w.drawn<=aN.drawn
variable{n:Nat}
theorem gd.size(h:gd n w aN):w.heap.size<=aN.heap.size:=h.below.size
theorem gd.block(h:gd n w aN):∀k,k<n->aN.heap[k]?=w.heap[k]?:=h.below.block
theorem gd.refl(n:Nat)(w:World):gd n w w:=⟨Below.refl _ _,fun _=>fK _⟩
theorem gd.drew(h:gd n w aN):gd n w aN.drew:=⟨h.below.drew,fun ai=>Nat.le_succ_of_le (h.drawn ai)⟩
theorem gd.alloc(h:gd n w aN)(aT:n<=aN.heap.size)(o:Obj):gd n w (aN.alloc o):=⟨h.below.alloc aT o,h.drawn⟩
def AT:List (Nat×List Int):=[]
def pd(w:World):Prop:=∀x∈AT,∃ty cN,w.heap[x.1]?=some (.cells (x.2.map (Value.int .u64)).toArray ty cN)
theorem pd.lt(h:pd w){x:Nat×List Int}(ag:x∈AT):x.1<w.heap.size:=by
 obtain⟨ty,cN,e⟩:=h x ag;rcases rf x.1 w.heap.size with h | h
 ·exact h
 simp[Bv h]at e
def Tidy(w:World)(ω:Own):Prop:=pd w/\∀x∈AT,ω x.1=.bE
structure gO (B:ej) (w:World):Prop where
 os:w.os=B.w.os
 tape:w.tape=B.w.tape
 output:w.output=B.w.output
 size:B.w.heap.size<=w.heap.size
 block:∀k,k<B.w.heap.size->¬B.G k->w.heap[k]?=B.w.heap[k]?
 drawn:H3=true->B.w.drawn<=w.drawn
 laid:pd w
 free:∀x∈Go.Sx.AT,¬B.Cr x.1
theorem pd.next(h:pd w)(k:gd w.heap.size w aN):pd aN:=fun x ag=>by
 rw[k.below.block x.1 (h.lt ag)];exact h x ag
theorem gO.next{B:ej}(h:gO B w)(k:gd w.heap.size w aN):gO B aN:=
 ⟨k.below.os.trans h.os,k.below.tape.trans h.tape,k.below.output.trans h.output,ui h.size k.below.size,fun i hi au=>(k.below.block i (yb hi h.size)).trans (h.block i hi au),fun ai=>ui (h.drawn ai) (k.drawn ai),h.laid.next k,h.free⟩
def ej.of(w:World):ej:=⟨w,fun _=>False,fun _=>(0,undef)⟩
theorem gO.refl(B:ej)(h:pd B.w)(au:∀x∈AT,¬B.G x.1):gO B B.w:=⟨rfl,rfl,rfl,fK _,fun _ _ _=>rfl,fun _=>fK _,h,fun x ag hm=>by
 rcases hm with hm | hm
 ·exact absurd (h.lt ag) (by omega)
 exact au x ag hm⟩
theorem gO.start{H:Nat->Nat×Value}(h:Tidy w ω):gO ⟨w,fun b=>ω b≠.bE,H⟩ w:=gO.refl ⟨w,fun b=>ω b≠.bE,H⟩ h.1 fun x ag hm=>hm (h.2 x ag)
theorem gO.below(h:gO (ej.of w) aN):gd w.heap.size w aN:=⟨⟨h.os,h.tape,h.output,h.size,fun k hk=>h.block k hk (fun h=>h)⟩,h.drawn⟩
theorem gO.setRow{B:ej}(h:gO B w){b:Nat}(aq:B.Cr b)(arr:Array Value):gO B (w.setRow b arr):=
 ⟨h.os,h.tape,h.output,by simpa using h.size,fun k hk au=>by
  have:k≠b:=by
   rintro rfl;rcases aq with aq | aq
   ·omega
   exact au aq
  rw[setRow_other w b k arr this];exact h.block k hk au,h.drawn,fun x ag=>by
  have:x.1≠b:=fun e=>h.free x ag (e▸aq)
  rw[setRow_other w b x.1 arr this];exact h.laid x ag,h.free⟩
def na(w0:ej)(w:World)(ω:Own):Prop:=∀b,ω b≠.bE->w0.Cr b/\∃arr ty,w.heap[b]?=some (.cells arr ty (0,0))
def sG(w:World)(ω:Own)(τ:Nat->Nat×Value)(id:Nat)(ls:List aB):Prop:=
 ∃b arr ty,ω b=.box id/\(∀cU,ω cU=.box id->cU=b)/\w.heap[b]?=some (.cells arr ty (0,0))/\jP (Sat w ω τ) ls arr
structure cw (w0:ej) (st:aH) (a:Act) (w:World) (ω:Own) (τ:Nat->Nat×Value):Prop where
 defers:a.defers=[]
 size:a.tmps.size=st.env.length
 below:gO w0 w
 owned:na w0 w ω
 fixed:∀t,c3<=t->τ t=w0.H t
 pinned:∀id b,c3<=id->ω b=.box id->(w0.H id).1=b
 env:∀(i:Nat) (p:aI),st.env[i]?=some p->∃v,a.tmps[i]?=some v/\cI (Sat w ω τ) p v
 boxes:∀id ls,dn id st.boxes=some ls->sG w ω τ id ls
def Rel(w0:ej)(st:aH)(a:Act)(w:World):Prop:=∃ω τ,cw w0 st a w ω τ
structure My (B:ej) (w:World):Prop where
 os:w.os=B.w.os
 tape:w.tape=B.w.tape
 output:w.output=B.w.output
 size:B.w.heap.size<=w.heap.size
 block:∀k,k<B.w.heap.size->¬B.G k->w.heap[k]?=B.w.heap[k]?
 drawn:H3=true->B.w.drawn<=w.drawn
variable{w0:ej}
theorem cw.tidy{st:aH}{a:Act}{aY:Own}{τ:Nat->Nat×Value}(h:cw w0 st a w ω τ)(c9:∀b,ω b=.bE->aY b=.bE):Tidy w aY:=
 ⟨h.below.laid,fun x ag=>c9 _ (Classical.byContradiction fun aT=>h.below.free x ag (h.owned _ aT).1)⟩
theorem na.lt(h:na w0 w ω){b:Nat}(aq:ω b≠.bE):b<w.heap.size:=by
 obtain⟨_,arr,ty,e⟩:=h b aq;rcases rf b w.heap.size with h | h
 ·exact h
 simp[Bv h]at e
theorem na.fresh(h:na w0 w ω){b:Nat}(aq:w.heap.size<=b):ω b=.bE:=by
 cases e:ω b with
 | bE=>rfl
 | box id=>have:=h.lt (b:=b) (by simp[e]);omega
 | tok t q=>have:=h.lt (b:=b) (by simp[e]);omega
end Go.Sx
namespace Go.Sx
open Go.RowKit
def eK.ci(g:Tag->Option Tag):eK->eK
 | .J t k es=>match g t with | some dc=>.J dc k es | none=>.cp
 | c=>c
def aB.ci(g:Tag->Option Tag)(p:Nat->Bool):aB->aB
 | .J t k es=>match g t with | some dc=>.J dc k es | none=>.cp
 | .cX t k es i j=>match g t with | some dc=>.cX dc k es i j | none=>.cp
 | .ptr id off=>if p id then .ptr id off else .cp
 | .gg f ids=>if ids.all p then .gg f ids else .cp
 | .aO t i j k es m=>match g (.own t) with | some (.own dc)=>if dc=t then .aO t i j k es m else .cp | _=>.cp
 | .e5 t vs=>match g (.own t) with | some (.own dc)=>if dc=t then .e5 t (vs.map (eK.ci g)) else .cp | _=>.cp
 | l=>l
structure k4 (w:World) (ω:Own) (τ:Nat->Nat×Value) (aN:World) (aY:Own) (cJ:Nat->Nat×Value) (g:Tag->Option Tag) (p:Nat->Bool):Prop where
 rep:∀t dc b q,g t=some dc->b<w.heap.size->t.R q (ω b)->dc.R q (aY b)/\aN.heap[b]?=w.heap[b]?
 dN:∀t dc y,g t=some dc->t.dN τ y->dc.dN cJ y
 box:∀id b,p id=true->ω b=.box id->aY b=.box id
 free:g .free=some .free
 fix:∀t,c3<=t->cJ t=τ t
variable{w aN:World}{ω aY:Own}{τ cJ:Nat->Nat×Value}{g:Tag->Option Tag}
theorem CJ(h:∀c u,qm w ω τ c u->qm aN aY cJ (eK.ci g c) u){arr:Array Value}{vs:List eK}
  (aT:arr.size=vs.length) (bA:∀(j:Nat) (c:eK),vs[j]?=some c->∃u,arr[j]?=some u/\qm w ω τ c u):
  arr.size=(vs.map (eK.ci g)).length/\∀(j:Nat) (c:eK),(vs.map (eK.ci g))[j]?=some c->∃u,arr[j]?=some u/\qm aN aY cJ c u:=by
 refine⟨by simpa using aT,fun j c ah=>?_⟩;rw[dd,b0]at ah;obtain⟨cW,bJ,rfl⟩:=ah;obtain⟨u,h1,U⟩:=bA j cW bJ;exact⟨u,h1,h cW u U⟩
theorem k4.kO{p:Nat->Bool}(h:k4 w ω τ aN aY cJ g p)(c:eK)(u:Value)(ai:qm w ω τ c u):qm aN aY cJ (eK.ci g c) u:=by
 cases c with
 | cp=>exact trivial
 | v x=>exact ai
 | J t k es=>
  simp only[eK.ci];cases au:g t with
  | none=>exact trivial
  | some dc=>exact⟨ai.1.frame fun b q aq aC=>h.rep t dc b q au aq aC,h.dN t dc _ au ai.2⟩
theorem k4.sat{g:Tag->Option Tag}{p:Nat->Bool}(h:k4 w ω τ aN aY cJ g p):
  ∀(l:aB) (v:Value),Sat w ω τ l v->Sat aN aY cJ (l.ci g p) v:=by
 intro l v ai;cases l with
 | cp=>exact trivial
 | v x=>exact ai
 | bc c=>exact ai
 | J t k es=>
  simp only[aB.ci];cases au:g t with
  | none=>exact trivial
  | some dc=>exact⟨ai.1.frame fun b q aq aC=>h.rep t dc b q au aq aC,h.dN t dc _ au ai.2⟩
 | ptr id off=>
  simp only[aB.ci];split
  ·obtain⟨b,aq,e⟩:=ai;exact⟨b,h.box id b ‹_› aq,e⟩
  exact trivial
 | gg f ids=>
  simp only[aB.ci];split
  ·rename_i hp;obtain⟨bs,e,aT,hi⟩:=ai;refine⟨bs,e,aT,fun i id fB=>?_⟩;obtain⟨b,h1,U⟩:=hi i id fB;exact⟨b,h1,h.box id b (fv.1 hp id (fp fB)) U⟩
  exact trivial
 | hF ds off=>
  obtain⟨b,e,aD⟩:=ai;exact⟨b,e,aD.frame fun b q aq aC=>h.rep .free .free b q h.free aq aC⟩
 | fd d=>exact bW.frame ai fun b q aq aC=>h.rep .free .free b q h.free aq aC
 | dg t k es=>exact⟨ai.1.frame fun b q aq aC=>h.rep .free .free b q h.free aq aC,fun bR=>(h.fix t bR).trans (ai.2 bR)⟩
 | aO t i j k es m=>
  simp only[aB.ci];split
  ·rename_i dc au;split
   ·rename_i bR;subst bR;obtain⟨u,hu,h1,hm⟩:=ai;refine⟨u,hu,h1.frame fun c q ah aC=>h.rep _ _ c _ au ah aC,fun bB=>?_⟩;obtain⟨kT,b,off,len,cap,arr,ty,cN,U,aV,ax,aK⟩:=hm bB;have bC:b<w.heap.size:=(iO.1 ax).1;have hk:=h.rep _ _ b [] au bC aV;exact⟨kT,b,off,len,cap,arr,ty,cN,h.dN _ _ _ au U,hk.1,hk.2.trans ax,aK⟩
   exact trivial
  exact trivial
 | e5 t vs=>
  simp only[aB.ci];split
  ·rename_i dc au;split
   ·rename_i bR;subst bR;obtain⟨b,ty,arr,e,aV,ax,aT,bA⟩:=ai;have bC:b<w.heap.size:=(iO.1 ax).1;have hk:=h.rep _ _ b [] au bC aV;exact⟨b,ty,arr,e,hk.1,hk.2.trans ax,CJ (h.kO) aT bA⟩
   exact trivial
  exact trivial
 | cX t k es i j=>
  simp only[aB.ci];cases au:g t with
  | none=>exact trivial
  | some dc=>
   obtain⟨b,off,cap,e,hi,aD,bB⟩:=ai;exact⟨b,off,cap,e,hi,aD.frame fun b q aq aC=>h.rep t dc b q au aq aC,h.dN t dc _ au bB⟩
variable{a:Act}
theorem Wx{d:Nat}{v:Value}{i:Nat}:(a.put (some d) v).tmps[i]?=if d=i/\i<a.tmps.size then some v else a.tmps[i]?:=by
 simp only[Act.put,Array.getElem?_setIfInBounds];by_cases h:d=i
 ·subst h;by_cases U:d<a.tmps.size
  ·simp[U]
  simp[U]
 simp[h]
variable{w0:ej}{st:aH}
theorem cw.put(h:cw w0 st a w ω τ){d:Nat}{p:aI}{v:Value}(ai:cI (Sat w ω τ) p v):
  cw w0 ⟨st.env.set d p,st.boxes⟩ (a.put (some d) v) w ω τ where
 defers:=h.defers
 size:=by simp[Act.put,h.size]
 below:=h.below
 owned:=h.owned
 fixed:=h.fixed
 pinned:=h.pinned
 boxes:=h.boxes
 env:=by
  intro i q aC;rw[jK]at aC;rw[Wx];by_cases aE:d=i
  ·subst aE;simp only[gL]at aC;split at aC
   ·rename_i bC;have e:=eL aC;subst e;exact⟨v,by rw[br ⟨rfl,by rw[h.size];exact bC⟩],ai⟩
   cases aC
  rw[bg aE]at aC;rw[bg (by simp[aE])];exact h.env i q aC
theorem cw.FD{p:Nat->Bool}
  (h:cw w0 st a w ω τ) (e:k4 w ω τ aN aY cJ g p) (nt:gO w0 aN) (pI:na w0 aN aY) {bs:List (Nat×List aB)}
  (qu:∀id ls,dn id bs=some ls->sG aN aY cJ id ls) (u1:∀id b,c3<=id->aY b=.box id->ω b=.box id) (qx:∀t,c3<=t->cJ t=τ t:=by intros;rfl):cw w0 ⟨st.env.map (aI.map (aB.ci g p)),bs⟩ a aN aY cJ where
 defers:=h.defers
 size:=by simp[h.size]
 below:=nt
 owned:=pI
 fixed:=fun t bR=>(qx t bR).trans (h.fixed t bR)
 pinned:=fun id b hi aq=>h.pinned id b hi (u1 id b hi aq)
 boxes:=qu
 env:=by
  intro i q aC;rw[dd,b0]at aC;obtain⟨gj,bJ,rfl⟩:=aC;obtain⟨v,h1,U⟩:=h.env i gj bJ;exact⟨v,h1,cI.map e.sat U⟩
theorem qU{o:Obj}:(w.alloc o).heap[w.heap.size]?=some o:=by
 show (w.heap.push o)[_]?=_;simp
theorem H4{o:Obj}{i:Nat}(h:i<w.heap.size):(w.alloc o).heap[i]?=w.heap[i]?:=Below.heap_alloc w o i h
def oR(id:Nat):List (Nat×List aB)->List (Nat×List aB)
 | []=>[]
 | (i,ls)::r=>if i=id then oR id r else (i,ls)::oR id r
theorem H5(id:Nat):∀bs,dn id (oR id bs)=none
 | []=>rfl
 | (i,ls)::r=>by
  simp only[oR];split
  ·exact H5 id r
  simp only[dn];rw[bg ‹_›];exact H5 id r
theorem xg{id gv:Nat}(h:gv≠id):∀bs,dn gv (oR id bs)=dn gv bs
 | []=>rfl
 | (i,ls)::r=>by
  simp only[oR,dn];by_cases h1:i=id
  ·rw[br h1,bg (by omega)];exact xg h r
  rw[bg h1];simp only[dn];split
  ·rfl
  exact xg h r
def qH:Tag->Option Tag:=some
def iX(id:Nat):Nat->Bool:=fun i=>decide (i≠id)
def aH.s'(st:aH)(id:Nat)(ls:List aB):aH:=
 let f:=aB.ci qH (iX id)
 ⟨st.env.map (aI.map f),(id,ls.map f)::(oR id st.boxes).map fun x=>(x.1,x.2.map f)⟩
theorem cw.s'(h:cw w0 st a w ω τ)(id:Nat)(fB:id<c3){ls:List aB}{arr:Array Value}(ty:TypeId)
  (ai:jP (Sat w ω τ) ls arr):
  ∃aY,cw w0 (st.s' id ls) a (w.alloc (.cells arr ty)) aY τ/\aY w.heap.size=.box id:=by
 let aY:Own:=fun b=>if b=w.heap.size then .box id else match ω b with | .box i=>if i=id then .bE else .box i | o=>o
 have fH:aY w.heap.size=.box id:=by simp[aY]
 have hold:∀b,b<w.heap.size->aY b=(match ω b with | .box i=>if i=id then .bE else .box i | o=>o):=by
  intro b aq;simp only[aY];rw[bg (by omega)]
 have gu:∀b,b≠w.heap.size->aY b=(match ω b with | .box i=>if i=id then .bE else .box i | o=>o):=by
  intro b aq;simp only[aY];rw[bg aq]
 have bh:k4 w ω τ (w.alloc (.cells arr ty)) aY τ qH (iX id):=by
  refine⟨?_,?_,?_,rfl,fun _ _=>rfl⟩
  ·intro t dc b q au aq aC;simp only[qH,aQ]at au;subst au;refine⟨?_,H4 aq⟩;rw[hold b aq];cases t with
   | free=>simp only[Tag.R]at aC ⊢;rw[aC]
   | own s=>simp only[Tag.R]at aC ⊢;rw[aC]
   | ro s=>
    simp only[Tag.R]at aC ⊢;rcases aC with aC | ⟨di,aC⟩
    ·rw[aC];exact .inl rfl
    rw[aC];exact .inr ⟨di,rfl⟩
  ·intro t dc y au bn;simp only[qH,aQ]at au;subst au;exact bn
  intro i b hp aq;have bC:=h.owned.lt (b:=b) (by simp[aq]);rw[hold b bC,aq];simp only[iX,cK]at hp;simp[hp]
 have nt:gO w0 (w.alloc (.cells arr ty)):=h.below.next ((gd.refl _ _).alloc (fK _) _);have pI:na w0 (w.alloc (.cells arr ty)) aY:=by
  intro b aq;by_cases aT:b=w.heap.size
  ·subst aT;exact⟨.inl h.below.size,arr,ty,qU⟩
  rw[gu b aT]at aq;have U:ω b≠.bE:=by intro e;rw[e]at aq;exact aq rfl
  obtain⟨ax,b6,qg,e⟩:=h.owned b U;exact⟨ax,b6,qg,(H4 (h.owned.lt U)).trans e⟩
 refine⟨aY,?_,fH⟩;refine h.FD bh nt pI ?_ (fun i b hi aq=>?_)
 case refine_2=>
  by_cases aT:b=w.heap.size
  ·subst aT;rw[fH]at aq;simp only[cS.box.injEq]at aq;omega
  rw[gu b aT]at aq;cases e:ω b with
  | bE=>simp[e]at aq
  | tok t q=>simp[e]at aq
  | box j=>
   simp only[e]at aq;split at aq
   ·cases aq
   exact aq
 intro i eU ak;simp only[dn]at ak;split at ak
 ·rename_i hi;subst hi;have e:=eL ak;subst e;refine⟨w.heap.size,arr,ty,fH,?_,qU,ai.map bh.sat⟩;intro cU dA;by_cases aT:cU=w.heap.size
  ·exact aT
  rw[gu cU aT]at dA;cases e:ω cU with
  | bE=>simp[e]at dA
  | tok t q=>simp[e]at dA
  | box j=>
   simp only[e]at dA;split at dA
   ·cases dA
   rename_i cC;simp only[cS.box.injEq]at dA;exact absurd dA cC
 rename_i hi;rw[r9,b0]at ak;obtain⟨iI,bJ,rfl⟩:=ak;have cC:i≠id:=fun e=>hi e.symm
 rw[xg cC]at bJ;obtain⟨b,b6,qg,aq,hu,bB,ey⟩:=h.boxes i iI bJ;have bC:=h.owned.lt (b:=b) (by simp[aq]);refine⟨b,b6,qg,bh.box i b (by simp[iX,cC]) aq,?_,(H4 bC).trans bB,ey.map bh.sat⟩;intro cU dA;by_cases aT:cU=w.heap.size
 ·subst aT;rw[fH]at dA;simp only[cS.box.injEq]at dA;exact absurd dA.symm cC
 rw[gu cU aT]at dA;refine hu cU ?_;cases e:ω cU with
 | bE=>simp[e]at dA
 | tok t q=>simp[e]at dA
 | box j=>
  simp only[e]at dA;split at dA
  ·cases dA
  exact dA
end Go.Sx
namespace Go.Sx
open Go.RowKit
inductive cF where
 | one (d:D)
 | agg (ds:List D)
inductive aS where
 | vals (rs:List cF)
 | h7 (src:List (Option Nat)) (ds:List D)
abbrev aS.new (ds : List D) : aS := .h7 [] ds
inductive hb where
 | normal
 | exit (id:Nat)
 | ret
inductive b7 where
 | own
 | sub
 | v7 (vb:List (List (Option (Option (List (List D)))))) (src:Nat) (ds:List D) (rs:List cF)
 | res (rs:List cF)
 | dj (vb:List (Option (List D))) (r:aS)
 | loop (Cs:List (Nat×Nat×Nat)) (fh boxes:List Nat) (e:hb) (st:aH)
 | od (b:Bool)
 | el (ds:List D)
 | wr
 | eq (c:Bool)
 | num (n:Int)
 | nI (p:aI)
 | ig (st:aH)
def cE:List Prop->Prop
 | []=>True
 | p::r=>p/\cE r
theorem cE.append:∀{a b:List Prop},cE (a++b)->cE a/\cE b
 | [],_,h=>⟨aa,h⟩
 | _::_,_,h=>⟨⟨h.1,(cE.append h.2).1⟩,(cE.append h.2).2⟩
abbrev jh:=Option (aI×List b7×List Prop)
def BU:Value->aI
 | .agg cs=>.agg (cs.toList.map .v)
 | v=>.one (.v v)
def aH.bh(st:aH):Operand->aI
 | .tmp t=>st.env.getD t .cp
 | .const v=>BU v
 | .func f=>.one (.fd (.cl f []))
 | _=>.cp
theorem ajJ(w:World)(ω:Own)(τ:Nat->Nat×Value)(v:Value):cI (Sat w ω τ) (BU v) v:=by
 unfold BU;split
 ·rename_i cs;refine⟨cs,rfl,by simp,fun i l ak=>?_⟩;rw[dd,b0]at ak;obtain⟨u,hu,rfl⟩:=ak;exact⟨u,by simpa using hu,rfl⟩
 exact rfl
variable{w:World}{ω:Own}{τ:Nat->Nat×Value}
theorem cw.bh{w0:ej}{st:aH}{a:Act}(h:cw w0 st a w ω τ)(x:Operand):cI (Sat w ω τ) (st.bh x) (a.eval x):=by
 cases x with
 | tmp t=>
  simp only[aH.bh,Act.eval];cases e:st.env[t]? with
  | none=>
   rw[ik,e];exact trivial
  | some p=>
   obtain⟨v,bA,ai⟩:=h.env t p e;rw[ik,e];simpa[d',bA]using ai
 | const v=>exact ajJ w ω τ v
 | global g=>exact trivial
 | func f=>exact bW.cl _ f [] #[] (fun _=>undef) rfl (fun j d aE=>by simp at aE) (fun j d aE=>by simp at aE)
def aB.val:aB->Option Value
 | .v x=>some x
 | .bc c=>some (.bool c)
 | _=>none
variable{y:Value}
theorem aB.Up{l:aB}{x:Value}(h:l.val=some x)(ai:Sat w ω τ l y):y=x:=by
 cases l<;>simp[aB.val]at h
 ·subst h;exact ai
 subst h;exact ai
def aI.leaf:aI->Option aB
 | .aJ (.one l)=>some l
 | _=>none
theorem aI.dy{S:aB->Value->Prop}{p:aI}{l:aB}(h:p.leaf=some l)(ai:cI S p y):S l y:=by
 cases p with
 | fE as=>cases h
 | aJ a=>
  cases a with
  | agg ls=>cases h
  | one gU=>simp only[aI.leaf,aQ]at h;subst h;exact ai
def aI.int(p:aI):Option (IntKind×Int):=
 match p.leaf with
 | some (.v (.int k n))=>some (k,n)
 | _=>none
variable{p:aI}{k:IntKind}
theorem aI.ny{n:Int}(h:p.int=some (k,n))(ai:cI (Sat w ω τ) p y):y=.int k n:=by
 unfold aI.int at h;split at h
 ·rename_i cm Yy e;simp only[aQ,bu]at h;obtain⟨rfl,rfl⟩:=h;exact aI.dy e ai
 cases h
def aI.vals:aI->Option (List Value)
 | .aJ (.agg ls)=>ls.mapM aB.val
 | _=>none
theorem Ot{w:World}{ω:Own}{τ:Nat->Nat×Value}:∀{ls:List aB} {xs:List Value},ls.mapM aB.val=some xs->∀{vs:List Value},vs.length=ls.length->(∀(i:Nat) (l:aB),ls[i]?=some l->∃u,vs[i]?=some u/\Sat w ω τ l u)->vs=xs
 | [],xs,h,vs,aT,_=>by
  simp at h;subst h;exact ug aT
 | l::ls,xs,h,vs,aT,ai=>by
  rw[wi]at h;cases e:l.val with
  | none=>simp[e]at h
  | some x=>
   cases e2:ls.mapM aB.val with
   | none=>simp[e,e2]at h
   | some ys=>
    simp[e,e2]at h;subst h;cases vs with
    | nil=>simp at aT
    | cons v vs=>
     obtain⟨u,hu,ey⟩:=ai 0 l rfl;simp at hu;subst hu;rw[aB.Up e ey]
     congr 1
     exact Ot e2 (by simpa using aT) (fun i gU ak=>by have:=ai (i+1) gU (by simpa using ak);simpa using this)
theorem aI.asv{xs:List Value}(h:p.vals=some xs)(ai:cI (Sat w ω τ) p y):y=.agg xs.toArray:=by
 cases p with
 | fE as=>cases h
 | aJ a=>
  cases a with
  | one l=>cases h
  | agg ls=>
   obtain⟨vs,rfl,aT,bA⟩:=ai;have:=Ot (w:=w) (ω:=ω) (τ:=τ) h (vs:=vs.toList) (by simpa using aT) (fun i l ak=>by obtain⟨u,h1,U⟩:=bA i l ak;exact⟨u,by simpa using h1,U⟩);rw[<-this]
def az(k:IntKind)(e:Int):Prop:=
 match k with
 | .i64=>-9223372036854775808<=e/\e<=9223372036854775807
 | k=>k.wrap e=e
theorem az.wrap{e:Int}(h:az k e):k.wrap e=e:=by
 cases k<;>first | exact h | (simp only[az]at h;rw[IntKind.wrap_i64];omega)
def arith(k:IntKind)(e:Int)(ans:List b7):jh:=
 match ans with
 | .wr::r=>some (.one (.v (.int k (k.wrap e))),r,[])
 | _=>some (.one (.v (.int k e)),ans,[az k e])
variable{ans cd:List b7}{obs:List Prop}
theorem xh{e:Int}(h:arith k e ans=some (p,cd,obs))(aX:cE obs):cI (Sat w ω τ) p (.int k (k.wrap e)):=by
 unfold arith at h;split at h
 ·simp only[aQ,bu]at h;obtain⟨rfl,_,_⟩:=h;exact rfl
 simp only[aQ,bu]at h;obtain⟨rfl,_,rfl⟩:=h;rw[aX.1.wrap];exact rfl
def lp(P:Program)(op:BinOp)(t:TypeId)(x y:Operand)(u v c:Value):Prop:=
 ∀w:World,((do eqGuard op t x y u v;binOp op t u v:Sem Value)).run P w=.ok c w
def H6(op:BinOp)(k:IntKind)(x y:Int)(ans:List b7):jh:=
 match op with
 | .add=>arith k (x+y) ans
 | .sub=>arith k (x-y) ans
 | .mul=>arith k (x*y) ans
 | .quo=>(arith k (x.tdiv y) ans).map fun r=>(r.1,r.2.1,(y≠0)::r.2.2)
 | .rem=>some (.one (.v (.int k (x.tmod y))),ans,[y≠0])
 | .eql=>some (.one (.bc (x==y)),ans,[])
 | .neq=>some (.one (.bc (x != y)),ans,[])
 | .lss=>some (.one (.bc (decide (x<y))),ans,[])
 | .leq=>some (.one (.bc (decide (x<=y))),ans,[])
 | .gtr=>some (.one (.bc (decide (x>y))),ans,[])
 | .geq=>some (.one (.bc (decide (x>=y))),ans,[])
 | _=>none
variable{P:Program}{op:BinOp}
theorem ajK{x y:Int}(t:TypeId)(YH YI:Operand)
  (h:H6 op k x y ans=some (p,cd,obs)) (aX:cE obs):
  ∃v,((do eqGuard op t YH YI (.int k x) (.int k y);binOp op t (.int k x) (.int k y):Sem Value)).run P w=.ok v w/\cI (Sat w ω τ) p v:=by
 rw[eqGuard_at_int];simp only[Sem.run_bind,Sem.run_pure,Result.andThen_ok];cases op<;>simp only[H6,aQ,bu,reduceCtorEq]at h
 case add=>exact⟨_,by rw[binOp_add];rfl,xh h aX⟩
 case sub=>exact⟨_,by rw[binOp_sub];rfl,xh h aX⟩
 case mul=>exact⟨_,by rw[binOp_mul];rfl,xh h aX⟩
 case quo=>
  rw[b0]at h;obtain⟨⟨pT,cx,oJ⟩,h1,U⟩:=h;simp only[bu]at U;obtain⟨rfl,rfl,rfl⟩:=U;refine⟨_,?_,xh h1 aX.2⟩;rw[binOp_quo];simp[Op.intDiv,aX.1]
 case rem=>
  obtain⟨rfl,_,rfl⟩:=h;refine⟨_,?_,rfl⟩;rw[binOp_rem];simp[Op.intDiv,aX.1]
 case eql=>obtain⟨rfl,_,rfl⟩:=h;exact⟨_,by rw[binOp_eql];rfl,rfl⟩
 case neq=>obtain⟨rfl,_,rfl⟩:=h;exact⟨_,by rw[binOp_neq];rfl,rfl⟩
 case lss=>obtain⟨rfl,_,rfl⟩:=h;exact⟨_,by rw[binOp_lss];rfl,rfl⟩
 case leq=>obtain⟨rfl,_,rfl⟩:=h;exact⟨_,by rw[binOp_leq];rfl,rfl⟩
 case gtr=>obtain⟨rfl,_,rfl⟩:=h;exact⟨_,by rw[binOp_gtr];rfl,rfl⟩
 case geq=>obtain⟨rfl,_,rfl⟩:=h;exact⟨_,by rw[binOp_geq];rfl,rfl⟩
def aI.value(p:aI):Option Value:=
 match p with
 | .aJ (.one l)=>l.val
 | p=>p.vals.map fun xs=>.agg xs.toArray
theorem aI.x2{x:Value}(h:p.value=some x)(ai:cI (Sat w ω τ) p y):y=x:=by
 unfold aI.value at h;split at h
 ·exact aB.Up h ai
 rw[b0]at h;obtain⟨xs,h1,rfl⟩:=h;exact aI.asv h1 ai
def vz(P:Program)(t:TypeId):Option Bool:=
 match P.underlying t with
 | some (.struct _) | some (.array _ _)=>some true
 | some _=>some false
 | none=>none
variable{t:TypeId}
theorem xi{b:Bool}(h:vz P t=some b)(w:World):(isAgg t).run P w=.ok b w:=by
 unfold vz at h;unfold isAgg;split at h
 ·rename_i hu;simp only[aQ]at h;subst h;simp[run_underlying hu]
 ·rename_i hu;simp only[aQ]at h;subst h;simp[run_underlying hu]
 ·rename_i d h1 U hu;simp only[aQ]at h;subst h;rw[Sem.run_bind,run_underlying hu];cases d<;>first | rfl | (exact absurd rfl (h1 _)) | (exact absurd rfl (U _ _))
 cases h
def Cy(P:Program)(t:TypeId)(cs:Array Value)(off:Nat):Option Value:=
 match vz P t,P.info? t with
 | some true,some i=>some (.agg (cs.extract off (off+i.size)))
 | some false,_=>cs[off]?
 | _,_=>none
variable{v:Value}
theorem Ou{cs:Array Value}{off:Nat}(h:Cy P t cs off=some v)(w:World):(part t cs off).run P w=.ok v w:=by
 unfold Cy at h;split at h
 ·rename_i i e1 e2;simp only[aQ]at h;subst h;simp[part,xi e1,sizeOf,typeInfo,e2]
 ·rename_i e1;simp[part,xi e1,h]
 cases h
def yo(P:Program)(f:TypeId->Value->Value->Option Bool)(xs ys:Array Value):List Field->Option Bool
 | []=>some true
 | fd::r=>
  if fd.name = "_" then none else
  match Cy P fd.type xs fd.offset,Cy P fd.type ys fd.offset with
  | some a,some b=>
   match f fd.type a b with
   | some c=>
    match r with
    | []=>some c
    | r=>(yo P f xs ys r).map fun jk=>c&&jk
   | none=>none
  | _,_=>none
def wx(P:Program):Nat->TypeId->Value->Value->Option Bool
 | 0,_,_,_=>none
 | m+1,t,x,y=>
  match P.underlying t,x,y with
  | some .bool,.bool a,.bool b=>some (a==b)
  | some (.int _),.int k a,.int cm b=>if k=cm then some (a==b) else none
  | some .string,.string a,.string b=>some (a.toList==b.toList)
  | some (.struct ep),.agg xs,.agg ys=>if P.stoodInHeld t then none else yo P (wx P m) xs ys ep.toList
  | _,_,_=>none
theorem Ov{d:Nat}{f:TypeId->Value->Value->Option Bool}(bY:∀t x y c,f t x y=some c->∀w,(Op.equalIn d t x y).run P w=.ok c w){xs ys:Array Value}:
  ∀{ep:List Field} {c:Bool},yo P f xs ys ep=some c->∀w,(Op.eqFields d xs ys ep).run P w=.ok c w
 | [],c,h,w=>by simp only[yo,aQ]at h;subst h;simp[Op.eqFields]
 | fd::r,c,h,w=>by
  simp only[yo]at h;split at h
  ·cases h
  rename_i aT;split at h
  ·rename_i a b e1 e2;split at h
   ·rename_i c1 cc;simp only [Op.eqFields, br (show fd.name ≠ "_" from aT), Sem.run_bind, Ou e1, Ou e2, Result.andThen_ok, bY _ _ _ _ cc, Sem.run_ite];split at h
    ·simp only[aQ]at h;subst h;cases c1<;>simp[Op.eqFields]
    ·rw[b0]at h;obtain⟨c2,h1,rfl⟩:=h;have:=Ov bY h1 w;cases c1<;>simp[this]
   cases h
  cases h
theorem Ow:∀{m:Nat} {t:TypeId} {x y:Value} {c:Bool},wx P m t x y=some c->∀(d:Nat) (w:World),(Op.equalIn (d+m) t x y).run P w=.ok c w
 | 0,_,_,_,_,h,_,_=>by cases h
 | m+1,t,x,y,c,h,d,w=>by
  rw[show d+(m+1)=(d+m)+1 from rfl];simp only[wx]at h;split at h
  ·rename_i a b e;simp only[aQ]at h;subst h;exact run_equalIn_bool w _ t a b e
  ·rename_i cm k a cA b e;split at h
   ·rename_i hk;subst hk;simp only[aQ]at h;subst h;exact run_equalIn_int w _ t k cm a b e
   cases h
  ·rename_i a b e;simp only[aQ]at h;subst h;exact run_equalIn_string w _ t a b e
  ·rename_i ep xs ys e;split at h
   ·cases h
   rename_i ai;have No:P.fieldsOf t=ep:=by simp[Program.fieldsOf,e]
   rw[run_equalIn_struct w _ t xs ys (by rw[No];exact e) (by simpa using ai),No];exact Ov (fun t x y c h w=>Ow h d w) h w
  cases h
def FC(P:Program)(op:BinOp)(t:TypeId)(u v:Value):Option Bool:=
 match op,u,v with
 | .eql,.agg xs,.agg ys=>if P.eqGuardType P.depth t then none else wx P 20 t (.agg xs) (.agg ys)
 | .neq,.agg xs,.agg ys=>if P.eqGuardType P.depth t then none else (wx P 20 t (.agg xs) (.agg ys)).map fun c=>!c
 | .eql,.bool a,.bool b=>match P.underlying t with | some .bool=>some (a==b) | _=>none
 | .neq,.bool a,.bool b=>match P.underlying t with | some .bool=>some (!(a==b)) | _=>none
 | .eql,.string a,.string b=>match P.underlying t with | some .string=>some (a.toList==b.toList) | _=>none
 | .neq,.string a,.string b=>match P.underlying t with | some .string=>some (!(a.toList==b.toList)) | _=>none
 | _,_,_=>none
theorem ajL{x y:Operand}{u:Value}{c:Bool}(h:FC P op t u v=some c):lp P op t x y u v (.bool c):=by
 intro w;have eS:∀{x y:Value} {c:Bool},wx P 20 t x y=some c->(Op.equalIn 10000 t x y).run P w=.ok c w:=fun h=>Ow h 9980 w
 unfold FC at h;split at h
 ·rename_i xs ys;split at h
  ·cases h
  rename_i au;simp[run_eqGuard_agg w .eql t x y xs ys (by simpa using au),run_eql_struct,eS h]
 ·rename_i xs ys;split at h
  ·cases h
  rename_i au;rw[b0]at h;obtain⟨jk,h1,rfl⟩:=h;simp[run_eqGuard_agg w .neq t x y xs ys (by simpa using au),run_neq_struct,eS h1]
 ·rename_i a b;split at h
  ·rename_i e;simp only[aQ]at h;subst h;simp[eqGuard,binOp,run_equal_bool w t a b e]
  cases h
 ·rename_i a b;split at h
  ·rename_i e;simp only[aQ]at h;subst h;simp[eqGuard,binOp,run_equal_bool w t a b e]
  cases h
 ·rename_i a b;split at h
  ·simp only[aQ]at h;subst h;simp[eqGuard,binOp,Op.stringOp,beq_toListBytes]
  cases h
 ·rename_i a b;split at h
  ·simp only[aQ]at h;subst h;simp[eqGuard,binOp,Op.stringOp,beq_toListBytes]
  cases h
 cases h
def H7(P:Program)(op:BinOp)(t:TypeId)(x y:Operand)(p q:aI)(ans:List b7):jh:=
 match p.int,q.int with
 | some (k,a),some (cm,b)=>
  match (if k=cm then H6 op k a b ans else none) with
  | some r=>some r
  | none=>
   match ans with
   | .nI (.aJ (.one (.v c)))::r=>some (.one (.v c),r,[lp P op t x y (.int k a) (.int cm b) c])
   | _=>none
 | _,_=>
  match (match p.value,q.value with | some u,some v=>FC P op t u v | _,_=>none) with
  | some c=>some (.one (.bc c),ans,[])
  | none=>
  match p.value,q.value,ans with
  | some u,some v,.eq c::r=>some (.one (.bc c),r,[lp P op t x y u v (.bool c)])
  | some u,some v,.nI (.aJ (.one (.v c)))::r=>some (.one (.v c),r,[lp P op t x y u v c])
  | _,_,_=>none
theorem ajM{x y:Operand}{q r:aI}{u:Value}
  (hp:cI (Sat w ω τ) p u) (aC:cI (Sat w ω τ) q v) (h:H7 P op t x y p q ans=some (r,cd,obs)) (aX:cE obs):
  ∃z,((do eqGuard op t x y u v;binOp op t u v:Sem Value)).run P w=.ok z w/\cI (Sat w ω τ) r z:=by
 unfold H7 at h;split at h
 ·rename_i k a cm b e1 e2;rw[aI.ny e1 hp,aI.ny e2 aC];split at h
  ·rename_i jX cc;simp only[aQ]at h;subst h;split at cc
   ·rename_i hk;subst hk;exact ajK t x y cc aX
   cases cc
  split at h
  ·rename_i c jX _;simp only[aQ,bu]at h;obtain⟨rfl,_,rfl⟩:=h;exact⟨_,aX.1 w,rfl⟩
  cases h
 split at h
 ·rename_i c bz;simp only[aQ,bu]at h;obtain⟨rfl,_,_⟩:=h;split at bz
  ·rename_i sC Lp e1 e2;rw[aI.x2 e1 hp,aI.x2 e2 aC];exact⟨_,ajL bz w,rfl⟩
  cases bz
 split at h
 ·rename_i sC Lp c jX e1 e2;simp only[aQ,bu]at h;obtain⟨rfl,_,rfl⟩:=h;rw[aI.x2 e1 hp,aI.x2 e2 aC];exact⟨_,aX.1 w,rfl⟩
 ·rename_i sC Lp c jX e1 e2;simp only[aQ,bu]at h;obtain⟨rfl,_,rfl⟩:=h;rw[aI.x2 e1 hp,aI.x2 e2 aC];exact⟨_,aX.1 w,rfl⟩
 cases h
end Go.Sx
namespace Go.Sx
open Go.RowKit
def Tag.El:Tag->Tag
 | .free=>.free
 | .own t=>.ro t
 | .ro t=>.ro t
theorem Tag.Lk{t:Tag}{q di:List (Nat×Nat)}{o:cS}(h:t.R q o):t.El.R di o:=by
 cases t with
 | free=>exact h
 | own s=>exact .inr ⟨q,h⟩
 | ro s=>exact h
variable{τ:Nat->Nat×Value}
theorem Tag.Ll{t:Tag}{y:Nat×Value}:t.El.dN τ y:=by cases t<;>exact trivial
def D.leaf(t:Tag):D->aB
 | .v (.bool c)=>.bc c
 | .v x=>.v x
 | .J k es=>.J t.El k es
 | .ptr ds=>match t with | .free=>.hF ds 0 | _=>.cp
 | .cl g bK=>match t with | .free=>.fd (.cl g bK) | _=>.cp
variable{w:World}{ω:Own}
theorem D.dy{τ:Nat->Nat×Value}{t:Tag}{p:Nat×Nat}{d:D}{u:Value}(h:bW w ω (fun q=>t.R (p::q)) d u):Sat w ω τ (d.leaf t) u:=by
 cases d with
 | v x=>
  have e:u=x:=by cases h;rfl
  subst e;unfold D.leaf;split
  ·rename_i h;cases h;exact rfl
  ·rename_i h;cases h;exact rfl
  ·rename_i h;cases h
  ·rename_i h;cases h
  rename_i h;cases h
 | J k es=>exact⟨h.frame fun b q aq aC=>⟨Tag.Lk aC,rfl⟩,Tag.Ll⟩
 | ptr ds=>
  cases t with
  | free=>
   have U:bW w ω Tag.free.R (.ptr ds) u:=h;have ax:=U;cases ax with
   | ptr R ds b arr ty cN us aq dI ai hu aE=>exact⟨b,rfl,U⟩
  | own s=>exact trivial
  | ro s=>exact trivial
 | cl g bK=>
  cases t with
  | free=>exact h
  | own s=>exact trivial
  | ro s=>exact trivial
def D.Ob(t i j:Nat):D->aB
 | .J k es=>.aO t i j k es .here
 | d=>d.leaf (.own t)
def tt(t i:Nat):Nat->List D->List aB
 | _,[]=>[]
 | j,d::ds=>d.Ob t i j::tt t i (j+1) ds
theorem O7(t i:Nat):∀(ds:List D) (j x:Nat),(tt t i j ds)[x]?=(ds[x]?).map (D.Ob t i (j+x))
 | [],_,_=>by simp[tt]
 | d::ds,j,0=>by simp[tt]
 | d::ds,j,x+1=>by
  simp only[tt,n1,O7 t i ds (j+1) x];rw[show j+1+x=j+(x+1) by omega]
theorem O8(t i:Nat):∀(ds:List D) (j:Nat),(tt t i j ds).length=ds.length
 | [],_=>rfl
 | d::ds,j=>by simp[tt,O8 t i ds (j+1)]
def H8(P:Program)(s:TypeId)(f:Nat):Option Nat:=
 match P.underlying s with
 | some (.struct ep)=>
  match ep[f]? with
  | some fd=>
   match P.info? fd.type with
   | some i=>if i.size=0 then none else some fd.offset
   | none=>none
  | none=>none
 | _=>none
theorem pV(b off n:Nat):(⟨b,off,none⟩:Addr).add n=⟨b,off+n,none⟩:=by
 unfold Addr.add;split
 ·rename_i h;simp[h]
 rfl
variable{P:Program}{off:Nat}
theorem CK{s:TypeId}{f:Nat}(h:H8 P s f=some off)(w:World)(b o:Nat):
  (Instr.fieldAt s (.pointer (some ⟨b,o,none⟩)) f).run P w=.ok (.pointer (some ⟨b,o+off,none⟩)) w:=by
 unfold H8 at h;split at h
 ·rename_i ep hu;split at h
  ·rename_i fd bY;split at h
   ·rename_i i hi;split at h
    ·cases h
    rename_i bd;simp only[aQ]at h;subst h;simp[Instr.fieldAt,run_underlying hu,bY,Instr.sureAddr,fieldPlace,sizeOf,typeInfo,hi,bd,pV]
   cases h
  cases h
 cases h
def H9(P:Program)(s:TypeId)(p:aI)(f:Nat)(ans:List b7):jh:=
 match H8 P s f,p.leaf with
 | some off,some (.ptr id o)=>some (.one (.ptr id (o+off)),ans,[])
 | some off,some (.cX t k es i j)=>some (.one (.cX t k es i (j+off)),ans,[])
 | some off,some (.hF ds o)=>some (.one (.hF ds (o+off)),ans,[])
 | some off,some (.aO t i j k es (.at_ x y))=>some (.one (.aO t i j k es (.at_ x (y+off))),ans,[])
 | _,_=>none
variable{p r:aI}{v:Value}{ans cd:List b7}{obs:List Prop}
theorem ajN{s:TypeId}{f:Nat}
  (hp:cI (Sat w ω τ) p v) (h:H9 P s p f ans=some (r,cd,obs)):
  ∃z,(Instr.fieldAt s v f).run P w=.ok z w/\cI (Sat w ω τ) r z:=by
 unfold H9 at h;split at h
 ·rename_i off id o e1 e2;simp only[aQ,bu]at h;obtain⟨rfl,_,rfl⟩:=h;obtain⟨b,aq,rfl⟩:=aI.dy e2 hp;exact⟨_,CK e1 w b o,b,aq,rfl⟩
 ·rename_i off t k es i j e1 e2;simp only[aQ,bu]at h;obtain⟨rfl,_,rfl⟩:=h;obtain⟨b,o,cap,rfl,hi,aD,bB⟩:=aI.dy e2 hp;exact⟨_,CK e1 w b _,b,o,cap,by rw[Bx],hi,aD,bB⟩
 ·rename_i off ds o e1 e2;simp only[aQ,bu]at h;obtain⟨rfl,_,rfl⟩:=h;obtain⟨b,rfl,aD⟩:=aI.dy e2 hp;exact⟨_,CK e1 w b o,b,rfl,aD⟩
 ·rename_i off t i j k es x y e1 e2;simp only[aQ,bu]at h;obtain⟨rfl,_,rfl⟩:=h;obtain⟨u,⟨b,o,cap,rfl,rfl,ag⟩,aD,hm⟩:=aI.dy e2 hp;exact⟨_,CK e1 w b _,_,⟨b,o,cap,rfl,by rw[Bx],ag⟩,aD,fun _=>hm rfl⟩
 cases h
def pW(P:Program)(t:TypeId):Option (TypeId×Nat):=
 match P.underlying t with
 | some (.slice e)=>(P.info? e).map fun i=>(e,i.size)
 | _=>none
variable{t:TypeId}
theorem vA{e:TypeId}{k:Nat}(h:pW P t=some (e,k)):P.underlying t=some (.slice e)/\∃i,P.info? e=some i/\i.size=k:=by
 unfold pW at h;split at h
 ·rename_i e' hu;rw[b0]at h;obtain⟨i,hi,h⟩:=h;simp only[bu]at h;obtain⟨rfl,rfl⟩:=h;exact⟨hu,i,hi,rfl⟩
 cases h
def aB.flat:aB->aB
 | .dg _ k es=>.J .free k es
 | l=>l
def aI.ka(p:aI):Option aB:=p.leaf.map aB.flat
variable{y:Value}{l:aB}
theorem aI.u6(h:p.ka=some l)(ai:cI (Sat w ω τ) p y):Sat w ω τ l y:=by
 unfold aI.ka at h;rw[b0]at h;obtain⟨eP,bJ,rfl⟩:=h;have:=aI.dy bJ ai;unfold aB.flat;split
 ·exact⟨this.1,aa⟩
 exact this
def H'(P:Program)(t:TypeId)(p q:aI)(ans:List b7):jh:=
 match pW P t,p.ka,q.int with
 | some (_,k),some (.J tag cm es),some (_,n)=>if k=cm then some (.one (.cX tag cm es n.toNat 0),ans,[0<=n,n<(es.length:Int)]) else none
 | some (_,k),some (.aO s i j cm es .here),some (_,n)=>if k=cm then some (.one (.aO s i j cm es (.at_ n.toNat 0)),ans,[0<=n,n<(es.length:Int)]) else none
 | _,_,_=>none
theorem ajO{q:aI}{u:Value}
  (hp:cI (Sat w ω τ) p u) (aC:cI (Sat w ω τ) q v) (h:H' P t p q ans=some (r,cd,obs)) (aX:cE obs):
  ∃z,(Instr.indexAt t u v).run P w=.ok z w/\cI (Sat w ω τ) r z:=by
 unfold H' at h;split at h
 ·rename_i e k tag cm es zk n e1 e2 cc;split at h
  ·rename_i hk;subst hk;simp only[aQ,bu]at h;obtain⟨rfl,_,rfl⟩:=h;obtain⟨hu,i,hi,bd⟩:=vA e1;obtain⟨aD,bB⟩:=aI.u6 e2 hp;rw[aI.ny cc aC];have bJ:0<=n:=aX.1;have h1:n<(es.length:Int):=aX.2.1;cases aD with
   | nil=>simp at h1;omega
   | row R k es b off cap arr ty cN us aq dI ah ai hk iU aE=>
    refine⟨.pointer (some ⟨b,off+n.toNat*k+0,none⟩),?_,b,off,cap,rfl,by omega,.row _ k es b off cap arr ty cN us aq dI ah ai hk iU aE,bB⟩;simp[Instr.indexAt,run_underlying hu,asIntOf,bJ,h1,sizeOf,typeInfo,hi,bd,pV]
  cases h
 ·rename_i e k s AR AS cm es zk n e1 e2 cc;split at h
  ·rename_i hk;subst hk;simp only[aQ,bu]at h;obtain⟨rfl,_,rfl⟩:=h;obtain⟨hu,i,hi,bd⟩:=vA e1;obtain⟨fR,rfl,aD,hm⟩:=aI.u6 e2 hp;rw[aI.ny cc aC];have bJ:0<=n:=aX.1;have h1:n<(es.length:Int):=aX.2.1;cases aD with
   | nil=>simp at h1;omega
   | row R k es b off cap arr ty cN us aq dI ah ai hk iU aE=>
    refine⟨.pointer (some ⟨b,off+n.toNat*k+0,none⟩),?_,_,⟨b,off,cap,rfl,rfl,by omega⟩,.row _ k es b off cap arr ty cN us aq dI ah ai hk iU aE,hm⟩;simp[Instr.indexAt,run_underlying hu,asIntOf,bJ,h1,sizeOf,typeInfo,hi,bd,pV]
  cases h
 cases h
theorem ajP{P:Program}{b n:Nat}{arr:Array Value}{ty:TypeId}{cN:Nat×Nat}(aq:w.heap[b]?=some (.cells arr ty cN))(aT:off+n<=arr.size):
  (loadCells ⟨b,off,none⟩ n).run P w=.ok (arr.extract off (off+n)) w:=by
 have ak:((arr.extract off (off+n)).toList).length=n:=by simp;omega
 have:=run_loadCells_list (P:=P) w ⟨b,off,none⟩ (arr.extract off (off+n)).toList (fun j v bA=>by
  rw[pV,cell_of_row w b (off+j) arr ty cN aq];rw[mT,Array.getElem?_extract]at bA;split at bA
  ·exact bA
  cases bA)
 rw[ak,Array.toArray_toList]at this;exact this
def qV(agg:Bool)(n:Nat)(ls:List aB)(off:Nat):Option aI:=
 if agg then (if off+n<=ls.length then some (.agg ((ls.drop off).take n)) else none)
 else (ls[off]?).map fun l=>.one l
theorem xj{P:Program}{ω:Own}{τ:Nat->Nat×Value}{agg:Bool}{i:TypeInfo}{ls:List aB}(aj:vz P t=some agg)(hi:P.info? t=some i)
  (h:qV agg i.size ls off=some p) {b base:Nat} {arr:Array Value} {ty:TypeId} {cN:Nat×Nat} (aq:w.heap[b]?=some (.cells arr ty cN)) (ek:base+ls.length<=arr.size)
  (ai:∀(j:Nat) (l:aB),ls[j]?=some l->∃u,arr[base+j]?=some u/\Sat w ω τ l u):
  ∃z,(loadVar t ⟨b,base+off,none⟩).run P w=.ok z w/\cI (Sat w ω τ) p z:=by
 unfold qV at h;cases agg with
 | true=>
  simp only[gL]at h;split at h
  ·rename_i hle;simp only[aQ]at h;subst h;refine⟨.agg (arr.extract (base+off) (base+off+i.size)),?_,?_⟩
   ·simp[loadVar,xi aj,sizeOf,typeInfo,hi,ajP (P:=P) aq (show base+off+i.size<=arr.size by omega)]
   refine⟨_,rfl,by simp;omega,fun j l ak=>?_⟩;rw[j1]at ak;split at ak
   ·rw[jZ]at ak;obtain⟨u,h1,U⟩:=ai _ l ak;refine⟨u,?_,U⟩;rw[Array.getElem?_extract,br (by omega),<-h1]
    congr 1
    omega
   cases ak
  cases h
 | false=>
  simp only[rc,mY,b0]at h;obtain⟨l,ak,rfl⟩:=h;obtain⟨u,h1,U⟩:=ai _ l ak;refine⟨u,?_,U⟩;simp[loadVar,xi aj,cell_of_row w b (base+off) arr ty cN aq,h1]
def Cz(P:Program)(st:aH)(t:TypeId)(p:aI)(ans:List b7):jh:=
 match vz P t,P.info? t,p.leaf with
 | some agg,some i,some (.ptr id off)=>
  match dn id st.boxes with
  | some ls=>(qV agg i.size ls off).map fun r=>(r,ans,[])
  | none=>none
 | some agg,some i,some (.cX tag k es x j)=>
  match ans with
  | .el ds::r=>if ds.length=k then (qV agg i.size (ds.map (D.leaf tag)) j).map fun v=>(v,r,[es[x]?=some ds]) else none
  | .sub::.el ds::r=>
   match tag with
   | .own t=>if ds.length=k then (qV agg i.size (tt t x 0 ds) j).map fun v=>(v,r,[es[x]?=some ds]) else none
   | _=>none
  | _=>none
 | some agg,some i,some (.hF ds off)=>(qV agg i.size (ds.map (D.leaf .free)) off).map fun r=>(r,ans,[])
 | some agg,some i,some (.aO s _ _ k es (.at_ x y))=>
  match ans with
  | .el ds::r=>if ds.length=k then (qV agg i.size (ds.map (D.leaf (.ro s))) y).map fun v=>(v,r,[es[x]?=some ds]) else none
  | _=>none
 | _,_,_=>none
variable{w0:ej}{a:Act}{st:aH}
theorem ajQ
  (aU:cw w0 st a w ω τ) (hp:cI (Sat w ω τ) p v) (h:Cz P st t p ans=some (r,cd,obs)) (aX:cE obs):
  ∃z,(Instr.loadAt t v).run P w=.ok z w/\cI (Sat w ω τ) r z:=by
 unfold Cz at h;split at h
 ·rename_i agg i id off e1 e2 cc;split at h
  ·rename_i ls ck;rw[b0]at h;obtain⟨jX,h1,h⟩:=h;simp only[bu]at h;obtain⟨rfl,rfl,rfl⟩:=h;obtain⟨b,aq,rfl⟩:=aI.dy cc hp;obtain⟨cU,arr,ty,dA,y7,Gk,ek,ey⟩:=aU.boxes id ls ck;have:=y7 b aq;subst this;have:=xj (P:=P) e1 e2 h1 Gk (base:=0) (by omega) (fun j l ak=>by simpa using ey j l ak);simpa[Instr.loadAt,Instr.sureAddr]using this
  cases h
 ·rename_i agg i tag k es x j e1 e2 cc;split at h
  ·rename_i ds gX;split at h
   ·rename_i hlen;rw[b0]at h;obtain⟨jX,h1,h⟩:=h;simp only[bu]at h;obtain⟨rfl,rfl,rfl⟩:=h;have eh:es[x]?=some ds:=aX.1;obtain⟨b,off,cap,rfl,hi,aD,bB⟩:=aI.dy cc hp;cases aD with
    | nil=>simp at hi
    | row R k es b off cap arr ty cN us aq dI ah ai hk hu aE=>
     have Nv:x*k+k<=cap*k:=by
      have:(x+1)*k<=cap*k:=gK k (by omega);rw[fo]at this;omega
     have:=xj (P:=P) (τ:=τ) (ω:=ω) e1 e2 h1 aq (base:=off+x*k) (by simp[hlen];omega) (fun iq l ak=>by
      rw[dd,b0]at ak;obtain⟨d,U,rfl⟩:=ak;have ah:cT es x iq=some d:=by simp[cT,eh,U]
      exact⟨us x iq,hu x iq d ah,D.dy (aE x iq d ah)⟩)
     simpa[Instr.loadAt,Instr.sureAddr]using this
   cases h
  ·rename_i ds gX;split at h
   ·rename_i t;split at h
    ·rename_i hlen;rw[b0]at h;obtain⟨jX,h1,h⟩:=h;simp only[bu]at h;obtain⟨rfl,rfl,rfl⟩:=h;have eh:es[x]?=some ds:=aX.1;obtain⟨b,off,cap,rfl,hi,aD,bB⟩:=aI.dy cc hp;cases aD with
     | nil=>simp at hi
     | row R k es b off cap arr ty cN us aq dI ah ai hk hu aE=>
      have Nv:x*k+k<=cap*k:=by
       have:(x+1)*k<=cap*k:=gK k (by omega);rw[fo]at this;omega
      have:=xj (P:=P) (τ:=τ) (ω:=ω) e1 e2 h1 aq (base:=off+x*k) (by simp[O8,hlen];omega) (fun iq l ak=>by
       rw[O7,b0]at ak;obtain⟨d,U,rfl⟩:=ak;rw[dx];have ah:cT es x iq=some d:=by simp[cT,eh,U]
       have B7:=aE x iq d ah;refine⟨us x iq,hu x iq d ah,?_⟩;cases d with
       | J cA bN=>exact⟨_,rfl,B7,fun _=>⟨k,b,off,es.length,cap,arr,ty,cN,bB,dI,aq,hu x iq _ ah⟩⟩
       | v z=>exact D.dy (t:=.own t) (p:=(x,iq)) B7
       | ptr ds=>exact D.dy (t:=.own t) (p:=(x,iq)) B7
       | cl g cs=>exact D.dy (t:=.own t) (p:=(x,iq)) B7)
      simpa[Instr.loadAt,Instr.sureAddr]using this
    cases h
   cases h
  cases h
 ·rename_i agg i ds off e1 e2 cc;rw[b0]at h;obtain⟨jX,h1,h⟩:=h;simp only[bu]at h;obtain⟨rfl,rfl,rfl⟩:=h;obtain⟨b,rfl,aD⟩:=aI.dy cc hp;have dV:bW w ω Tag.free.R (.ptr ds) (.pointer (some ⟨b,0,none⟩)):=aD;cases dV with
  | ptr R ds b arr ty cN us aq dI ai hu aE=>
   have:=xj (P:=P) (τ:=τ) (ω:=ω) e1 e2 h1 aq (base:=0) (by simp;omega) (fun iq l ak=>by
    rw[dd,b0]at ak;obtain⟨d,U,rfl⟩:=ak;exact⟨us iq,by simpa using hu iq d U,D.dy (p:=(0,iq)) (aE iq d U)⟩)
   simpa[Instr.loadAt,Instr.sureAddr]using this
 ·rename_i agg i s AR AS k es x y e1 e2 cc;split at h
  ·rename_i ds gX;split at h
   ·rename_i hlen;rw[b0]at h;obtain⟨jX,h1,h⟩:=h;simp only[bu]at h;obtain⟨rfl,rfl,rfl⟩:=h;have eh:es[x]?=some ds:=aX.1;obtain⟨fR,⟨b,off,cap,rfl,rfl,hi⟩,aD,hm⟩:=aI.dy cc hp;cases aD with
    | nil=>simp at hi
    | row R k es b off cap arr ty cN us aq dI ah ai hk hu aE=>
     have Nv:x*k+k<=cap*k:=by
      have:(x+1)*k<=cap*k:=gK k (by omega);rw[fo]at this;omega
     have:=xj (P:=P) (τ:=τ) (ω:=ω) e1 e2 h1 aq (base:=off+x*k) (by simp[hlen];omega) (fun iq l ak=>by
      rw[dd,b0]at ak;obtain⟨d,U,rfl⟩:=ak;have ah:cT es x iq=some d:=by simp[cT,eh,U]
      refine⟨us x iq,hu x iq d ah,D.dy (t:=.ro s) (p:=(x,iq)) ((aE x iq d ah).frame fun b q _ aC=>⟨.inr ⟨_,aC⟩,rfl⟩)⟩)
     simpa[Instr.loadAt,Instr.sureAddr]using this
   cases h
  cases h
 cases h
def Ia(P:Program)(t:TypeId)(p:aI)(ans:List b7):jh:=
 match P.underlying t,p.ka with
 | some (.slice _),some (.J _ _ es)=>some (.one (.v (.int .i64 es.length)),ans,[])
 | some (.slice _),some (.v (.slice _ n _))=>some (.one (.v (.int .i64 n)),ans,[])
 | some (.slice _),some (.aO _ _ _ _ es .here)=>some (.one (.v (.int .i64 es.length)),ans,[])
 | some (.slice _),some (.aO _ _ _ _ es .k7)=>some (.one (.v (.int .i64 es.length)),ans,[])
 | some .string,some (.v (.string s))=>some (.one (.v (.int .i64 s.size)),ans,[])
 | _,_=>none
theorem bW.len{R:List (Nat×Nat)->cS->Prop}{k:Nat}{es:List (List D)}(h:bW w ω R (.J k es) y):∃b c,y=.slice b es.length c:=by
 cases h with
 | nil=>exact⟨_,_,rfl⟩
 | row R k es b off cap arr ty cN us aq dI ah ai hk hu aE=>exact⟨_,_,rfl⟩
theorem ajR{ty:TypeId}
  (hp:cI (Sat w ω τ) p v) (h:Ia P t p ans=some (r,cd,obs)):
  ∃z,(Builtin.len_ #[t] ty #[v]).run P w=.ok z w/\cI (Sat w ω τ) r z:=by
 unfold Ia at h;split at h
 ·rename_i e Un k es e1 e2;simp only[aQ,bu]at h;obtain⟨rfl,_,rfl⟩:=h;obtain⟨aD,_⟩:=aI.u6 e2 hp;obtain⟨b,c,rfl⟩:=aD.len;exact⟨_,by simp[Builtin.len_,run_underlying e1];rfl,rfl⟩
 ·rename_i e b n c e1 e2;simp only[aQ,bu]at h;obtain⟨rfl,_,rfl⟩:=h;have:v=.slice b n c:=aI.u6 e2 hp;subst this;exact⟨_,by simp[Builtin.len_,run_underlying e1];rfl,rfl⟩
 ·rename_i e s AR AS k es e1 e2;simp only[aQ,bu]at h;obtain⟨rfl,_,rfl⟩:=h;obtain⟨fR,rfl,aD,_⟩:=aI.u6 e2 hp;obtain⟨b,c,rfl⟩:=aD.len;exact⟨_,by simp[Builtin.len_,run_underlying e1];rfl,rfl⟩
 ·rename_i e s AR AS k es e1 e2;simp only[aQ,bu]at h;obtain⟨rfl,_,rfl⟩:=h;obtain⟨fR,rfl,aD,_⟩:=aI.u6 e2 hp;obtain⟨b,c,rfl⟩:=aD.len;exact⟨_,by simp[Builtin.len_,run_underlying e1];rfl,rfl⟩
 ·rename_i s e1 e2;simp only[aQ,bu]at h;obtain⟨rfl,_,rfl⟩:=h;have:v=.string s:=aI.u6 e2 hp;subst this;exact⟨_,by simp[Builtin.len_,run_underlying e1];rfl,rfl⟩
 cases h
theorem O9{es:List (List D)}{l n i j:Nat}{d:D}(h:cT ((es.drop l).take n) i j=some d):i<n/\cT es (l+i) j=some d:=by
 unfold cT at h ⊢;rw[j1]at h;split at h
 ·rw[jZ]at h;exact⟨by omega,h⟩
 simp at h
theorem bW.sub{R h0:List (Nat×Nat)->cS->Prop}{k:Nat}{es:List (List D)}{b cap:Nat}(h:bW w ω R (.J k es) (.slice (some ⟨b,off,none⟩) es.length cap))
  {l m:Nat} (ak:l<=m) (hm:m<=es.length) (B4:∀o,R [] o->h0 [] o) (WB:∀i j q o,l<=i->R ((i,j)::q) o->h0 ((i-l,j)::q) o):
  bW w ω h0 (.J k ((es.drop l).take (m-l))) (sliced (some ⟨b,off,none⟩) l m cap k):=by
 cases h with
 | nil=>
  have e1:l=0:=by simp at hm;omega
  have e2:m=0:=by simp at hm;omega
  subst e1 e2;simpa[sliced]using bW.nil h0 k _
 | row R k es b off cap arr ty cN us aq dI ah ai hk hu aE=>
  have hlen:((es.drop l).take (m-l)).length=m-l:=by simp;omega
  have hmul:l*k+(cap-l)*k=cap*k:=by rw[<-fo];congr 1;omega
  have key:∀oJ:Nat,(cap=l\/oJ=off+l*k)->oJ+(cap-l)*k<=arr.size->
    bW w ω h0 (.J k ((es.drop l).take (m-l))) (.slice (some ⟨b,oJ,none⟩) (m-l) (cap-l)):=by
   intro oJ aX ek;have bd:cap=l->m-l=0:=fun e=>by omega
   have aD:=bW.row (w:=w) (ω:=ω) h0 k ((es.drop l).take (m-l)) b oJ (cap-l) arr ty cN (fun i j=>us (l+i) j) aq (B4 _ dI) (by omega) ek
    (fun e he=>hk e (Mt (Fg he)))
    (fun i j d pv=>by
     obtain⟨hi,F9⟩:=O9 pv;rcases aX with aX | rfl
     ·have:=bd aX;omega
     rw[<-hu (l+i) j d F9]
     congr 1
     rw[fo];omega)
    (fun i j d pv=>by
     obtain⟨hi,F9⟩:=O9 pv;refine (aE (l+i) j d F9).frame fun b q _ aC=>⟨?_,rfl⟩
     have:=WB _ _ _ _ (Nat.le_add_right l i) aC;rwa[show l+i-l=i by omega]at this)
   rw[hlen]at aD;exact aD
  unfold sliced;split
  ·rename_i py;exact key off (.inl py) (by have:cap-l=0:=(by omega);rw[this];simp;omega)
  simp only[l3,pV];exact key _ (.inr rfl) (by omega)
def aB.view:aB->aB
 | .aO t _ _ k es .here=>.J (.ro t) k es
 | .aO t _ _ k es .k7=>.J (.ro t) k es
 | .dg _ k es=>.J .free k es
 | l=>l
theorem aB.Lq(ai:Sat w ω τ l y):Sat w ω τ l.view y:=by
 unfold aB.view;split
 ·obtain⟨fR,rfl,aD,_⟩:=ai;exact⟨aD.frame fun b q _ aC=>⟨.inr ⟨_,aC⟩,rfl⟩,aa⟩
 ·obtain⟨fR,rfl,aD,_⟩:=ai;exact⟨aD.frame fun b q _ aC=>⟨.inr ⟨_,aC⟩,rfl⟩,aa⟩
 ·exact⟨ai.1,aa⟩
 exact ai
theorem aI.Lq(h:p.leaf.map aB.view=some l)(ai:cI (Sat w ω τ) p y):Sat w ω τ l y:=by
 rw[b0]at h;obtain⟨eP,bJ,rfl⟩:=h;exact aB.Lq (aI.dy bJ ai)
def lg(st:aH):Option Operand->Option (Option Int)
 | none=>some none
 | some x=>((st.bh x).int).map fun p=>some p.2
def CA(P:Program)(st:aH)(t:TypeId)(p:aI)(cQ hi iu:Option Operand)(ans:List b7):jh:=
 match pW P t,p.leaf.map aB.view,iu with
 | some (_,k),some (.J tag cm es),none=>
  if k=cm then
   match lg st cQ,lg st hi with
   | some l,some h=>some (.one (.J tag.El k ((es.drop (l.getD 0).toNat).take ((h.getD es.length).toNat-(l.getD 0).toNat))),ans,[0<=l.getD 0,l.getD 0<=h.getD es.length,h.getD es.length<=es.length])
   | _,_=>none
  else none
 | _,_,_=>none
theorem zF{len cap:Nat}{cQ hi:Option Value}{l h:Int}(ak:cQ=none/\l=0\/∃k,cQ=some (.int k l))(bB:hi=none/\h=len\/∃k,hi=some (.int k h))
  (bJ:0<=l) (h1:l<=h) (U:h<=cap):(Instr.sliceBounds true len cap cQ hi none).run P w=.ok (l.toNat,h.toNat,cap) w:=by
 have atd:(h.toNat:Int)=h:=Int.toNat_of_nonneg (by omega);have ax:0<=h:=by omega
 rcases ak with⟨rfl,rfl⟩ | ⟨k,rfl⟩<;>rcases bB with⟨rfl,rfl⟩ | ⟨cm,rfl⟩<;>
  simp_all[Instr.sliceBounds,run_sliceBound]
theorem zG(aU:cw w0 st a w ω τ){x:Option Operand}{r:Option Int}(h:lg st x=some r):
  (x.map a.eval=none/\r=none)\/∃k n,x.map a.eval=some (.int k n)/\r=some n:=by
 cases x with
 | none=>simp[lg]at h;exact .inl ⟨rfl,h.symm⟩
 | some x=>
  simp only[lg,b0]at h;obtain⟨⟨k,n⟩,h1,U⟩:=h;exact .inr ⟨k,n,by simp[aI.ny h1 (aU.bh x)],U.symm⟩
theorem ajS{cQ hi iu:Option Operand}
  (aU:cw w0 st a w ω τ) (hp:cI (Sat w ω τ) p v) (h:CA P st t p cQ hi iu ans=some (r,cd,obs)) (aX:cE obs):
  ∃z,(Instr.sliceAt t v (cQ.map a.eval) (hi.map a.eval) (iu.map a.eval)).run P w=.ok z w/\cI (Sat w ω τ) r z:=by
 unfold CA at h;split at h
 ·rename_i e k tag cm es e1 e2;split at h
  ·rename_i hk;subst hk;split at h
   ·rename_i l bB cc ec;simp only[aQ,bu]at h;obtain⟨rfl,_,rfl⟩:=h;obtain⟨hu,i,k9,bd⟩:=vA e1;obtain⟨aD,_⟩:=aI.Lq e2 hp;obtain⟨cn,ca,cB,_⟩:=aX;have ax:=zG aU cc;have aK:=zG aU ec;have pE:(cQ.map a.eval=none/\l.getD 0=0)\/∃k,cQ.map a.eval=some (.int k (l.getD 0)):=by
     rcases ax with⟨h,rfl⟩ | ⟨k,n,h,rfl⟩
     ·exact .inl ⟨h,rfl⟩
     exact .inr ⟨k,h⟩
    have qy:(hi.map a.eval=none/\bB.getD es.length=es.length)\/∃k,hi.map a.eval=some (.int k (bB.getD es.length)):=by
     rcases aK with⟨h,rfl⟩ | ⟨k,n,h,rfl⟩
     ·exact .inl ⟨h,rfl⟩
     exact .inr ⟨k,h⟩
    cases aD with
    | nil _ _ a0=>
     simp only[b9] at*;have bz:l.getD 0=0:=by omega
     have Fx:bB.getD ((0:Nat):Int)=0:=by omega
     refine⟨.slice a0 0 0,?_,?_⟩
     ·simp only[Instr.sliceAt,Sem.run_bind,run_underlying hu,Result.andThen_ok,Instr.slice,Option.map_none];rw[zF pE qy cn ca cB];have Fy:bB.getD 0=0:=by simpa using Fx
      simp[sizeOf,typeInfo,k9,bz,Fy]
     refine⟨?_,Tag.Ll⟩;simp only[List.drop_nil,List.take_nil];exact .nil _ _ _
    | row R k es b off cap arr ty cN us aq dI ah ai hk iU aE=>
     refine⟨sliced (some ⟨b,off,none⟩) (l.getD 0).toNat (bB.getD es.length).toNat cap k,?_,?_,Tag.Ll⟩
     ·simp only[Instr.sliceAt,Sem.run_bind,run_underlying hu,Result.andThen_ok,Instr.slice,Option.map_none];rw[zF pE qy cn ca (by omega)];simp[sizeOf,typeInfo,k9,bd,sliced]
     exact bW.sub (.row _ k es b off cap arr ty cN us aq dI ah ai hk iU aE) (by omega) (by omega) (fun o h=>Tag.Lk h) (fun i j q o _ h=>Tag.Lk h)
   cases h
  cases h
 cases h
end Go.Sx
namespace Go.Sx
open Go.RowKit
def aB.ok:aB->Bool
 | .cp=>false
 | .v x=>x.oneCell'
 | _=>true
variable{w:World}{ω:Own}{y:Value}
theorem bW.oL{R:List (Nat×Nat)->cS->Prop}{d:D}(h:bW w ω R d y):y.oneCell'=true:=by
 cases h with
 | v R x h1=>exact h1
 | nil=>rfl
 | row=>rfl
 | ptr=>rfl
 | cl=>rfl
variable{τ:Nat->Nat×Value}
theorem aB.Oj{l:aB}(h:l.ok=true)(ai:Sat w ω τ l y):y.oneCell'=true:=by
 cases l with
 | cp=>cases h
 | v x=>have:y=x:=ai;subst this;exact h
 | bc c=>have:y=.bool c:=ai;subst this;rfl
 | J t k es=>exact ai.1.oL
 | ptr id off=>obtain⟨b,_,rfl⟩:=ai;rfl
 | cX t k es i j=>obtain⟨b,off,cap,rfl,_⟩:=ai;rfl
 | hF ds off=>obtain⟨b,rfl,_⟩:=ai;rfl
 | fd d=>exact bW.oL ai
 | dg t k es=>exact ai.1.oL
 | gg g ids=>obtain⟨bs,rfl,_⟩:=ai;rfl
 | aO t i j k es m=>
  obtain⟨u,hu,aD,_⟩:=ai;cases m with
  | at_ x y=>obtain⟨b,off,cap,_,rfl,_⟩:=hu;rfl
  | here=>have:y=u:=hu;subst this;exact aD.oL
  | k7=>have:y=u:=hu;subst this;exact aD.oL
 | e5 t vs=>obtain⟨b,ty,arr,rfl,_⟩:=ai;rfl
theorem zH(h:y.oneCell'=true):y.cells=#[y]:=by
 cases y<;>first | rfl | (simp[Value.oneCell']at h)
def aI.leaves:aI->Option (List aB)
 | .aJ (.one l)=>if l.ok then some [l] else none
 | .aJ (.agg ls)=>if ls.all aB.ok then some ls else none
 | _=>none
variable{p:aI}{ls:List aB}
theorem aI.w3(h:p.leaves=some ls)(ai:cI (Sat w ω τ) p y):
  jP (Sat w ω τ) ls y.cells/\∀u∈y.cells.toList,u.oneCell'=true:=by
 unfold aI.leaves at h;split at h
 ·rename_i l;split at h
  ·rename_i cG;simp only[aQ]at h;subst h;have h1:=aB.Oj cG ai;rw[zH h1];refine⟨⟨rfl,fun i gU ak=>?_⟩,by simpa using h1⟩;cases i with
   | zero=>simp at ak;subst ak;exact⟨y,rfl,ai⟩
   | succ i=>simp at ak
  cases h
 ·rename_i eU;split at h
  ·rename_i cG;simp only[aQ]at h;subst h;obtain⟨vs,rfl,aT,bA⟩:=ai;refine⟨⟨aT,bA⟩,fun u hu=>?_⟩;obtain⟨i,hi⟩:=o7.1 hu;have bC:i<eU.length:=by
    have:=(eu.1 hi).1;simp[Value.cells]at this;omega
   obtain⟨sC,h1,U⟩:=bA i eU[i] (by simp);have e:u=sC:=by
    have:(Value.agg vs).cells.toList[i]?=vs[i]?:=by simp[Value.cells]
    rw[this,h1]at hi;exact (eL hi).symm
   subst e;exact aB.Oj (fv.1 cG _ (x9 bC)) U
  cases h
 cases h
theorem O'(off:Nat):∀(vs:List Value) (k:Nat) (cells:Array Value) (i:Nat),off+k+vs.length<=cells.size->
  ((vs.zipIdx k).foldl (fun cs (x:Value×Nat)=>cs.setIfInBounds (off+x.2) x.1) cells)[i]?=if off+k<=i/\i<off+k+vs.length then vs[i-(off+k)]? else cells[i]?
 | [],k,cells,i,_=>by simp;intro h1 U;omega
 | v::vs,k,cells,i,h=>by
  simp only[List.zipIdx_cons,List.foldl_cons,dH]at h ⊢;rw[O' off vs (k+1) _ i (by simp;omega),Array.getElem?_setIfInBounds];by_cases h1:off+k=i
  ·subst h1;rw[bg (by omega),br rfl,br (by omega),br (by omega)];simp
  by_cases U:off+(k+1)<=i/\i<off+(k+1)+vs.length
  ·rw[br U,br (by omega)];obtain⟨j,a'⟩:∃j,i-(off+k)=j+1:=⟨i-(off+k)-1,by omega⟩
   rw[a',n1]
   congr 1
   omega
  rw[bg U,bg h1,bg (by omega)]
theorem Pb(off:Nat):∀(l:List (Value×Nat)) (cells:Array Value),(l.foldl (fun cs (x:Value×Nat)=>cs.setIfInBounds (off+x.2) x.1) cells).size=cells.size
 | [],_=>rfl
 | x::l,cells=>by simp only[List.foldl_cons];rw[Pb off l];simp
def sL(ls:List aB)(off:Nat)(xs:List aB):List aB:=ls.take off++(xs++ls.drop (off+xs.length))
variable{off:Nat}
theorem Pc{xs:List aB}{i:Nat}(h:off+xs.length<=ls.length):(sL ls off xs)[i]?=if off<=i/\i<off+xs.length then xs[i-off]? else ls[i]?:=by
 unfold sL;rw[kB,lx,Nat.min_eq_left (by omega)];by_cases h1:i<off
 ·rw[br h1,bg (by omega),j1,br h1]
 rw[bg h1,kB];by_cases U:i-off<xs.length
 ·rw[br U,br (by omega)]
 rw[bg U,bg (by omega),jZ]
 congr 1
 omega
theorem Ib{xs:List aB}(h:off+xs.length<=ls.length):(sL ls off xs).length=ls.length:=by
 simp[sL];omega
def qp(place:Nat->Option (Nat×Nat))(ls:List aB):List (Nat×aI)->Option (List aB)
 | []=>some ls
 | (i,p)::rest=>
  match place i,p.leaves with
  | some (off,size),some xs=>if xs.length=size/\off+size<=ls.length then qp place (sL ls off xs) rest else none
  | _,_=>none
theorem Ic{place:Nat->Option (Nat×Nat)}:∀{parts:List (Nat×aI)} {vals:List (Nat×Value)} {ls r:List aB} {cells:Array Value},
  parts.length=vals.length->(∀(j:Nat) i p,parts[j]?=some (i,p)->∃v,vals[j]?=some (i,v)/\cI (Sat w ω τ) p v)->qp place ls parts=some r->jP (Sat w ω τ) ls cells->
  ∃out,Instr.fill place cells vals=some out/\jP (Sat w ω τ) r out
 | [],vals,ls,r,cells,aT,_,h,ai=>by
  have:vals=[]:=ug (by simpa using aT.symm);subst this;simp only[qp,aQ]at h;subst h;exact⟨cells,rfl,ai⟩
 | (i,p)::parts,vals,ls,r,cells,aT,hp,h,ai=>by
  obtain⟨v,bA,ey⟩:=hp 0 i p rfl;cases vals with
  | nil=>simp at bA
  | cons x vals=>
   simp only[j2,aQ]at bA;subst bA;simp only[qp]at h;split at h
   ·rename_i off size xs e1 e2;split at h
    ·rename_i ah;obtain⟨kl,j9⟩:=ah;obtain⟨⟨ek,wW⟩,_⟩:=aI.w3 e2 ey;have wU:v.cells.size=size:=by omega
     have ow:off+v.cells.size<=cells.size:=by have:=ai.1;omega
     have fH:jP (Sat w ω τ) (sL ls off xs) (v.cells.zipIdx.foldl (fun cs (c,j)=>cs.setIfInBounds (off+j) c) cells):=by
      have e:v.cells.zipIdx.foldl (fun cs (c,j)=>cs.setIfInBounds (off+j) c) cells=(v.cells.toList.zipIdx 0).foldl (fun cs (x:Value×Nat)=>cs.setIfInBounds (off+x.2) x.1) cells:=by
       rw[<-Array.foldl_toList];simp
      rw[e];refine⟨by rw[Pb,Ib (by omega)];exact ai.1,fun j l ak=>?_⟩;rw[Pc (by omega)]at ak;rw[O' off _ 0 _ _ (by simp;omega)];simp only[uh,l4];by_cases a':off<=j/\j<off+xs.length
      ·rw[br a']at ak;rw[br (by omega)];obtain⟨u,h1,U⟩:=wW _ _ ak;exact⟨u,by simpa using h1,U⟩
      rw[bg a']at ak;rw[bg (by omega)];exact ai.2 _ _ ak
     obtain⟨out,h1,U⟩:=Ic (parts:=parts) (vals:=vals) (by simpa using aT) (fun j fs pT a'=>by have:=hp (j+1) fs pT (by simpa using a');simpa using this) h fH;refine⟨out,?_,U⟩;simp only[Instr.fill,e1];rw[bg (by simp;omega)];exact h1
    cases h
   cases h
def Ie(P:Program)(t:TypeId)(f:Nat):Option (Nat×Nat):=
 match P.underlying t with
 | some (.struct ep)=>
  match ep[f]? with
  | some fd=>(P.info? fd.type).map fun i=>(fd.offset,i.size)
  | none=>none
 | _=>none
def CB(P:Program)(st:aH)(t:TypeId)(parts:List (Nat×Operand))(ans:List b7):jh:=
 match P.underlying t,P.info? t with
 | some (.struct ep),some i=>
  match i.zero with
  | some z=>
   if ep.toList.all fun f=>(P.info? f.type).isSome then
    (qp (Ie P t) (z.cells.toList.map .v) (parts.map fun x=>(x.1,st.bh x.2))).map fun ls=>(.agg ls,ans,[])
   else none
  | none=>none
 | _,_=>none
theorem Pd{P:Program}(w:World):∀(ep:List Field),(∀f∈ep,(P.info? f.type).isSome=true)->
  (ep.mapM fun f=>(do pure (f.offset,<-sizeOf f.type):Sem (Nat×Nat))).run P w=.ok (ep.map fun f=>(f.offset,((P.info? f.type).map (·.size)).getD 0)) w
 | [],_=>by simp
 | f::ep,h=>by
  obtain⟨i,hi⟩:=o6.1 (h f (by simp));have dE:=Pd (P:=P) w ep (fun g au=>h g (by simp[au]));simp only[wi,Sem.run_bind,sizeOf,typeInfo,run_program,Result.andThen_ok,hi,Sem.run_pure,l2,l3,iA];simp only[Sem.run_bind,sizeOf,typeInfo,Sem.run_pure]at dE;rw[dE];simp
theorem CC{P:Program}{α β:Type}(f:α->Sem β)(xs:Array α)(w:World)(r:List β)(h:(xs.toList.mapM f).run P w=.ok r w):(xs.mapM f).run P w=.ok r.toArray w:=by
 rw[<-Array.toArray_toList (xs:=xs),List.mapM_toArray];rw[<-bind_pure_comp,Sem.run_bind,h];rfl
variable{P:Program}{w0:ej}{a:Act}{st:aH}{t:TypeId}{r:aI}{ans cd:List b7}{obs:List Prop}
theorem ajT{parts:Array (Nat×Operand)}
  (aU:cw w0 st a w ω τ) (h:CB P st t parts.toList ans=some (r,cd,obs)):
  ∃z,(Instr.build t (parts.map fun (i,x)=>(i,a.eval x))).run P w=.ok z w/\cI (Sat w ω τ) r z:=by
 unfold CB at h;split at h
 ·rename_i ep i hu hi;split at h
  ·rename_i z bd;split at h
   ·rename_i hA;rw[b0]at h;obtain⟨ls,h1,h⟩:=h;simp only[bu]at h;obtain⟨rfl,_,_⟩:=h;have Hp:jP (Sat w ω τ) (z.cells.toList.map .v) z.cells:=by
     refine⟨by simp,fun j l ak=>?_⟩;rw[dd,b0]at ak;obtain⟨u,hu,rfl⟩:=ak;exact⟨u,by simpa using hu,rfl⟩
    obtain⟨out,U,ax⟩:=Ic (vals:=parts.toList.map fun x=>(x.1,a.eval x.2)) (by simp) (fun j fs p a'=>by
     rw[dd,b0]at a';obtain⟨⟨i2,x⟩,ag,e⟩:=a';simp only[bu]at e;obtain⟨rfl,rfl⟩:=e;exact⟨a.eval x,by simp only[dd,ag,l3],aU.bh x⟩) h1 Hp
    have hm:=CC (P:=P) (fun f:Field=>(do pure (f.offset,<-sizeOf f.type):Sem (Nat×Nat))) ep w _ (Pd (P:=P) w ep.toList (fun f bY=>fv.1 hA f bY));have oy:(fun x=>(ep.toList.map fun f=>(f.offset,((P.info? f.type).map (·.size)).getD 0)).toArray[x]?)=Ie P t:=by
     funext x;simp only[o5,dd,mT,Ie,hu];cases ag:ep[x]? with
     | none=>rfl
     | some fd=>
      have:(P.info? fd.type).isSome=true:=fv.1 hA fd (by simpa using Array.mem_of_getElem? ag);obtain⟨fs,k9⟩:=o6.1 this;simp[k9]
    refine⟨.agg out,?_,out,rfl,ax⟩;simp only[Instr.build,Sem.run_bind,zeroValue,typeInfo,run_program,Result.andThen_ok,hi,Sem.run_pure,bd,run_underlying hu,hm,oy];have e:(Array.map (fun (x:Nat×Operand)=>(x.1,a.eval x.2)) parts).toList=parts.toList.map fun x=>(x.1,a.eval x.2):=by simp
    simp only[e,U,Sem.run_pure]
   cases h
  cases h
 cases h
def Ig(p:aI)(Cp:Nat)(ans:List b7):jh:=
 match p with
 | .fE as=>(as[Cp]?).map fun a=>(.aJ a,ans,[])
 | _=>none
variable{v:Value}
theorem ajU{P:Program}{Cp:Nat}
  (hp:cI (Sat w ω τ) p v) (h:Ig p Cp ans=some (r,cd,obs)):∃z,(Instr.extract v Cp).run P w=.ok z w/\cI (Sat w ω τ) r z:=by
 unfold Ig at h;split at h
 ·rename_i as;rw[b0]at h;obtain⟨aJ,h1,h⟩:=h;simp only[bu]at h;obtain⟨rfl,_,_⟩:=h;obtain⟨vs,rfl,aT,bA⟩:=hp;obtain⟨u,U,ax⟩:=bA _ _ h1;exact⟨u,by simp[Instr.extract,U],ax⟩
 cases h
def Ih(P:Program)(t:TypeId)(p:aI)(f:Nat)(ans:List b7):jh:=
 match P.underlying t with
 | some (.struct ep)=>
  match ep[f]? with
  | some fd=>
   match vz P fd.type,P.info? fd.type,p with
   | some agg,some i,.aJ (.agg ls)=>(qV agg i.size ls fd.offset).map fun r=>(r,ans,[])
   | _,_,_=>none
  | none=>none
 | _=>none
theorem ajz{f:Nat}
  (hp:cI (Sat w ω τ) p v) (h:Ih P t p f ans=some (r,cd,obs)):∃z,(Instr.field t v f).run P w=.ok z w/\cI (Sat w ω τ) r z:=by
 unfold Ih at h;split at h
 ·rename_i ep hu;split at h
  ·rename_i fd bY;split at h
   ·rename_i agg i ls e1 e2;rw[b0]at h;obtain⟨jX,h1,h⟩:=h;simp only[bu]at h;obtain⟨rfl,_,_⟩:=h;obtain⟨vs,rfl,aT,bA⟩:=hp;unfold qV at h1;cases agg with
    | true=>
     simp only[gL]at h1;split at h1
     ·rename_i hle;simp only[aQ]at h1;subst h1;refine⟨.agg (vs.extract fd.offset (fd.offset+i.size)),by simp[Instr.field,run_underlying hu,bY,asAgg,part,xi e1,sizeOf,typeInfo,e2],_,rfl,by simp;omega,fun j l ak=>?_⟩;rw[j1]at ak;split at ak
      ·rw[jZ]at ak;obtain⟨u,h1,U⟩:=bA _ l ak;refine⟨u,?_,U⟩;rw[Array.getElem?_extract,br (by omega),<-h1]
      cases ak
     cases h1
    | false=>
     simp only[rc,mY,b0]at h1;obtain⟨l,ak,rfl⟩:=h1;obtain⟨u,h1,U⟩:=bA _ l ak;exact⟨u,by simp[Instr.field,run_underlying hu,bY,asAgg,part,xi e1,h1],U⟩
   cases h
  cases h
 cases h
def Ii(op:UnOp)(p:aI)(ans:List b7):jh:=
 match op,p.leaf with
 | .not,some (.bc c)=>some (.one (.bc (!c)),ans,[])
 | .not,some (.v (.bool c))=>some (.one (.v (.bool (!c))),ans,[])
 | .neg,some (.v (.int k n))=>arith k (0-n) ans
 | _,_=>none
theorem ajA{op:UnOp}
  (hp:cI (Sat w ω τ) p v) (h:Ii op p ans=some (r,cd,obs)) (aX:cE obs):∃z,(Op.unary op v).run P w=.ok z w/\cI (Sat w ω τ) r z:=by
 unfold Ii at h;split at h
 ·rename_i c e;simp only[aQ,bu]at h;obtain⟨rfl,_,_⟩:=h;have:v=.bool c:=aI.dy e hp;subst this;exact⟨_,rfl,rfl⟩
 ·rename_i c e;simp only[aQ,bu]at h;obtain⟨rfl,_,_⟩:=h;have:v=.bool c:=aI.dy e hp;subst this;exact⟨_,rfl,rfl⟩
 ·rename_i k n e;have:v=.int k n:=aI.dy e hp;subst this;exact⟨_,rfl,xh h aX⟩
 cases h
def eF(c a b:aI)(ans:List b7):jh:=
 match c.leaf with
 | some (.v (.bool true))=>some (a,ans,[])
 | some (.v (.bool false))=>some (b,ans,[])
 | some (.bc c)=>
  match ans with
  | .od true::r=>some (a,r,[c=true])
  | .od false::r=>some (b,r,[c=false])
  | _=>none
 | _=>none
variable{u:Value}
theorem ajB{c a b:aI}{x:Value}
  (ah:cI (Sat w ω τ) c u) (aj:cI (Sat w ω τ) a x) (aq:cI (Sat w ω τ) b y) (h:eF c a b ans=some (r,cd,obs)) (aX:cE obs):
  ∃z,(do pure (.value (if <-asBool u then x else y)):Sem Next).run P w=.ok (.value z) w/\cI (Sat w ω τ) r z:=by
 unfold eF at h;split at h
 ·rename_i e;simp only[aQ,bu]at h;obtain⟨rfl,_,_⟩:=h;have:u=.bool true:=aI.dy e ah;subst this;exact⟨x,rfl,aj⟩
 ·rename_i e;simp only[aQ,bu]at h;obtain⟨rfl,_,_⟩:=h;have:u=.bool false:=aI.dy e ah;subst this;exact⟨y,rfl,aq⟩
 ·rename_i jk e;have:u=.bool jk:=aI.dy e ah;subst this;split at h
  ·simp only[aQ,bu]at h;obtain⟨rfl,_,rfl⟩:=h;have pv:jk=true:=aX.1;subst pv;exact⟨x,rfl,aj⟩
  ·simp only[aQ,bu]at h;obtain⟨rfl,_,rfl⟩:=h;have pv:jk=false:=aX.1;subst pv;exact⟨y,rfl,aq⟩
  cases h
 cases h
def xk:List (List D)->Option (List Int)
 | []=>some []
 | [.v (.int .u8 n)]::r=>(xk r).map (n::·)
 | _=>none
theorem Pe:∀{es:List (List D)} {xs:List Int},xk es=some xs->xs.length=es.length/\∀i,i<xs.length->cT es i 0=some (.v (.int .u8 (xs.getD i 0)))/\∀e,es[i]?=some e->e.length=1
 | [],xs,h=>by
  simp only[xk,aQ]at h;subst h;exact⟨rfl,fun i hi=>by simp at hi⟩
 | e::r,xs,h=>by
  unfold xk at h;split at h
  ·rename_i he;cases he
  ·rename_i n jX he;obtain⟨rfl,rfl⟩:=VW he;rw[b0]at h;obtain⟨ys,h1,rfl⟩:=h;obtain⟨U,ax⟩:=Pe h1;refine⟨by simp[U],fun i hi=>?_⟩;cases i with
   | zero=>exact⟨rfl,fun e he=>by simp at he;subst he;rfl⟩
   | succ i=>
    simp only[dH,Nat.add_lt_add_iff_right]at hi;obtain⟨aK,aV⟩:=ax i hi;exact⟨by simpa[cT]using aK,fun e he=>aV e (by simpa using he)⟩
  cases h
theorem cell_of_heap{b:Nat}{arr:Array Value}{ty:TypeId}{cN:Nat×Nat}(aq:w.heap[b]?=some (.cells arr ty cN))(h:arr[off]?=some v):w.cell? ⟨b,off,none⟩=some v:=by
 unfold World.cell?;simp[aq,h]
def aB.Ui:aB->Option (List (List D))
 | .J _ 1 es=>some es
 | _=>none
def Ij(P:Program)(src dst:TypeId)(p:aI)(ans:List b7):jh:=
 match P.underlying src,P.underlying dst,p.int with
 | some _,some (.int k),some (_,n)=>arith k n ans
 | some (.slice e),some .string,none=>
  match P.underlying e,p.leaf.bind aB.Ui,ans with
  | some (.int .u8),some es,.nI (.aJ (.one (.v (.string s))))::r=>some (.one (.v (.string s)),r,[(xk es).map strOfNums=some s])
  | _,_,_=>none
 | _,_,_=>none
theorem ajC{src dst:TypeId}
  (hp:cI (Sat w ω τ) p v) (h:Ij P src dst p ans=some (r,cd,obs)) (aX:cE obs):∃z,(convert src dst v).run P w=.ok z w/\cI (Sat w ω τ) r z:=by
 unfold Ij at h;split at h
 ·rename_i d k zk n e1 e2 cc;rw[aI.ny cc hp];exact⟨_,by simp[convert,run_underlying e1,run_underlying e2,Conv.intToInt],xh h aX⟩
 ·rename_i e e1 e2 cc;split at h
  ·rename_i es s jX ec gQ;simp only[aQ,bu]at h;obtain⟨rfl,_,rfl⟩:=h;have j':(xk es).map strOfNums=some s:=aX.1;rw[b0]at j';obtain⟨xs,h1,rfl⟩:=j';obtain⟨U,ax⟩:=Pe h1;rw[lv]at gQ;obtain⟨l,lD,mn⟩:=gQ;have ak:=aI.dy lD hp;unfold aB.Ui at mn;split at mn
   ·rename_i t cv;simp only[aQ]at mn;subst mn;obtain⟨aD,_⟩:=ak;refine⟨.string (strOfNums xs),?_,rfl⟩;cases aD with
    | nil R k a=>
     have:xs=[]:=List.length_eq_zero_iff.1 (by simpa using U);subst this;cases a with
     | none=>exact run_convert_bytes_nil w src e e1 ec 0 0 dst e2
     | some a=>
      rw[run_convert_bytes_string w src dst e _ 0 0 e1 ec e2];exact run_bytesToString w a 0 0 [] (run_loadCells_list w a [] (fun j v a'=>by simp at a'))
    | row R k _ b off cap arr ty cN us aq dI ah ai hk hu aE=>
     refine run_convert_bytes_arg w src e e1 ec b off cv.length cap xs U (fun i hi=>?_) dst e2;obtain⟨aK,_⟩:=ax i (by omega);have aV:=hu i 0 _ aK;have bw:=aE i 0 _ aK;generalize us i 0=u at aV bw;cases bw;rw[Nat.mul_one,l4]at aV;exact (cell_of_heap aq (by simpa using aV))
   cases mn
  cases h
 cases h
def Ik(P:Program)(t:TypeId)(p q:aI)(ans:List b7):jh:=
 match P.underlying t,p.leaf,q.int with
 | some .string,some (.v (.string s)),some (_,n)=>
  match ans with
  | .num m::r=>some (.one (.v (.int .u8 m)),r,[0<=n,(s[n.toNat]?).map (fun b=>((b.toNat:Nat):Int))=some m])
  | _=>none
 | _,_,_=>none
variable{q:aI}
theorem ajD
  (hp:cI (Sat w ω τ) p u) (aC:cI (Sat w ω τ) q v) (h:Ik P t p q ans=some (r,cd,obs)) (aX:cE obs):∃z,(Instr.index t u v).run P w=.ok z w/\cI (Sat w ω τ) r z:=by
 unfold Ik at h;split at h
 ·rename_i s zk n e1 e2 cc;split at h
  ·rename_i m gX;simp only[aQ,bu]at h;obtain⟨rfl,_,rfl⟩:=h;obtain⟨bJ,h1,_⟩:=aX;have:u=.string s:=aI.dy e2 hp;subst this;rw[aI.ny cc aC];rw[b0]at h1;obtain⟨b,aq,hm⟩:=h1;exact⟨.int .u8 m,by simp[Instr.index,asIntOf,run_underlying e1,bJ,aq,hm],rfl⟩
  cases h
 cases h
def Il(p q:aI)(ans:List b7):jh:=
 match p.int,q.int with
 | some (k,a),some (_,b)=>some (.one (.v (.int k (if b<a then b else a))),ans,[])
 | _,_=>none
def Im(p q:aI)(ans:List b7):jh:=
 match p.int,q.int with
 | some (k,a),some (_,b)=>some (.one (.v (.int k (if b>a then b else a))),ans,[])
 | _,_=>none
theorem ajE{P:Program}{ts:Array TypeId}{ty:TypeId}
  (hp:cI (Sat w ω τ) p u) (aC:cI (Sat w ω τ) q v) (h:Il p q ans=some (r,cd,obs)):∃z,(Builtin.min_ ts ty #[u,v]).run P w=.ok z w/\cI (Sat w ω τ) r z:=by
 unfold Il at h;split at h
 ·rename_i k a zk b e1 e2;simp only[aQ,bu]at h;obtain⟨rfl,_,_⟩:=h;rw[aI.ny e1 hp,aI.ny e2 aC];exact⟨_,by simp[Builtin.min_,Builtin.min2],rfl⟩
 cases h
theorem ajF{P:Program}{ts:Array TypeId}{ty:TypeId}
  (hp:cI (Sat w ω τ) p u) (aC:cI (Sat w ω τ) q v) (h:Im p q ans=some (r,cd,obs)):∃z,(Builtin.max_ ts ty #[u,v]).run P w=.ok z w/\cI (Sat w ω τ) r z:=by
 unfold Im at h;split at h
 ·rename_i k a zk b e1 e2;simp only[aQ,bu]at h;obtain⟨rfl,_,_⟩:=h;rw[aI.ny e1 hp,aI.ny e2 aC];exact⟨_,by simp[Builtin.max_,Builtin.max2],rfl⟩
 cases h
def Pf(p:aI)(ans:List b7):jh:=
 match p.leaf with
 | some (.ptr id off)=>some (.one (.ptr id off),ans,[])
 | some (.cX t k es i j)=>some (.one (.cX t k es i j),ans,[])
 | some (.hF ds off)=>some (.one (.hF ds off),ans,[])
 | some (.aO t i j k es (.at_ x y))=>some (.one (.aO t i j k es (.at_ x y)),ans,[])
 | _=>none
def On(p:aI):Option Nat:=
 match p.leaf with
 | some (.ptr id 0)=>some id
 | _=>none
def MS(p:aI):Option D:=
 match p.leaf with
 | some (.hF ds 0)=>some (.ptr ds)
 | some (.v x)=>if x.oneCell' then some (.v x) else none
 | _=>none
def CD(st:aH)(fn:Fn)(first captured:List Operand)(ans:List b7):jh:=
 match fn,first with
 | .func g,[]=>
  match (captured.map st.bh).mapM On with
  | some ids=>some (.one (.gg g ids),ans,[])
  | none=>
   match (captured.map st.bh).mapM MS with
   | some ds=>some (.one (.fd (.cl g ds)),ans,[])
   | none=>none
 | _,_=>none
theorem HS{α β:Type}{f:α->Option β}:∀{xs:List α} {ys:List β},xs.mapM f=some ys->ys.length=xs.length/\∀(i:Nat) (y:β),ys[i]?=some y->∃x,xs[i]?=some x/\f x=some y
 | [],ys,h=>by simp at h;subst h;simp
 | x::xs,ys,h=>by
  rw[wi]at h;cases e:f x with
  | none=>simp[e]at h
  | some y=>
   cases e2:xs.mapM f with
   | none=>simp[e,e2]at h
   | some zs=>
    simp[e,e2]at h;subst h;obtain⟨h1,U⟩:=HS e2;refine⟨by simp[h1],fun i e9 hi=>?_⟩;cases i with
    | zero=>simp at hi;subst hi;exact⟨x,rfl,e⟩
    | succ i=>simpa using U i e9 (by simpa using hi)
theorem ajG{P:Program}{fn:Fn}{first captured:Array Operand}
  (aU:cw w0 st a w ω τ) (h:CD st fn first.toList captured.toList ans=some (r,cd,obs)):
  ∃z,(Instr.makeFunc fn (first.map a.eval) (captured.map a.eval)).run P w=.ok z w/\cI (Sat w ω τ) r z:=by
 unfold CD at h;split at h
 ·rename_i g W8;have bY:first=#[]:=by
   rcases first with⟨l⟩
   simpa using W8
  subst bY;refine⟨.func (.func g) #[] (captured.map a.eval),by simp[Instr.makeFunc],?_⟩;have qw:∀(i:Nat) (x:aI),(captured.toList.map st.bh)[i]?=some x->∃v,(captured.map a.eval)[i]?=some v/\cI (Sat w ω τ) x v:=by
   intro i x ag;rw[dd,b0]at ag;obtain⟨o,aX,rfl⟩:=ag;refine⟨a.eval o,?_,aU.bh o⟩;rw[yd];rw[mT]at aX;rw[aX];rfl
  split at h
  ·rename_i ids Xj;simp only[aQ,bu]at h;obtain⟨rfl,_,_⟩:=h;obtain⟨aT,au⟩:=HS Xj;have hex:∀i,i<ids.length->∃b id,ids[i]?=some id/\(captured.map a.eval)[i]?=some (ptrTo b)/\ω b=.box id:=by
    intro i hi;obtain⟨x,ag,ju⟩:=au i ids[i] (by simp[hi]);obtain⟨v,bA,ai⟩:=qw i x ag;unfold On at ju;split at ju
    ·rename_i id ak;simp only[aQ]at ju;obtain⟨b,aq,rfl⟩:=aI.dy ak ai;exact⟨b,id,by simp[hi,ju],bA,aq⟩
    cases ju
   have ek:(captured.map a.eval).size=ids.length:=by simp at aT;simp[aT]
   let bs:=(List.range ids.length).map fun i=>(match (captured.map a.eval)[i]? with | some (.pointer (some p))=>p.block | _=>0)
   refine⟨bs,?_,by simp[bs],fun i id fB=>?_⟩
   ·congr 1
    apply Array.ext
    ·simp[bs,ek]
    intro i h1 U;obtain⟨b,id,_,bA,_⟩:=hex i (by rw[<-ek];exact h1);have y8:=bA;rw[hJ h1,aQ]at y8;rw[y8];have e:bs[i]'(by simpa using U)=b:=by simp only[bs,List.getElem_map,List.getElem_range,bA,ptrTo]
    simp[e]
   have hi:=(eu.1 fB).1;obtain⟨b,gv,Nt,bA,aq⟩:=hex i hi;rw[fB]at Nt;have:=eL Nt;subst this;refine⟨b,?_,aq⟩;simp only[bs,dd,List.getElem?_range hi,l3,bA,ptrTo]
  split at h
  ·rename_i ds eh;simp only[aQ,bu]at h;obtain⟨rfl,_,_⟩:=h;obtain⟨aT,au⟩:=HS eh;refine bW.cl _ g ds (captured.map a.eval) (fun j=>(captured.map a.eval).getD j undef) (by simp at aT;simp[aT]) (fun j d aE=>?_) (fun j d aE=>?_)
   ·obtain⟨x,ag,_⟩:=au j d aE;obtain⟨v,bA,_⟩:=qw j x ag;rw[bA];simp only[d',bA,iA]
   obtain⟨x,ag,ju⟩:=au j d aE;obtain⟨v,bA,ai⟩:=qw j x ag;have e:(captured.map a.eval).getD j undef=v:=by simp only[d',bA,iA]
   rw[e];unfold MS at ju;split at ju
   ·rename_i rB ak;simp only[aQ]at ju;subst ju;obtain⟨b,rfl,aD⟩:=aI.dy ak ai;exact aD.frame fun b q aq aC=>⟨aC,rfl⟩
   ·rename_i y ak;split at ju
    ·rename_i XN;simp only[aQ]at ju;subst ju;have:v=y:=aI.dy ak ai;subst this;exact .v _ _ XN
    cases ju
   cases ju
  cases h
 cases h
def CE(P:Program)(st:aH)(b:Builtin)(args:List Operand)(ts:List TypeId)(ans:List b7):jh:=
 match b,args,ts with
 | .len,[x],[t]=>Ia P t (st.bh x) ans
 | .min,[x,y],_=>Il (st.bh x) (st.bh y) ans
 | .max,[x,y],_=>Im (st.bh x) (st.bh y) ans
 | _,_,_=>none
def oS(P:Program)(st:aH)(op:Op)(ans:List b7):jh:=
 match op with
 | .move x | .assign x=>some (st.bh x,ans,[])
 | .pick c a b=>eF (st.bh c) (st.bh a) (st.bh b) ans
 | .load t x=>Cz P st t (st.bh x) ans
 | .nilCheck x=>Pf (st.bh x) ans
 | .binOp op t x y _=>H7 P op t x y (st.bh x) (st.bh y) ans
 | .unOp op _ x=>Ii op (st.bh x) ans
 | .convert s d x=>Ij P s d (st.bh x) ans
 | .slice t x cQ hi iu=>CA P st t (st.bh x) cQ hi iu ans
 | .fieldAddr s x f=>H9 P s (st.bh x) f ans
 | .field t x f=>Ih P t (st.bh x) f ans
 | .indexAddr t x i=>H' P t (st.bh x) (st.bh i) ans
 | .index t x i=>Ik P t (st.bh x) (st.bh i) ans
 | .extract x i=>Ig (st.bh x) i ans
 | .build t parts=>CB P st t parts.toList ans
 | .call ⟨.builtin b,args,ts⟩=>CE P st b args.toList ts.toList ans
 | .makeFunc fn first captured=>CD st fn first.toList captured.toList ans
 | _=>none
theorem iy{aN:World}{s:Sem Value}{z:Value}(h:s.run P w=.ok z aN):(do pure (.value (<-s)):Sem Next).run P w=.ok (.value z) aN:=by
 rw[Sem.run_bind,h];rfl
theorem ajH{b:Builtin}{args:Array Operand}{ts:Array TypeId}{ty:TypeId}{consts:Array Bool}
  (aU:cw w0 st a w ω τ) (h:CE P st b args.toList ts.toList ans=some (r,cd,obs)):
  ∃z,(builtin b ts ty consts (args.map a.eval)).run P w=.ok (.value z) w/\cI (Sat w ω τ) r z:=by
 obtain⟨args⟩:=args;obtain⟨ts⟩:=ts;unfold CE at h;split at h
 ·rename_i x t e1 e2;simp only at e1 e2;subst e1 e2;obtain⟨z,h1,U⟩:=ajR (ty:=ty) (aU.bh x) h;refine⟨z,iy (s:=Builtin.len_ #[t] ty (Array.map a.eval #[x])) ?_,U⟩;simpa using h1
 ·rename_i x y e1;simp only at e1;subst e1;obtain⟨z,h1,U⟩:=ajE (P:=P) (ts:=⟨ts⟩) (ty:=ty) (aU.bh x) (aU.bh y) h;refine⟨z,iy (s:=Builtin.min_ ⟨ts⟩ ty (Array.map a.eval #[x,y])) ?_,U⟩;simpa using h1
 ·rename_i x y e1;simp only at e1;subst e1;obtain⟨z,h1,U⟩:=ajF (P:=P) (ts:=⟨ts⟩) (ty:=ty) (aU.bh x) (aU.bh y) h;refine⟨z,iy (s:=Builtin.max_ ⟨ts⟩ ty (Array.map a.eval #[x,y])) ?_,U⟩;simpa using h1
 cases h
theorem HT{o:Oper}
  (aU:cw w0 st a w ω τ) (h:oS P st o.op ans=some (r,cd,obs)) (aX:cE obs):
  ∃z,(execOp a.eval o).run P w=.ok (.value z) w/\cI (Sat w ω τ) r z:=by
 obtain⟨dst,op,type,pos,after,guard⟩:=o;simp only at h;unfold oS at h;split at h
 ·rename_i x;simp only[aQ,bu]at h;obtain⟨rfl,_,_⟩:=h;exact⟨a.eval x,rfl,aU.bh x⟩
 ·rename_i x;simp only[aQ,bu]at h;obtain⟨rfl,_,_⟩:=h;exact⟨a.eval x,rfl,aU.bh x⟩
 ·rename_i c x y;exact ajB (aU.bh c) (aU.bh x) (aU.bh y) h aX
 ·rename_i t x;obtain⟨z,h1,U⟩:=ajQ aU (aU.bh x) h aX;exact⟨z,iy h1,U⟩
 ·rename_i x;unfold Pf at h;split at h
  ·rename_i id off e;simp only[aQ,bu]at h;obtain⟨rfl,_,_⟩:=h;have ai:=aI.dy e (aU.bh x);obtain⟨b,aq,ag⟩:=ai;exact⟨_,by simp only[execOp,ag];rfl,b,aq,rfl⟩
  ·rename_i t k es i j e;simp only[aQ,bu]at h;obtain⟨rfl,_,_⟩:=h;have ai:=aI.dy e (aU.bh x);have db:=ai;obtain⟨b,off,cap,ag,h1⟩:=ai;refine⟨_,by simp only[execOp,ag];rfl,?_⟩;rw[<-ag];exact db
  ·rename_i ds off e;simp only[aQ,bu]at h;obtain⟨rfl,_,_⟩:=h;have ai:=aI.dy e (aU.bh x);have db:=ai;obtain⟨b,ag,h1⟩:=ai;refine⟨_,by simp only[execOp,ag];rfl,?_⟩;rw[<-ag];exact db
  ·rename_i t i j k es asx Ms e;simp only[aQ,bu]at h;obtain⟨rfl,_,_⟩:=h;have ai:=aI.dy e (aU.bh x);have db:=ai;obtain⟨fR,⟨b,off,cap,_,ag,_⟩,_⟩:=ai;refine⟨_,by simp only[execOp,ag];rfl,?_⟩;rw[<-ag];exact db
  cases h
 ·rename_i YE t x y qg;obtain⟨z,h1,U⟩:=ajM (aU.bh x) (aU.bh y) h aX;exact⟨z,iy h1,U⟩
 ·rename_i YE t x;obtain⟨z,h1,U⟩:=ajA (aU.bh x) h aX;exact⟨z,iy h1,U⟩
 ·rename_i s d x;obtain⟨z,h1,U⟩:=ajC (aU.bh x) h aX;exact⟨z,iy h1,U⟩
 ·rename_i t x cQ hi iu;obtain⟨z,h1,U⟩:=ajS aU (aU.bh x) h aX;exact⟨z,iy h1,U⟩
 ·rename_i s x f;obtain⟨z,h1,U⟩:=ajN (aU.bh x) h;exact⟨z,iy h1,U⟩
 ·rename_i t x f;obtain⟨z,h1,U⟩:=ajz (aU.bh x) h;exact⟨z,iy h1,U⟩
 ·rename_i t x i;obtain⟨z,h1,U⟩:=ajO (aU.bh x) (aU.bh i) h aX;exact⟨z,iy h1,U⟩
 ·rename_i t x i;obtain⟨z,h1,U⟩:=ajD (aU.bh x) (aU.bh i) h aX;exact⟨z,iy h1,U⟩
 ·rename_i x i;obtain⟨z,h1,U⟩:=ajU (P:=P) (aU.bh x) h;exact⟨z,iy h1,U⟩
 ·rename_i t parts;obtain⟨z,h1,U⟩:=ajT aU h;exact⟨z,iy h1,U⟩
 ·rename_i b args ts;obtain⟨z,h1,U⟩:=ajH (ty:=type) (consts:=args.map fun | .const _=>true | _=>false) aU h;exact⟨z,by simp only[execOp,resolve,Sem.run_bind,Sem.run_pure,Result.andThen_ok,invoke];exact h1,U⟩
 ·rename_i fn first captured
  obtain⟨z,h1,U⟩:=ajG (P:=P) aU h;exact⟨z,iy h1,U⟩
 cases h
