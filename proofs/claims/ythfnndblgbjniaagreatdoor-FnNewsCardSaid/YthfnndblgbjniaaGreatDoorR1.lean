import Derived.WalkKit
import Derived.WalkSpells
import Derived.WalkLawsBesides
import Derived.KernelRfl
set_option linter.unusedVariables false
set_option linter.unusedSimpArgs false
namespace Go.Sx
open Go.RowKit
universe u v w x
theorem ad:True:=⟨⟩
theorem aT:type_of% @Option.some.injEq.{u}:=@Option.some.injEq.{u}
theorem cr:type_of% @List.length_map.{u,v}:=@List.length_map.{u,v}
theorem b0:type_of% @Option.map_eq_some_iff.{u,v}:=@Option.map_eq_some_iff.{u,v}
theorem bq:type_of% @Prod.mk.injEq.{u,v}:=@Prod.mk.injEq.{u,v}
theorem c3:type_of% @Bool.eq_false_or_eq_true:=@Bool.eq_false_or_eq_true
theorem n':type_of% @decide_eq_false_iff_not:=@decide_eq_false_iff_not
theorem hb:type_of% @List.mem_cons_of_mem.{u}:=@List.mem_cons_of_mem.{u}
theorem dM:type_of% @List.length_nil.{u}:=@List.length_nil.{u}
theorem cW:type_of% @decide_eq_true_eq:=@decide_eq_true_eq
theorem cJ:type_of% @Bool.and_eq_true:=@Bool.and_eq_true
theorem fA:type_of% @List.getElem?_eq_some_iff.{u}:=@List.getElem?_eq_some_iff.{u}
theorem eg:type_of% @Array.getD_eq_getD_getElem?.{u}:=@Array.getD_eq_getD_getElem?.{u}
theorem jn:type_of% @List.mem_cons_self.{u}:=@List.mem_cons_self.{u}
theorem gz:type_of% @List.length_set.{u}:=@List.length_set.{u}
theorem bE:type_of% @if_neg.{u}:=@if_neg.{u}
theorem bU:type_of% @if_pos.{u}:=@if_pos.{u}
theorem gP:type_of% @List.length_cons.{u}:=@List.length_cons.{u}
theorem dk:type_of% @List.getElem?_map.{u,v}:=@List.getElem?_map.{u,v}
theorem ma:type_of% @decide_eq_false:=@decide_eq_false
theorem ih:type_of% @List.getElem?_eq_getElem.{u}:=@List.getElem?_eq_getElem.{u}
theorem dL:type_of% @Nat.zero_add:=@Nat.zero_add
theorem fe:type_of% @List.mem_of_getElem?.{u}:=@List.mem_of_getElem?.{u}
theorem fB:type_of% @Option.some.inj.{u}:=@Option.some.inj.{u}
theorem gh:type_of% @Bool.or_eq_false_iff:=@Bool.or_eq_false_iff
theorem iV:type_of% @Array.getElem?_eq_some_iff.{u}:=@Array.getElem?_eq_some_iff.{u}
theorem th:type_of% @List.getElem?_drop.{u}:=@List.getElem?_drop.{u}
theorem gN:type_of% @Nat.mul_le_mul_right:=@Nat.mul_le_mul_right
theorem jH:type_of% @List.take_length.{u}:=@List.take_length.{u}
theorem jI:type_of% @Array.getElem?_eq_getElem.{u}:=@Array.getElem?_eq_getElem.{u}
theorem jl:type_of% @beq_iff_eq.{u}:=@beq_iff_eq.{u}
theorem pk:type_of% @List.getElem?_take.{u}:=@List.getElem?_take.{u}
theorem ar6:type_of% @List.cons.inj.{u}:=@List.cons.inj.{u}
theorem vj:type_of% @Array.getElem?_toList.{u}:=@Array.getElem?_toList.{u}
theorem hG:type_of% @List.mem_append_left.{u}:=@List.mem_append_left.{u}
theorem ig:type_of% @List.mem_append_right.{u}:=@List.mem_append_right.{u}
theorem kU:type_of% @Array.getElem?_append.{u}:=@Array.getElem?_append.{u}
theorem ep:type_of% @List.mem_cons.{u}:=@List.mem_cons.{u}
theorem fp:type_of% @List.all_eq_true.{u}:=@List.all_eq_true.{u}
theorem jJ:type_of% @List.getD_eq_getElem?_getD.{u}:=@List.getD_eq_getElem?_getD.{u}
theorem ht:type_of% @Nat.le_refl:=@Nat.le_refl
theorem hv:type_of% @List.any_eq_false.{u}:=@List.any_eq_false.{u}
theorem D3:type_of% @Bool.eq_false_iff:=@Bool.eq_false_iff
theorem gx:type_of% @Nat.add_mul:=@Nat.add_mul
theorem hT:type_of% @Bool.not_eq_true':=@Bool.not_eq_true'
theorem n5:type_of% @List.getElem?_append.{u}:=@List.getElem?_append.{u}
theorem gy:type_of% @List.map_append.{u,v}:=@List.map_append.{u,v}
theorem j5:type_of% @Option.getD_some.{u}:=@Option.getD_some.{u}
theorem ks:type_of% @List.map_congr_left.{u,v}:=@List.map_congr_left.{u,v}
theorem j6:type_of% @Bool.not_eq_false':=@Bool.not_eq_false'
theorem qk:type_of% @List.getElem?_toArray.{u}:=@List.getElem?_toArray.{u}
theorem jm:type_of% @Bool.not_true:=@Bool.not_true
theorem kt:type_of% @List.append_nil.{u}:=@List.append_nil.{u}
theorem ku:type_of% @List.length_append.{u}:=@List.length_append.{u}
theorem rN:type_of% @List.size_toArray.{u}:=@List.size_toArray.{u}
theorem l7:type_of% @List.getElem?_set.{u}:=@List.getElem?_set.{u}
theorem po:type_of% @Int.toNat_natCast:=@Int.toNat_natCast
theorem n7:type_of% @List.getElem?_cons_succ.{u}:=@List.getElem?_cons_succ.{u}
theorem kV:type_of% @List.getElem?_cons_zero.{u}:=@List.getElem?_cons_zero.{u}
theorem kW:type_of% @Option.bind_eq_some_iff.{u,v}:=@Option.bind_eq_some_iff.{u,v}
theorem ti:type_of% @List.findIdx?_eq_some_iff_getElem.{u}:=@List.findIdx?_eq_some_iff_getElem.{u}
theorem pq:type_of% @Option.isSome_iff_exists.{u}:=@Option.isSome_iff_exists.{u}
theorem pr:type_of% @List.mem_iff_getElem?.{u}:=@List.mem_iff_getElem?.{u}
theorem iU:type_of% @Bool.false_or:=@Bool.false_or
theorem Ai:type_of% @List.set_set.{u}:=@List.set_set.{u}
theorem l8:type_of% @Option.bind_some.{u,v}:=@Option.bind_some.{u,v}
theorem ql:type_of% @Bool.false_eq_true:=@Bool.false_eq_true
theorem j7:type_of% @decide_eq_true:=@decide_eq_true
theorem atY:type_of% @Int.le_trans:=@Int.le_trans
theorem mW:type_of% @List.mem_flatMap.{u,v}:=@List.mem_flatMap.{u,v}
theorem D4:type_of% @List.getElem?_append_right.{u}:=@List.getElem?_append_right.{u}
theorem rO:type_of% @List.length_filter_le.{u}:=@List.length_filter_le.{u}
theorem jK:type_of% @List.map_set.{u,v}:=@List.map_set.{u,v}
theorem lu:type_of% @List.map_cons.{u,v}:=@List.map_cons.{u,v}
theorem rP:type_of% @Option.map_some.{u,v}:=@Option.map_some.{u,v}
theorem rQ:type_of% @List.getElem_mem.{u}:=@List.getElem_mem.{u}
theorem qm:type_of% @List.length_take.{u}:=@List.length_take.{u}
theorem lv:type_of% @List.mem_append.{u}:=@List.mem_append.{u}
theorem rR:type_of% @List.append_assoc.{u}:=@List.append_assoc.{u}
theorem gO:type_of% @if_true.{u}:=@if_true.{u}
theorem n8:type_of% @Bool.not_false:=@Bool.not_false
theorem w8:type_of% @Array.size_append.{u}:=@Array.size_append.{u}
theorem rS:type_of% @List.take_add_one.{u}:=@List.take_add_one.{u}
theorem ps:type_of% @List.mem_or_eq_of_mem_set.{u}:=@List.mem_or_eq_of_mem_set.{u}
theorem D5:type_of% @List.getElem?_append_left.{u}:=@List.getElem?_append_left.{u}
theorem vk:type_of% @List.mem_of_mem_take.{u}:=@List.mem_of_mem_take.{u}
theorem pt:type_of% @Bool.or_eq_true:=@Bool.or_eq_true
theorem mX:type_of% @Nat.add_zero:=@Nat.add_zero
theorem D6:type_of% @List.take_of_length_le.{u}:=@List.take_of_length_le.{u}
theorem n9:type_of% @Bool.true_and:=@Bool.true_and
theorem kX:type_of% @List.mem_map.{u,v}:=@List.mem_map.{u,v}
theorem Aj:type_of% @List.mem_of_mem_drop.{u}:=@List.mem_of_mem_drop.{u}
theorem Ak:type_of% @List.getElem?_replicate.{u}:=@List.getElem?_replicate.{u}
theorem qn:type_of% @Nat.lt_or_ge:=@Nat.lt_or_ge
theorem Al:type_of% @beq_eq_false_iff_ne.{u}:=@beq_eq_false_iff_ne.{u}
theorem qo:type_of% @List.cons.injEq.{u}:=@List.cons.injEq.{u}
theorem UO:type_of% @List.findIdx?_eq_none_iff.{u}:=@List.findIdx?_eq_none_iff.{u}
theorem tj:type_of% @Bool.not_eq_true:=@Bool.not_eq_true
theorem l9:type_of% @List.not_mem_nil.{u}:=@List.not_mem_nil.{u}
theorem w9:type_of% @List.eq_nil_of_length_eq_zero.{u}:=@List.eq_nil_of_length_eq_zero.{u}
theorem UP:type_of% @List.take_append_of_le_length.{u}:=@List.take_append_of_le_length.{u}
theorem LJ:type_of% @Array.length_toList.{u}:=@Array.length_toList.{u}
theorem rT:type_of% @beq_self_eq_true.{u}:=@beq_self_eq_true.{u}
theorem w':type_of% @Nat.lt_of_lt_of_le:=@Nat.lt_of_lt_of_le
theorem D7:type_of% @Option.isSome_eq_false_iff.{u}:=@Option.isSome_eq_false_iff.{u}
theorem ar9:type_of% @List.take_append_drop.{u}:=@List.take_append_drop.{u}
theorem l':type_of% @ne_eq.{u}:=@ne_eq.{u}
theorem D8:type_of% @Option.isNone_iff_eq_none.{u}:=@Option.isNone_iff_eq_none.{u}
theorem rU:type_of% @Nat.le_trans:=@Nat.le_trans
theorem pu:type_of% @List.map_id.{u}:=@List.map_id.{u}
theorem Am:type_of% @List.any_cons.{u}:=@List.any_cons.{u}
theorem xa:type_of% @List.mapM_cons.{u,v,w}:=@List.mapM_cons.{u,v,w}
theorem mY:type_of% @if_false.{u}:=@if_false.{u}
theorem rV:type_of% @List.any_eq_true.{u}:=@List.any_eq_true.{u}
theorem xb:type_of% @List.drop_zero.{u}:=@List.drop_zero.{u}
theorem atZ:type_of% @Int.natCast_zero:=@Int.natCast_zero
theorem LK:type_of% @List.flatMap_nil.{u,v}:=@List.flatMap_nil.{u,v}
theorem An:type_of% @Array.getElem?_eq_none.{u}:=@Array.getElem?_eq_none.{u}
theorem asa:type_of% @Array.getElem?_map.{u,v}:=@Array.getElem?_map.{u,v}
theorem Ao:type_of% @Option.toList_some.{u}:=@Option.toList_some.{u}
theorem LL:type_of% @List.range_zero:=@List.range_zero
theorem tk:type_of% @List.map_take.{u,v}:=@List.map_take.{u,v}
theorem tm:type_of% @Bool.and_true:=@Bool.and_true
theorem xc:type_of% @List.length_range:=@List.length_range
theorem Ap:type_of% @Nat.mod_eq_of_lt:=@Nat.mod_eq_of_lt
theorem UQ:type_of% @Nat.add_assoc:=@Nat.add_assoc
theorem Aq:type_of% @List.sum_cons.{u}:=@List.sum_cons.{u}
inductive D where
 | v (x:Value)
 | J (k:Nat) (es:List (List D))
 | ptr (ds:List D)
 | bI (g:FuncId) (bB:List D)
inductive c4 where
 | bz
 | box (id:Nat)
 | tok (t:Nat) (q:List (Nat×Nat))
abbrev Own:=Nat->c4
def cN(es:List (List D))(i j:Nat):Option D:=(es[i]?).bind (·[j]?)
inductive bS (w:World) (ω:Own):(List (Nat×Nat)->c4->Prop)->D->Value->Prop
 | v (R:List (Nat×Nat)->c4->Prop) (x:Value) (U:x.oneCell'=true):bS w ω R (.v x) x
 | nil (R:List (Nat×Nat)->c4->Prop) (k:Nat) (a:Option Addr):bS w ω R (.J k []) (.slice a 0 0)
 | row (R:List (Nat×Nat)->c4->Prop) (k:Nat) (es:List (List D)) (b off cap:Nat) (arr:Array Value) (ty:TypeId) (cF:Nat×Nat) (us:Nat->Nat->Value)
   (aw:w.heap[b]?=some (.cells arr ty cF)) (dz:R [] (ω b)) (ap:es.length<=cap) (aj:off+cap*k<=arr.size) (bc:∀e∈es,e.length=k)
   (hu:∀i j d,cN es i j=some d->arr[off+i*k+j]?=some (us i j))
   (aF:∀i j d,cN es i j=some d->bS w ω (fun q=>R ((i,j)::q)) d (us i j)):
   bS w ω R (.J k es) (.slice (some ⟨b,off,none⟩) es.length cap)
 | ptr (R:List (Nat×Nat)->c4->Prop) (ds:List D) (b:Nat) (arr:Array Value) (ty:TypeId) (cF:Nat×Nat) (us:Nat->Value)
   (aw:w.heap[b]?=some (.cells arr ty cF)) (dz:R [] (ω b)) (aj:arr.size=ds.length)
   (hu:∀j d,ds[j]?=some d->arr[j]?=some (us j)) (aF:∀j d,ds[j]?=some d->bS w ω (fun q=>R ((0,j)::q)) d (us j)):
   bS w ω R (.ptr ds) (.pointer (some ⟨b,0,none⟩))
 | bI (R:List (Nat×Nat)->c4->Prop) (g:FuncId) (bB:List D) (cs:Array Value) (us:Nat->Value) (aj:cs.size=bB.length)
   (hu:∀j d,bB[j]?=some d->cs[j]?=some (us j)) (aF:∀j d,bB[j]?=some d->bS w ω (fun q=>R ((0,j)::q)) d (us j)):
   bS w ω R (.bI g bB) (.func (.func g) #[] cs)
variable{w aP:World}{ω:Own}
theorem bS.frame{a':Own}{R:List (Nat×Nat)->c4->Prop}{d:D}{v:Value}(h:bS w ω R d v):
  ∀{hH:List (Nat×Nat)->c4->Prop},(∀b q,b<w.heap.size->R q (ω b)->hH q (a' b)/\aP.heap[b]?=w.heap[b]?)->bS aP a' hH d v:=by
 induction h with
 | v R x U=>intro hH _;exact .v hH x U
 | nil R k a=>intro hH _;exact .nil hH k a
 | row R k es b off cap arr ty cF us aw dz ap aj bc hu aF d'=>
  intro hH b7;have bM:b<w.heap.size:=by
   rcases qn b w.heap.size with h | h
   ·exact h
   simp[An h]at aw
  obtain⟨U,aa⟩:=b7 b [] bM dz;exact .row hH k es b off cap arr ty cF us (aa.trans aw) U ap aj bc hu (fun i j d dX=>d' i j d dX (fun b q au aM=>b7 b ((i,j)::q) au aM))
 | ptr R ds b arr ty cF us aw dz aj hu aF d'=>
  intro hH b7;have bM:b<w.heap.size:=by
   rcases qn b w.heap.size with h | h
   ·exact h
   simp[An h]at aw
  obtain⟨U,aa⟩:=b7 b [] bM dz;exact .ptr hH ds b arr ty cF us (aa.trans aw) U aj hu (fun j d dX=>d' j d dX (fun b q au aM=>b7 b ((0,j)::q) au aM))
 | bI R g bB cs us aj hu aF d'=>
  intro hH b7;exact .bI hH g bB cs us aj hu (fun j d dX=>d' j d dX (fun b q au aM=>b7 b ((0,j)::q) au aM))
inductive Tag where
 | free
 | own (t:Nat)
 | ro (t:Nat)
def Tag.R:Tag->List (Nat×Nat)->c4->Prop
 | .free,_,o=>o=.bz
 | .own t,q,o=>o=.tok t q
 | .ro t,_,o=>o=.bz\/∃q,o=.tok t q
def Tag.dG(τ:Nat->Nat×Value):Tag->Nat×Value->Prop
 | .own t,y=>τ t=y
 | _,_=>True
def cX:Nat:=1000000000
inductive eB where
 | cp
 | v (x:Value)
 | J (t:Tag) (k:Nat) (es:List (List D))
inductive tt where
 | here
 | ky
 | at_ (x y:Nat)
def tt.rel(k n:Nat):tt->Value->Value->Prop
 | .at_ x y,u,v=>∃b off cap,u=.slice (some ⟨b,off,none⟩) n cap/\v=.pointer (some ⟨b,off+x*k+y,none⟩)/\x<n
 | _,u,v=>v=u
def tt.home:tt->Bool
 | .ky=>false
 | _=>true
inductive aC where
 | cp
 | v (x:Value)
 | a1 (c:Bool)
 | J (t:Tag) (k:Nat) (es:List (List D))
 | ptr (id off:Nat)
 | cU (t:Tag) (k:Nat) (es:List (List D)) (i j:Nat)
 | gZ (ds:List D) (off:Nat)
 | fd (d:D)
 | fK (g:FuncId) (ids:List Nat)
 | aL (t i j k:Nat) (es:List (List D)) (m:tt)
 | eS (t:Nat) (vs:List eB)
 | c9 (t k:Nat) (es:List (List D))
def ptrTo(b:Nat):Value:=.pointer (some ⟨b,0,none⟩)
def pw(w:World)(ω:Own)(τ:Nat->Nat×Value):eB->Value->Prop
 | .cp,_=>True
 | .v x,y=>y=x
 | .J t k es,y=>bS w ω t.R (.J k es) y/\t.dG τ (k,y)
def s0(w:World)(ω:Own)(τ:Nat->Nat×Value)(t i j:Nat)(u:Value):Prop:=
 ∃(kT b off len cap:Nat) (arr:Array Value) (ty:TypeId) (cF:Nat×Nat),τ t=(kT,.slice (some ⟨b,off,none⟩) len cap)/\ω b=.tok t []/\w.heap[b]?=some (.cells arr ty cF)/\arr[off+i*kT+j]?=some u
def Sat(w:World)(ω:Own)(τ:Nat->Nat×Value):aC->Value->Prop
 | .cp,_=>True
 | .v x,y=>y=x
 | .a1 c,y=>y=.bool c
 | .J t k es,y=>bS w ω t.R (.J k es) y/\t.dG τ (k,y)
 | .ptr id off,y=>∃b,ω b=.box id/\y=.pointer (some ⟨b,off,none⟩)
 | .cU t k es i j,y=>∃b off cap,y=.pointer (some ⟨b,off+i*k+j,none⟩)/\i<es.length/\
   bS w ω t.R (.J k es) (.slice (some ⟨b,off,none⟩) es.length cap)/\t.dG τ (k,.slice (some ⟨b,off,none⟩) es.length cap)
 | .gZ ds off,y=>∃b,y=.pointer (some ⟨b,off,none⟩)/\bS w ω Tag.free.R (.ptr ds) (ptrTo b)
 | .fd d,y=>bS w ω Tag.free.R d y
 | .fK g ids,y=>∃bs:List Nat,y=.func (.func g) #[] (bs.map ptrTo).toArray/\bs.length=ids.length/\∀(i:Nat) (id:Nat),ids[i]?=some id->∃b,bs[i]?=some b/\ω b=.box id
 | .c9 t k es,y=>bS w ω Tag.free.R (.J k es) y/\(cX<=t->τ t=(k,y))
 | .aL t i j k es m,y=>∃u,m.rel k es.length u y/\bS w ω (fun q o=>o=.tok t ((i,j)::q)) (.J k es) u/\(m.home=true->s0 w ω τ t i j u)
 | .eS t vs,y=>∃(b:Nat) (ty:TypeId) (arr:Array Value),y=ptrTo b/\ω b=.tok t []/\w.heap[b]?=some (.cells arr ty (0,0))/\arr.size=vs.length/\∀(j:Nat) (c:eB),vs[j]?=some c->∃u,arr[j]?=some u/\pw w ω τ c u
inductive bg where
 | one (l:aC)
 | agg (ls:List aC)
inductive aE where
 | az (a:bg)
 | ek (as:List bg)
abbrev aE.one(l:aC):aE:=.az (.one l)
abbrev aE.agg(ls:List aC):aE:=.az (.agg ls)
abbrev aE.cp:aE:=.az (.one .cp)
def i'(S:aC->Value->Prop)(ls:List aC)(vs:Array Value):Prop:=
 vs.size=ls.length/\∀(i:Nat) (l:aC),ls[i]?=some l->∃u,vs[i]?=some u/\S l u
def iZ(S:aC->Value->Prop):bg->Value->Prop
 | .one l,y=>S l y
 | .agg ls,y=>∃vs,y=.agg vs/\i' S ls vs
def cH(S:aC->Value->Prop):aE->Value->Prop
 | .az a,y=>iZ S a y
 | .ek as,y=>∃vs:Array Value,y=.tuple vs/\vs.size=as.length/\∀(i:Nat) (a:bg),as[i]?=some a->∃u,vs[i]?=some u/\iZ S a u
structure aD where
 env:List aE
 boxes:List (Nat×List aC)
def dh(id:Nat):List (Nat×List aC)->Option (List aC)
 | []=>none
 | (i,ls)::r=>if i=id then some ls else dh id r
def bg.map(f:aC->aC):bg->bg
 | .one l=>.one (f l)
 | .agg ls=>.agg (ls.map f)
def aE.map(f:aC->aC):aE->aE
 | .az a=>.az (a.map f)
 | .ek as=>.ek (as.map (bg.map f))
def aD.map(f:aC->aC)(s:aD):aD:=⟨s.env.map (aE.map f),s.boxes.map fun x=>(x.1,x.2.map f)⟩
variable{S:aC->Value->Prop}
theorem i'.map{jo:aC->Value->Prop}{f:aC->aC}(h:∀l v,S l v->jo (f l) v){ls:List aC}{vs:Array Value}(aj:i' S ls vs):i' jo (ls.map f) vs:=by
 refine⟨by simpa using aj.1,fun i l au=>?_⟩;rw[dk,b0]at au;obtain⟨fk,bV,rfl⟩:=au;obtain⟨u,U,aa⟩:=aj.2 i fk bV;exact⟨u,U,h _ _ aa⟩
theorem iZ.map{jo:aC->Value->Prop}{f:aC->aC}(h:∀l v,S l v->jo (f l) v):∀{a:bg} {y:Value},iZ S a y->iZ jo (a.map f) y
 | .one l,y,aj=>h _ _ aj
 | .agg ls,y,⟨vs,e,aj⟩=>⟨vs,e,aj.map h⟩
theorem cH.map{jo:aC->Value->Prop}{f:aC->aC}(h:∀l v,S l v->jo (f l) v):∀{p:aE} {y:Value},cH S p y->cH jo (p.map f) y
 | .az a,y,aj=>show iZ jo (a.map f) y from iZ.map h (show iZ S a y from aj)
 | .ek as,y,⟨vs,e,a7,aj⟩=>⟨vs,e,by simpa using a7,fun i a ai=>by
   rw[dk,b0]at ai;obtain⟨a0,bV,rfl⟩:=ai;obtain⟨u,U,aa⟩:=aj i a0 bV;exact⟨u,U,iZ.map h aa⟩⟩
theorem re(f:aC->aC)(id:Nat):∀bs:List (Nat×List aC),dh id (bs.map fun x=>(x.1,x.2.map f))=(dh id bs).map (·.map f)
 | []=>rfl
 | (i,ls)::r=>by
  simp only[lu,dh];split
  ·rfl
  exact re f id r
structure dY where
 w:World
 G:Nat->Prop
 H:Nat->Nat×Value
def dY.Bq(B:dY)(b:Nat):Prop:=B.w.heap.size<=b\/B.G b
def HB:Bool:=false
structure fC (n:Nat) (w aP:World):Prop where
 below:Below n w aP
 drawn:HB=true->w.drawn<=aP.drawn
variable{n:Nat}
theorem fC.size(h:fC n w aP):w.heap.size<=aP.heap.size:=h.below.size
theorem fC.block(h:fC n w aP):∀k,k<n->aP.heap[k]?=w.heap[k]?:=h.below.block
theorem fC.refl(n:Nat)(w:World):fC n w w:=⟨Below.refl _ _,fun _=>ht _⟩
theorem fC.drew(h:fC n w aP):fC n w aP.drew:=⟨h.below.drew,fun aj=>Nat.le_succ_of_le (h.drawn aj)⟩
theorem fC.alloc(h:fC n w aP)(a7:n<=aP.heap.size)(o:Obj):fC n w (aP.alloc o):=⟨h.below.alloc a7 o,h.drawn⟩
def zE:List (Nat×List Int):=[(1,[1,10,100,1000,10000,100000,1000000,10000000,100000000,1000000000,10000000000,100000000000,1000000000000,10000000000000,100000000000000,1000000000000000,10000000000000000,100000000000000000,1000000000000000000,10000000000000000000])]
def me(w:World):Prop:=∀x∈zE,∃ty cF,w.heap[x.1]?=some (.cells (x.2.map (Value.int .u64)).toArray ty cF)
theorem me.lt(h:me w){x:Nat×List Int}(ao:x∈zE):x.1<w.heap.size:=by
 obtain⟨ty,cF,e⟩:=h x ao;rcases qn x.1 w.heap.size with h | h
 ·exact h
 simp[An h]at e
def Tidy(w:World)(ω:Own):Prop:=me w/\∀x∈zE,ω x.1=.bz
structure fX (B:dY) (w:World):Prop where
 os:w.os=B.w.os
 tape:w.tape=B.w.tape
 output:w.output=B.w.output
 size:B.w.heap.size<=w.heap.size
 block:∀k,k<B.w.heap.size->¬B.G k->w.heap[k]?=B.w.heap[k]?
 drawn:HB=true->B.w.drawn<=w.drawn
 laid:me w
 free:∀x∈Go.Sx.zE,¬B.Bq x.1
theorem me.next(h:me w)(k:fC w.heap.size w aP):me aP:=fun x ao=>by
 rw[k.below.block x.1 (h.lt ao)];exact h x ao
theorem fX.next{B:dY}(h:fX B w)(k:fC w.heap.size w aP):fX B aP:=
 ⟨k.below.os.trans h.os,k.below.tape.trans h.tape,k.below.output.trans h.output,rU h.size k.below.size,fun i hi ay=>(k.below.block i (w' hi h.size)).trans (h.block i hi ay),fun aj=>rU (h.drawn aj) (k.drawn aj),h.laid.next k,h.free⟩
def dY.of(w:World):dY:=⟨w,fun _=>False,fun _=>(0,undef)⟩
theorem fX.refl(B:dY)(h:me B.w)(ay:∀x∈zE,¬B.G x.1):fX B B.w:=⟨rfl,rfl,rfl,ht _,fun _ _ _=>rfl,fun _=>ht _,h,fun x ao hm=>by
 rcases hm with hm | hm
 ·exact absurd (h.lt ao) (by omega)
 exact ay x ao hm⟩
theorem fX.start{H:Nat->Nat×Value}(h:Tidy w ω):fX ⟨w,fun b=>ω b≠.bz,H⟩ w:=fX.refl ⟨w,fun b=>ω b≠.bz,H⟩ h.1 fun x ao hm=>hm (h.2 x ao)
theorem fX.below(h:fX (dY.of w) aP):fC w.heap.size w aP:=⟨⟨h.os,h.tape,h.output,h.size,fun k bc=>h.block k bc (fun h=>h)⟩,h.drawn⟩
theorem fX.setRow{B:dY}(h:fX B w){b:Nat}(aw:B.Bq b)(arr:Array Value):fX B (w.setRow b arr):=
 ⟨h.os,h.tape,h.output,by simpa using h.size,fun k bc ay=>by
  have:k≠b:=by
   rintro rfl;rcases aw with aw | aw
   ·omega
   exact ay aw
  rw[setRow_other w b k arr this];exact h.block k bc ay,h.drawn,fun x ao=>by
  have:x.1≠b:=fun e=>h.free x ao (e▸aw)
  rw[setRow_other w b x.1 arr this];exact h.laid x ao,h.free⟩
def mc(w0:dY)(w:World)(ω:Own):Prop:=∀b,ω b≠.bz->w0.Bq b/\∃arr ty,w.heap[b]?=some (.cells arr ty (0,0))
def rW(w:World)(ω:Own)(τ:Nat->Nat×Value)(id:Nat)(ls:List aC):Prop:=
 ∃b arr ty,ω b=.box id/\(∀de,ω de=.box id->de=b)/\w.heap[b]?=some (.cells arr ty (0,0))/\i' (Sat w ω τ) ls arr
structure cy (w0:dY) (st:aD) (a:Act) (w:World) (ω:Own) (τ:Nat->Nat×Value):Prop where
 defers:a.defers=[]
 size:a.tmps.size=st.env.length
 below:fX w0 w
 owned:mc w0 w ω
 fixed:∀t,cX<=t->τ t=w0.H t
 pinned:∀id b,cX<=id->ω b=.box id->(w0.H id).1=b
 env:∀(i:Nat) (p:aE),st.env[i]?=some p->∃v,a.tmps[i]?=some v/\cH (Sat w ω τ) p v
 boxes:∀id ls,dh id st.boxes=some ls->rW w ω τ id ls
def Rel(w0:dY)(st:aD)(a:Act)(w:World):Prop:=∃ω τ,cy w0 st a w ω τ
structure Au (B:dY) (w:World):Prop where
 os:w.os=B.w.os
 tape:w.tape=B.w.tape
 output:w.output=B.w.output
 size:B.w.heap.size<=w.heap.size
 block:∀k,k<B.w.heap.size->¬B.G k->w.heap[k]?=B.w.heap[k]?
 drawn:HB=true->B.w.drawn<=w.drawn
theorem Au.full{H:Nat->Nat×Value}(h:Au ⟨w,fun b=>ω b≠.bz,H⟩ aP)(bZ:Tidy w ω):fX ⟨w,fun b=>ω b≠.bz,H⟩ aP:=
 ⟨h.os,h.tape,h.output,h.size,h.block,h.drawn,fun x ao=>by
  rw[h.block x.1 (bZ.1.lt ao) fun a7=>a7 (bZ.2 x ao)];exact bZ.1 x ao,(fX.start (H:=H) bZ).free⟩
variable{w0:dY}
theorem cy.tidy{st:aD}{a:Act}{a':Own}{τ:Nat->Nat×Value}(h:cy w0 st a w ω τ)(c8:∀b,ω b=.bz->a' b=.bz):Tidy w a':=
 ⟨h.below.laid,fun x ao=>c8 _ (Classical.byContradiction fun a7=>h.below.free x ao (h.owned _ a7).1)⟩
theorem mc.lt(h:mc w0 w ω){b:Nat}(aw:ω b≠.bz):b<w.heap.size:=by
 obtain⟨_,arr,ty,e⟩:=h b aw;rcases qn b w.heap.size with h | h
 ·exact h
 simp[An h]at e
theorem mc.fresh(h:mc w0 w ω){b:Nat}(aw:w.heap.size<=b):ω b=.bz:=by
 cases e:ω b with
 | bz=>rfl
 | box id=>have:=h.lt (b:=b) (by simp[e]);omega
 | tok t q=>have:=h.lt (b:=b) (by simp[e]);omega
end Go.Sx
namespace Go.Sx
open Go.RowKit
def eB.cB(g:Tag->Option Tag):eB->eB
 | .J t k es=>match g t with | some di=>.J di k es | none=>.cp
 | c=>c
def aC.cB(g:Tag->Option Tag)(p:Nat->Bool):aC->aC
 | .J t k es=>match g t with | some di=>.J di k es | none=>.cp
 | .cU t k es i j=>match g t with | some di=>.cU di k es i j | none=>.cp
 | .ptr id off=>if p id then .ptr id off else .cp
 | .fK f ids=>if ids.all p then .fK f ids else .cp
 | .aL t i j k es m=>match g (.own t) with | some (.own di)=>if di=t then .aL t i j k es m else .cp | _=>.cp
 | .eS t vs=>match g (.own t) with | some (.own di)=>if di=t then .eS t (vs.map (eB.cB g)) else .cp | _=>.cp
 | l=>l
structure kx (w:World) (ω:Own) (τ:Nat->Nat×Value) (aP:World) (a':Own) (cL:Nat->Nat×Value) (g:Tag->Option Tag) (p:Nat->Bool):Prop where
 rep:∀t di b q,g t=some di->b<w.heap.size->t.R q (ω b)->di.R q (a' b)/\aP.heap[b]?=w.heap[b]?
 dG:∀t di y,g t=some di->t.dG τ y->di.dG cL y
 box:∀id b,p id=true->ω b=.box id->a' b=.box id
 free:g .free=some .free
 fix:∀t,cX<=t->cL t=τ t
variable{w aP:World}{ω a':Own}{τ cL:Nat->Nat×Value}{g:Tag->Option Tag}
theorem BJ(h:∀c u,pw w ω τ c u->pw aP a' cL (eB.cB g c) u){arr:Array Value}{vs:List eB}
  (a7:arr.size=vs.length) (br:∀(j:Nat) (c:eB),vs[j]?=some c->∃u,arr[j]?=some u/\pw w ω τ c u):
  arr.size=(vs.map (eB.cB g)).length/\∀(j:Nat) (c:eB),(vs.map (eB.cB g))[j]?=some c->∃u,arr[j]?=some u/\pw aP a' cL c u:=by
 refine⟨by simpa using a7,fun j c ap=>?_⟩;rw[dk,b0]at ap;obtain⟨df,bV,rfl⟩:=ap;obtain⟨u,U,aa⟩:=br j df bV;exact⟨u,U,h df u aa⟩
theorem kx.lb{p:Nat->Bool}(h:kx w ω τ aP a' cL g p)(c:eB)(u:Value)(aj:pw w ω τ c u):pw aP a' cL (eB.cB g c) u:=by
 cases c with
 | cp=>exact trivial
 | v x=>exact aj
 | J t k es=>
  simp only[eB.cB];cases ay:g t with
  | none=>exact trivial
  | some di=>exact⟨aj.1.frame fun b q aw aM=>h.rep t di b q ay aw aM,h.dG t di _ ay aj.2⟩
theorem kx.sat{g:Tag->Option Tag}{p:Nat->Bool}(h:kx w ω τ aP a' cL g p):
  ∀(l:aC) (v:Value),Sat w ω τ l v->Sat aP a' cL (l.cB g p) v:=by
 intro l v aj;cases l with
 | cp=>exact trivial
 | v x=>exact aj
 | a1 c=>exact aj
 | J t k es=>
  simp only[aC.cB];cases ay:g t with
  | none=>exact trivial
  | some di=>exact⟨aj.1.frame fun b q aw aM=>h.rep t di b q ay aw aM,h.dG t di _ ay aj.2⟩
 | ptr id off=>
  simp only[aC.cB];split
  ·obtain⟨b,aw,e⟩:=aj;exact⟨b,h.box id b ‹_› aw,e⟩
  exact trivial
 | fK f ids=>
  simp only[aC.cB];split
  ·rename_i hp;obtain⟨bs,e,a7,hi⟩:=aj;refine⟨bs,e,a7,fun i id hid=>?_⟩;obtain⟨b,U,aa⟩:=hi i id hid;exact⟨b,U,h.box id b (fp.1 hp id (fe hid)) aa⟩
  exact trivial
 | gZ ds off=>
  obtain⟨b,e,aI⟩:=aj;exact⟨b,e,aI.frame fun b q aw aM=>h.rep .free .free b q h.free aw aM⟩
 | fd d=>exact bS.frame aj fun b q aw aM=>h.rep .free .free b q h.free aw aM
 | c9 t k es=>exact⟨aj.1.frame fun b q aw aM=>h.rep .free .free b q h.free aw aM,fun bZ=>(h.fix t bZ).trans (aj.2 bZ)⟩
 | aL t i j k es m=>
  simp only[aC.cB];split
  ·rename_i di ay;split
   ·rename_i bZ;subst bZ;obtain⟨u,hu,U,hm⟩:=aj;refine⟨u,hu,U.frame fun c q ap aM=>h.rep _ _ c _ ay ap aM,fun bH=>?_⟩;obtain⟨kT,b,off,len,cap,arr,ty,cF,aa,a8,aA,aO⟩:=hm bH;have bM:b<w.heap.size:=(iV.1 aA).1;have bc:=h.rep _ _ b [] ay bM a8;exact⟨kT,b,off,len,cap,arr,ty,cF,h.dG _ _ _ ay aa,bc.1,bc.2.trans aA,aO⟩
   exact trivial
  exact trivial
 | eS t vs=>
  simp only[aC.cB];split
  ·rename_i di ay;split
   ·rename_i bZ;subst bZ;obtain⟨b,ty,arr,e,a8,aA,a7,br⟩:=aj;have bM:b<w.heap.size:=(iV.1 aA).1;have bc:=h.rep _ _ b [] ay bM a8;exact⟨b,ty,arr,e,bc.1,bc.2.trans aA,BJ (h.lb) a7 br⟩
   exact trivial
  exact trivial
 | cU t k es i j=>
  simp only[aC.cB];cases ay:g t with
  | none=>exact trivial
  | some di=>
   obtain⟨b,off,cap,e,hi,aI,bH⟩:=aj;exact⟨b,off,cap,e,hi,aI.frame fun b q aw aM=>h.rep t di b q ay aw aM,h.dG t di _ ay bH⟩
variable{a:Act}
theorem Vl{d:Nat}{v:Value}{i:Nat}:(a.put (some d) v).tmps[i]?=if d=i/\i<a.tmps.size then some v else a.tmps[i]?:=by
 simp only[Act.put,Array.getElem?_setIfInBounds];by_cases h:d=i
 ·subst h;by_cases aa:d<a.tmps.size
  ·simp[aa]
  simp[aa]
 simp[h]
variable{w0:dY}{st:aD}
theorem cy.put(h:cy w0 st a w ω τ){d:Nat}{p:aE}{v:Value}(aj:cH (Sat w ω τ) p v):
  cy w0 ⟨st.env.set d p,st.boxes⟩ (a.put (some d) v) w ω τ where
 defers:=h.defers
 size:=by simp[Act.put,h.size]
 below:=h.below
 owned:=h.owned
 fixed:=h.fixed
 pinned:=h.pinned
 boxes:=h.boxes
 env:=by
  intro i q aM;rw[l7]at aM;rw[Vl];by_cases aF:d=i
  ·subst aF;simp only[gO]at aM;split at aM
   ·rename_i bM;have e:=fB aM;subst e;exact⟨v,by rw[bU ⟨rfl,by rw[h.size];exact bM⟩],aj⟩
   cases aM
  rw[bE aF]at aM;rw[bE (by simp[aF])];exact h.env i q aM
theorem cy.EH{p:Nat->Bool}
  (h:cy w0 st a w ω τ) (e:kx w ω τ aP a' cL g p) (pG:fX w0 aP) (oC:mc w0 aP a') {bs:List (Nat×List aC)}
  (qK:∀id ls,dh id bs=some ls->rW aP a' cL id ls) (tO:∀id b,cX<=id->a' b=.box id->ω b=.box id) (se:∀t,cX<=t->cL t=τ t:=by intros;rfl):cy w0 ⟨st.env.map (aE.map (aC.cB g p)),bs⟩ a aP a' cL where
 defers:=h.defers
 size:=by simp[h.size]
 below:=pG
 owned:=oC
 fixed:=fun t bZ=>(se t bZ).trans (h.fixed t bZ)
 pinned:=fun id b hi aw=>h.pinned id b hi (tO id b hi aw)
 boxes:=qK
 env:=by
  intro i q aM;rw[dk,b0]at aM;obtain⟨gJ,bV,rfl⟩:=aM;obtain⟨v,U,aa⟩:=h.env i gJ bV;exact⟨v,U,cH.map e.sat aa⟩
theorem p6{o:Obj}:(w.alloc o).heap[w.heap.size]?=some o:=by
 show (w.heap.push o)[_]?=_;simp
theorem HC{o:Obj}{i:Nat}(h:i<w.heap.size):(w.alloc o).heap[i]?=w.heap[i]?:=Below.heap_alloc w o i h
def nQ(id:Nat):List (Nat×List aC)->List (Nat×List aC)
 | []=>[]
 | (i,ls)::r=>if i=id then nQ id r else (i,ls)::nQ id r
theorem HD(id:Nat):∀bs,dh id (nQ id bs)=none
 | []=>rfl
 | (i,ls)::r=>by
  simp only[nQ];split
  ·exact HD id r
  simp only[dh];rw[bE ‹_›];exact HD id r
theorem wj{id hj:Nat}(h:hj≠id):∀bs,dh hj (nQ id bs)=dh hj bs
 | []=>rfl
 | (i,ls)::r=>by
  simp only[nQ,dh];by_cases U:i=id
  ·rw[bU U,bE (by omega)];exact wj h r
  rw[bE U];simp only[dh];split
  ·rfl
  exact wj h r
def pR:Tag->Option Tag:=some
def iq(id:Nat):Nat->Bool:=fun i=>decide (i≠id)
def aD.sn(st:aD)(id:Nat)(ls:List aC):aD:=
 let f:=aC.cB pR (iq id)
 ⟨st.env.map (aE.map f),(id,ls.map f)::(nQ id st.boxes).map fun x=>(x.1,x.2.map f)⟩
theorem cy.sn(h:cy w0 st a w ω τ)(id:Nat)(hid:id<cX){ls:List aC}{arr:Array Value}(ty:TypeId)
  (aj:i' (Sat w ω τ) ls arr):
  ∃a',cy w0 (st.sn id ls) a (w.alloc (.cells arr ty)) a' τ/\a' w.heap.size=.box id:=by
 let a':Own:=fun b=>if b=w.heap.size then .box id else match ω b with | .box i=>if i=id then .bz else .box i | o=>o
 have fN:a' w.heap.size=.box id:=by simp[a']
 have hold:∀b,b<w.heap.size->a' b=(match ω b with | .box i=>if i=id then .bz else .box i | o=>o):=by
  intro b aw;simp only[a'];rw[bE (by omega)]
 have hN:∀b,b≠w.heap.size->a' b=(match ω b with | .box i=>if i=id then .bz else .box i | o=>o):=by
  intro b aw;simp only[a'];rw[bE aw]
 have bj:kx w ω τ (w.alloc (.cells arr ty)) a' τ pR (iq id):=by
  refine⟨?_,?_,?_,rfl,fun _ _=>rfl⟩
  ·intro t di b q ay aw aM;simp only[pR,aT]at ay;subst ay;refine⟨?_,HC aw⟩;rw[hold b aw];cases t with
   | free=>simp only[Tag.R]at aM ⊢;rw[aM]
   | own s=>simp only[Tag.R]at aM ⊢;rw[aM]
   | ro s=>
    simp only[Tag.R]at aM ⊢;rcases aM with aM | ⟨dB,aM⟩
    ·rw[aM];exact .inl rfl
    rw[aM];exact .inr ⟨dB,rfl⟩
  ·intro t di y ay bO;simp only[pR,aT]at ay;subst ay;exact bO
  intro i b hp aw;have bM:=h.owned.lt (b:=b) (by simp[aw]);rw[hold b bM,aw];simp only[iq,cW]at hp;simp[hp]
 have pG:fX w0 (w.alloc (.cells arr ty)):=h.below.next ((fC.refl _ _).alloc (ht _) _);have oC:mc w0 (w.alloc (.cells arr ty)) a':=by
  intro b aw;by_cases a7:b=w.heap.size
  ·subst a7;exact⟨.inl h.below.size,arr,ty,p6⟩
  rw[hN b a7]at aw;have aa:ω b≠.bz:=by intro e;rw[e]at aw;exact aw rfl
  obtain⟨aA,cc,pi,e⟩:=h.owned b aa;exact⟨aA,cc,pi,(HC (h.owned.lt aa)).trans e⟩
 refine⟨a',?_,fN⟩;refine h.EH bj pG oC ?_ (fun i b hi aw=>?_)
 case refine_2=>
  by_cases a7:b=w.heap.size
  ·subst a7;rw[fN]at aw;simp only[c4.box.injEq]at aw;omega
  rw[hN b a7]at aw;cases e:ω b with
  | bz=>simp[e]at aw
  | tok t q=>simp[e]at aw
  | box j=>
   simp only[e]at aw;split at aw
   ·cases aw
   exact aw
 intro i eW au;simp only[dh]at au;split at au
 ·rename_i hi;subst hi;have e:=fB au;subst e;refine⟨w.heap.size,arr,ty,fN,?_,p6,aj.map bj.sat⟩;intro de eE;by_cases a7:de=w.heap.size
  ·exact a7
  rw[hN de a7]at eE;cases e:ω de with
  | bz=>simp[e]at eE
  | tok t q=>simp[e]at eE
  | box j=>
   simp only[e]at eE;split at eE
   ·cases eE
   rename_i c1;simp only[c4.box.injEq]at eE;exact absurd eE c1
 rename_i hi;rw[re,b0]at au;obtain⟨h3,bV,rfl⟩:=au;have c1:i≠id:=fun e=>hi e.symm
 rw[wj c1]at bV;obtain⟨b,cc,pi,aw,hu,bH,ec⟩:=h.boxes i h3 bV;have bM:=h.owned.lt (b:=b) (by simp[aw]);refine⟨b,cc,pi,bj.box i b (by simp[iq,c1]) aw,?_,(HC bM).trans bH,ec.map bj.sat⟩;intro de eE;by_cases a7:de=w.heap.size
 ·subst a7;rw[fN]at eE;simp only[c4.box.injEq]at eE;exact absurd eE.symm c1
 rw[hN de a7]at eE;refine hu de ?_;cases e:ω de with
 | bz=>simp[e]at eE
 | tok t q=>simp[e]at eE
 | box j=>
  simp only[e]at eE;split at eE
  ·cases eE
  exact eE
end Go.Sx
namespace Go.Sx
open Go.RowKit
inductive cE where
 | one (d:D)
 | agg (ds:List D)
inductive aS where
 | vals (rs:List cE)
 | gW (src:List (Option Nat)) (ds:List D)
abbrev aS.new (ds : List D) : aS := .gW [] ds
inductive gQ where
 | normal
 | exit (id:Nat)
 | ret
inductive b' where
 | own
 | sub
 | s7 (ua:List (List (Option (Option (List (List D)))))) (src:Nat) (ds:List D) (rs:List cE)
 | res (rs:List cE)
 | cY (ua:List (Option (List D))) (r:aS)
 | loop (Br:List (Nat×Nat×Nat)) (fa boxes:List Nat) (e:gQ) (st:aD)
 | na (b:Bool)
 | el (ds:List D)
 | wr
 | eq (c:Bool)
 | num (n:Int)
 | gX (p:aE)
 | fT (st:aD)
def cv:List Prop->Prop
 | []=>True
 | p::r=>p/\cv r
theorem cv.append:∀{a b:List Prop},cv (a++b)->cv a/\cv b
 | [],_,h=>⟨ad,h⟩
 | _::_,_,h=>⟨⟨h.1,(cv.append h.2).1⟩,(cv.append h.2).2⟩
abbrev iE:=Option (aE×List b'×List Prop)
def AL:Value->aE
 | .agg cs=>.agg (cs.toList.map .v)
 | v=>.one (.v v)
def aD.bj(st:aD):Operand->aE
 | .tmp t=>st.env.getD t .cp
 | .const v=>AL v
 | .func f=>.one (.fd (.bI f []))
 | _=>.cp
theorem ai7(w:World)(ω:Own)(τ:Nat->Nat×Value)(v:Value):cH (Sat w ω τ) (AL v) v:=by
 unfold AL;split
 ·rename_i cs;refine⟨cs,rfl,by simp,fun i l au=>?_⟩;rw[dk,b0]at au;obtain⟨u,hu,rfl⟩:=au;exact⟨u,by simpa using hu,rfl⟩
 exact rfl
variable{w:World}{ω:Own}{τ:Nat->Nat×Value}
theorem cy.bj{w0:dY}{st:aD}{a:Act}(h:cy w0 st a w ω τ)(x:Operand):cH (Sat w ω τ) (st.bj x) (a.eval x):=by
 cases x with
 | tmp t=>
  simp only[aD.bj,Act.eval];cases e:st.env[t]? with
  | none=>
   rw[jJ,e];exact trivial
  | some p=>
   obtain⟨v,br,aj⟩:=h.env t p e;rw[jJ,e];simpa[eg,br]using aj
 | const v=>exact ai7 w ω τ v
 | global g=>exact trivial
 | func f=>exact bS.bI _ f [] #[] (fun _=>undef) rfl (fun j d aF=>by simp at aF) (fun j d aF=>by simp at aF)
def aC.val:aC->Option Value
 | .v x=>some x
 | .a1 c=>some (.bool c)
 | _=>none
variable{y:Value}
theorem aC.Te{l:aC}{x:Value}(h:l.val=some x)(aj:Sat w ω τ l y):y=x:=by
 cases l<;>simp[aC.val]at h
 ·subst h;exact aj
 subst h;exact aj
def aE.leaf:aE->Option aC
 | .az (.one l)=>some l
 | _=>none
theorem aE.dt{S:aC->Value->Prop}{p:aE}{l:aC}(h:p.leaf=some l)(aj:cH S p y):S l y:=by
 cases p with
 | ek as=>cases h
 | az a=>
  cases a with
  | agg ls=>cases h
  | one gD=>simp only[aE.leaf,aT]at h;subst h;exact aj
def aE.int(p:aE):Option (IntKind×Int):=
 match p.leaf with
 | some (.v (.int k n))=>some (k,n)
 | _=>none
variable{p:aE}{k:IntKind}
theorem aE.mw{n:Int}(h:p.int=some (k,n))(aj:cH (Sat w ω τ) p y):y=.int k n:=by
 unfold aE.int at h;split at h
 ·rename_i cm Xg e;simp only[aT,bq]at h;obtain⟨rfl,rfl⟩:=h;exact aE.dt e aj
 cases h
def aE.vals:aE->Option (List Value)
 | .az (.agg ls)=>ls.mapM aC.val
 | _=>none
theorem Nt{w:World}{ω:Own}{τ:Nat->Nat×Value}:∀{ls:List aC} {xs:List Value},ls.mapM aC.val=some xs->∀{vs:List Value},vs.length=ls.length->(∀(i:Nat) (l:aC),ls[i]?=some l->∃u,vs[i]?=some u/\Sat w ω τ l u)->vs=xs
 | [],xs,h,vs,a7,_=>by
  simp at h;subst h;exact w9 a7
 | l::ls,xs,h,vs,a7,aj=>by
  rw[xa]at h;cases e:l.val with
  | none=>simp[e]at h
  | some x=>
   cases e2:ls.mapM aC.val with
   | none=>simp[e,e2]at h
   | some ys=>
    simp[e,e2]at h;subst h;cases vs with
    | nil=>simp at a7
    | cons v vs=>
     obtain⟨u,hu,ec⟩:=aj 0 l rfl;simp at hu;subst hu;rw[aC.Te e ec]
     congr 1
     exact Nt e2 (by simpa using a7) (fun i gD au=>by have:=aj (i+1) gD (by simpa using au);simpa using this)
theorem aE.arG{xs:List Value}(h:p.vals=some xs)(aj:cH (Sat w ω τ) p y):y=.agg xs.toArray:=by
 cases p with
 | ek as=>cases h
 | az a=>
  cases a with
  | one l=>cases h
  | agg ls=>
   obtain⟨vs,rfl,a7,br⟩:=aj;have:=Nt (w:=w) (ω:=ω) (τ:=τ) h (vs:=vs.toList) (by simpa using a7) (fun i l au=>by obtain⟨u,U,aa⟩:=br i l au;exact⟨u,by simpa using U,aa⟩);rw[<-this]
def aK(k:IntKind)(e:Int):Prop:=
 match k with
 | .i64=>-9223372036854775808<=e/\e<=9223372036854775807
 | k=>k.wrap e=e
theorem aK.wrap{e:Int}(h:aK k e):k.wrap e=e:=by
 cases k<;>first | exact h | (simp only[aK]at h;rw[IntKind.wrap_i64];omega)
def arith(k:IntKind)(e:Int)(ans:List b'):iE:=
 match ans with
 | .wr::r=>some (.one (.v (.int k (k.wrap e))),r,[])
 | _=>some (.one (.v (.int k e)),ans,[aK k e])
variable{ans cf:List b'}{obs:List Prop}
theorem wk{e:Int}(h:arith k e ans=some (p,cf,obs))(a6:cv obs):cH (Sat w ω τ) p (.int k (k.wrap e)):=by
 unfold arith at h;split at h
 ·simp only[aT,bq]at h;obtain⟨rfl,_,_⟩:=h;exact rfl
 simp only[aT,bq]at h;obtain⟨rfl,_,rfl⟩:=h;rw[a6.1.wrap];exact rfl
def gF(P:Program)(op:BinOp)(t:TypeId)(x y:Operand)(u v c:Value):Prop:=
 ∀w:World,((do eqGuard op t x y u v;binOp op t u v:Sem Value)).run P w=.ok c w
def HE(op:BinOp)(k:IntKind)(x y:Int)(ans:List b'):iE:=
 match op with
 | .add=>arith k (x+y) ans
 | .sub=>arith k (x-y) ans
 | .mul=>arith k (x*y) ans
 | .quo=>(arith k (x.tdiv y) ans).map fun r=>(r.1,r.2.1,(y≠0)::r.2.2)
 | .rem=>some (.one (.v (.int k (x.tmod y))),ans,[y≠0])
 | .eql=>some (.one (.a1 (x==y)),ans,[])
 | .neq=>some (.one (.a1 (x != y)),ans,[])
 | .lss=>some (.one (.a1 (decide (x<y))),ans,[])
 | .leq=>some (.one (.a1 (decide (x<=y))),ans,[])
 | .gtr=>some (.one (.a1 (decide (x>y))),ans,[])
 | .geq=>some (.one (.a1 (decide (x>=y))),ans,[])
 | _=>none
variable{P:Program}{op:BinOp}
theorem ai8{x y:Int}(t:TypeId)(Xp Xq:Operand)
  (h:HE op k x y ans=some (p,cf,obs)) (a6:cv obs):
  ∃v,((do eqGuard op t Xp Xq (.int k x) (.int k y);binOp op t (.int k x) (.int k y):Sem Value)).run P w=.ok v w/\cH (Sat w ω τ) p v:=by
 rw[eqGuard_at_int];simp only[Sem.run_bind,Sem.run_pure,Result.andThen_ok];cases op<;>simp only[HE,aT,bq,reduceCtorEq]at h
 case add=>exact⟨_,by rw[binOp_add];rfl,wk h a6⟩
 case sub=>exact⟨_,by rw[binOp_sub];rfl,wk h a6⟩
 case mul=>exact⟨_,by rw[binOp_mul];rfl,wk h a6⟩
 case quo=>
  rw[b0]at h;obtain⟨⟨oR,cC,oN⟩,U,aa⟩:=h;simp only[bq]at aa;obtain⟨rfl,rfl,rfl⟩:=aa;refine⟨_,?_,wk U a6.2⟩;rw[binOp_quo];simp[Op.intDiv,a6.1]
 case rem=>
  obtain⟨rfl,_,rfl⟩:=h;refine⟨_,?_,rfl⟩;rw[binOp_rem];simp[Op.intDiv,a6.1]
 case eql=>obtain⟨rfl,_,rfl⟩:=h;exact⟨_,by rw[binOp_eql];rfl,rfl⟩
 case neq=>obtain⟨rfl,_,rfl⟩:=h;exact⟨_,by rw[binOp_neq];rfl,rfl⟩
 case lss=>obtain⟨rfl,_,rfl⟩:=h;exact⟨_,by rw[binOp_lss];rfl,rfl⟩
 case leq=>obtain⟨rfl,_,rfl⟩:=h;exact⟨_,by rw[binOp_leq];rfl,rfl⟩
 case gtr=>obtain⟨rfl,_,rfl⟩:=h;exact⟨_,by rw[binOp_gtr];rfl,rfl⟩
 case geq=>obtain⟨rfl,_,rfl⟩:=h;exact⟨_,by rw[binOp_geq];rfl,rfl⟩
def aE.value(p:aE):Option Value:=
 match p with
 | .az (.one l)=>l.val
 | p=>p.vals.map fun xs=>.agg xs.toArray
theorem aE.w2{x:Value}(h:p.value=some x)(aj:cH (Sat w ω τ) p y):y=x:=by
 unfold aE.value at h;split at h
 ·exact aC.Te h aj
 rw[b0]at h;obtain⟨xs,U,rfl⟩:=h;exact aE.arG U aj
def uE(P:Program)(t:TypeId):Option Bool:=
 match P.underlying t with
 | some (.struct _) | some (.array _ _)=>some true
 | some _=>some false
 | none=>none
variable{t:TypeId}
theorem wl{b:Bool}(h:uE P t=some b)(w:World):(isAgg t).run P w=.ok b w:=by
 unfold uE at h;unfold isAgg;split at h
 ·rename_i hu;simp only[aT]at h;subst h;simp[run_underlying hu]
 ·rename_i hu;simp only[aT]at h;subst h;simp[run_underlying hu]
 ·rename_i d U aa hu;simp only[aT]at h;subst h;rw[Sem.run_bind,run_underlying hu];cases d<;>first | rfl | (exact absurd rfl (U _)) | (exact absurd rfl (aa _ _))
 cases h
def Bx(P:Program)(t:TypeId)(cs:Array Value)(off:Nat):Option Value:=
 match uE P t,P.info? t with
 | some true,some i=>some (.agg (cs.extract off (off+i.size)))
 | some false,_=>cs[off]?
 | _,_=>none
variable{v:Value}
theorem Nu{cs:Array Value}{off:Nat}(h:Bx P t cs off=some v)(w:World):(part t cs off).run P w=.ok v w:=by
 unfold Bx at h;split at h
 ·rename_i i e1 e2;simp only[aT]at h;subst h;simp[part,wl e1,sizeOf,typeInfo,e2]
 ·rename_i e1;simp[part,wl e1,h]
 cases h
def xo(P:Program)(f:TypeId->Value->Value->Option Bool)(xs ys:Array Value):List Field->Option Bool
 | []=>some true
 | fd::r=>
  if fd.name = "_" then none else
  match Bx P fd.type xs fd.offset,Bx P fd.type ys fd.offset with
  | some a,some b=>
   match f fd.type a b with
   | some c=>
    match r with
    | []=>some c
    | r=>(xo P f xs ys r).map fun iH=>c&&iH
   | none=>none
  | _,_=>none
def vv(P:Program):Nat->TypeId->Value->Value->Option Bool
 | 0,_,_,_=>none
 | m+1,t,x,y=>
  match P.underlying t,x,y with
  | some .bool,.bool a,.bool b=>some (a==b)
  | some (.int _),.int k a,.int cm b=>if k=cm then some (a==b) else none
  | some .string,.string a,.string b=>some (a.toList==b.toList)
  | some (.struct ey),.agg xs,.agg ys=>if P.stoodInHeld t then none else xo P (vv P m) xs ys ey.toList
  | _,_,_=>none
theorem Nv{d:Nat}{f:TypeId->Value->Value->Option Bool}(b7:∀t x y c,f t x y=some c->∀w,(Op.equalIn d t x y).run P w=.ok c w){xs ys:Array Value}:
  ∀{ey:List Field} {c:Bool},xo P f xs ys ey=some c->∀w,(Op.eqFields d xs ys ey).run P w=.ok c w
 | [],c,h,w=>by simp only[xo,aT]at h;subst h;simp[Op.eqFields]
 | fd::r,c,h,w=>by
  simp only[xo]at h;split at h
  ·cases h
  rename_i a7;split at h
  ·rename_i a b e1 e2;split at h
   ·rename_i bX ch;simp only [Op.eqFields, bU (show fd.name ≠ "_" from a7), Sem.run_bind, Nu e1, Nu e2, Result.andThen_ok, b7 _ _ _ _ ch, Sem.run_ite];split at h
    ·simp only[aT]at h;subst h;cases bX<;>simp[Op.eqFields]
    ·rw[b0]at h;obtain⟨cw,U,rfl⟩:=h;have:=Nv b7 U w;cases bX<;>simp[this]
   cases h
  cases h
theorem Nw:∀{m:Nat} {t:TypeId} {x y:Value} {c:Bool},vv P m t x y=some c->∀(d:Nat) (w:World),(Op.equalIn (d+m) t x y).run P w=.ok c w
 | 0,_,_,_,_,h,_,_=>by cases h
 | m+1,t,x,y,c,h,d,w=>by
  rw[show d+(m+1)=(d+m)+1 from rfl];simp only[vv]at h;split at h
  ·rename_i a b e;simp only[aT]at h;subst h;exact run_equalIn_bool w _ t a b e
  ·rename_i cm k a b8 b e;split at h
   ·rename_i bc;subst bc;simp only[aT]at h;subst h;exact run_equalIn_int w _ t k cm a b e
   cases h
  ·rename_i a b e;simp only[aT]at h;subst h;exact run_equalIn_string w _ t a b e
  ·rename_i ey xs ys e;split at h
   ·cases h
   rename_i aj;have Ms:P.fieldsOf t=ey:=by simp[Program.fieldsOf,e]
   rw[run_equalIn_struct w _ t xs ys (by rw[Ms];exact e) (by simpa using aj),Ms];exact Nv (fun t x y c h w=>Nw h d w) h w
  cases h
def EG(P:Program)(op:BinOp)(t:TypeId)(u v:Value):Option Bool:=
 match op,u,v with
 | .eql,.agg xs,.agg ys=>if P.eqGuardType P.depth t then none else vv P 20 t (.agg xs) (.agg ys)
 | .neq,.agg xs,.agg ys=>if P.eqGuardType P.depth t then none else (vv P 20 t (.agg xs) (.agg ys)).map fun c=>!c
 | .eql,.bool a,.bool b=>match P.underlying t with | some .bool=>some (a==b) | _=>none
 | .neq,.bool a,.bool b=>match P.underlying t with | some .bool=>some (!(a==b)) | _=>none
 | .eql,.string a,.string b=>match P.underlying t with | some .string=>some (a.toList==b.toList) | _=>none
 | .neq,.string a,.string b=>match P.underlying t with | some .string=>some (!(a.toList==b.toList)) | _=>none
 | _,_,_=>none
theorem ai9{x y:Operand}{u:Value}{c:Bool}(h:EG P op t u v=some c):gF P op t x y u v (.bool c):=by
 intro w;have eH:∀{x y:Value} {c:Bool},vv P 20 t x y=some c->(Op.equalIn 10000 t x y).run P w=.ok c w:=fun h=>Nw h 9980 w
 unfold EG at h;split at h
 ·rename_i xs ys;split at h
  ·cases h
  rename_i ay;simp[run_eqGuard_agg w .eql t x y xs ys (by simpa using ay),run_eql_struct,eH h]
 ·rename_i xs ys;split at h
  ·cases h
  rename_i ay;rw[b0]at h;obtain⟨iH,U,rfl⟩:=h;simp[run_eqGuard_agg w .neq t x y xs ys (by simpa using ay),run_neq_struct,eH U]
 ·rename_i a b;split at h
  ·rename_i e;simp only[aT]at h;subst h;simp[eqGuard,binOp,run_equal_bool w t a b e]
  cases h
 ·rename_i a b;split at h
  ·rename_i e;simp only[aT]at h;subst h;simp[eqGuard,binOp,run_equal_bool w t a b e]
  cases h
 ·rename_i a b;split at h
  ·simp only[aT]at h;subst h;simp[eqGuard,binOp,Op.stringOp,beq_toListBytes]
  cases h
 ·rename_i a b;split at h
  ·simp only[aT]at h;subst h;simp[eqGuard,binOp,Op.stringOp,beq_toListBytes]
  cases h
 cases h
def HF(P:Program)(op:BinOp)(t:TypeId)(x y:Operand)(p q:aE)(ans:List b'):iE:=
 match p.int,q.int with
 | some (k,a),some (cm,b)=>
  match (if k=cm then HE op k a b ans else none) with
  | some r=>some r
  | none=>
   match ans with
   | .gX (.az (.one (.v c)))::r=>some (.one (.v c),r,[gF P op t x y (.int k a) (.int cm b) c])
   | _=>none
 | _,_=>
  match (match p.value,q.value with | some u,some v=>EG P op t u v | _,_=>none) with
  | some c=>some (.one (.a1 c),ans,[])
  | none=>
  match p.value,q.value,ans with
  | some u,some v,.eq c::r=>some (.one (.a1 c),r,[gF P op t x y u v (.bool c)])
  | some u,some v,.gX (.az (.one (.v c)))::r=>some (.one (.v c),r,[gF P op t x y u v c])
  | _,_,_=>none
theorem aja{x y:Operand}{q r:aE}{u:Value}
  (hp:cH (Sat w ω τ) p u) (aM:cH (Sat w ω τ) q v) (h:HF P op t x y p q ans=some (r,cf,obs)) (a6:cv obs):
  ∃z,((do eqGuard op t x y u v;binOp op t u v:Sem Value)).run P w=.ok z w/\cH (Sat w ω τ) r z:=by
 unfold HF at h;split at h
 ·rename_i k a cm b e1 e2;rw[aE.mw e1 hp,aE.mw e2 aM];split at h
  ·rename_i lr ch;simp only[aT]at h;subst h;split at ch
   ·rename_i bc;subst bc;exact ai8 t x y ch a6
   cases ch
  split at h
  ·rename_i c lr _;simp only[aT,bq]at h;obtain⟨rfl,_,rfl⟩:=h;exact⟨_,a6.1 w,rfl⟩
  cases h
 split at h
 ·rename_i c bD;simp only[aT,bq]at h;obtain⟨rfl,_,_⟩:=h;split at bD
  ·rename_i rM wZ e1 e2;rw[aE.w2 e1 hp,aE.w2 e2 aM];exact⟨_,ai9 bD w,rfl⟩
  cases bD
 split at h
 ·rename_i rM wZ c lr e1 e2;simp only[aT,bq]at h;obtain⟨rfl,_,rfl⟩:=h;rw[aE.w2 e1 hp,aE.w2 e2 aM];exact⟨_,a6.1 w,rfl⟩
 ·rename_i rM wZ c lr e1 e2;simp only[aT,bq]at h;obtain⟨rfl,_,rfl⟩:=h;rw[aE.w2 e1 hp,aE.w2 e2 aM];exact⟨_,a6.1 w,rfl⟩
 cases h
end Go.Sx
namespace Go.Sx
open Go.RowKit
def Tag.Di:Tag->Tag
 | .free=>.free
 | .own t=>.ro t
 | .ro t=>.ro t
theorem Tag.KD{t:Tag}{q dB:List (Nat×Nat)}{o:c4}(h:t.R q o):t.Di.R dB o:=by
 cases t with
 | free=>exact h
 | own s=>exact .inr ⟨q,h⟩
 | ro s=>exact h
variable{τ:Nat->Nat×Value}
theorem Tag.KE{t:Tag}{y:Nat×Value}:t.Di.dG τ y:=by cases t<;>exact trivial
def D.leaf(t:Tag):D->aC
 | .v (.bool c)=>.a1 c
 | .v x=>.v x
 | .J k es=>.J t.Di k es
 | .ptr ds=>match t with | .free=>.gZ ds 0 | _=>.cp
 | .bI g bB=>match t with | .free=>.fd (.bI g bB) | _=>.cp
variable{w:World}{ω:Own}
theorem D.dt{τ:Nat->Nat×Value}{t:Tag}{p:Nat×Nat}{d:D}{u:Value}(h:bS w ω (fun q=>t.R (p::q)) d u):Sat w ω τ (d.leaf t) u:=by
 cases d with
 | v x=>
  have e:u=x:=by cases h;rfl
  subst e;unfold D.leaf;split
  ·rename_i h;cases h;exact rfl
  ·rename_i h;cases h;exact rfl
  ·grind
  ·grind
  grind
 | J k es=>exact⟨h.frame fun b q aw aM=>⟨Tag.KD aM,rfl⟩,Tag.KE⟩
 | ptr ds=>
  cases t with
  | free=>
   have aa:bS w ω Tag.free.R (.ptr ds) u:=h;have aA:=aa;cases aA with
   | ptr R ds b arr ty cF us aw dz aj hu aF=>exact⟨b,rfl,aa⟩
  | own s=>exact trivial
  | ro s=>exact trivial
 | bI g bB=>
  cases t with
  | free=>exact h
  | own s=>exact trivial
  | ro s=>exact trivial
def D.Nc(t i j:Nat):D->aC
 | .J k es=>.aL t i j k es .here
 | d=>d.leaf (.own t)
def s3(t i:Nat):Nat->List D->List aC
 | _,[]=>[]
 | j,d::ds=>d.Nc t i j::s3 t i (j+1) ds
theorem Nx(t i:Nat):∀(ds:List D) (j x:Nat),(s3 t i j ds)[x]?=(ds[x]?).map (D.Nc t i (j+x))
 | [],_,_=>by simp[s3]
 | d::ds,j,0=>by simp[s3]
 | d::ds,j,x+1=>by
  simp only[s3,n7,Nx t i ds (j+1) x];rw[show j+1+x=j+(x+1) by omega]
theorem Ny(t i:Nat):∀(ds:List D) (j:Nat),(s3 t i j ds).length=ds.length
 | [],_=>rfl
 | d::ds,j=>by simp[s3,Ny t i ds (j+1)]
def Ha(P:Program)(s:TypeId)(f:Nat):Option Nat:=
 match P.underlying s with
 | some (.struct ey)=>
  match ey[f]? with
  | some fd=>
   match P.info? fd.type with
   | some i=>if i.size=0 then none else some fd.offset
   | none=>none
  | none=>none
 | _=>none
theorem pb(b off n:Nat):(⟨b,off,none⟩:Addr).add n=⟨b,off+n,none⟩:=by
 simp_all[Addr.add]
variable{P:Program}{off:Nat}
theorem BK{s:TypeId}{f:Nat}(h:Ha P s f=some off)(w:World)(b o:Nat):
  (Instr.fieldAt s (.pointer (some ⟨b,o,none⟩)) f).run P w=.ok (.pointer (some ⟨b,o+off,none⟩)) w:=by
 unfold Ha at h;split at h
 ·rename_i ey hu;split at h
  ·rename_i fd b7;split at h
   ·rename_i i hi;split at h
    ·cases h
    rename_i bk;simp only[aT]at h;subst h;simp[Instr.fieldAt,run_underlying hu,b7,Instr.sureAddr,fieldPlace,sizeOf,typeInfo,hi,bk,pb]
   cases h
  cases h
 cases h
def Hb(P:Program)(s:TypeId)(p:aE)(f:Nat)(ans:List b'):iE:=
 match Ha P s f,p.leaf with
 | some off,some (.ptr id o)=>some (.one (.ptr id (o+off)),ans,[])
 | some off,some (.cU t k es i j)=>some (.one (.cU t k es i (j+off)),ans,[])
 | some off,some (.gZ ds o)=>some (.one (.gZ ds (o+off)),ans,[])
 | some off,some (.aL t i j k es (.at_ x y))=>some (.one (.aL t i j k es (.at_ x (y+off))),ans,[])
 | _,_=>none
variable{p r:aE}{v:Value}{ans cf:List b'}{obs:List Prop}
theorem ajb{s:TypeId}{f:Nat}
  (hp:cH (Sat w ω τ) p v) (h:Hb P s p f ans=some (r,cf,obs)):
  ∃z,(Instr.fieldAt s v f).run P w=.ok z w/\cH (Sat w ω τ) r z:=by
 unfold Hb at h;split at h
 ·rename_i off id o e1 e2;simp only[aT,bq]at h;obtain⟨rfl,_,rfl⟩:=h;obtain⟨b,aw,rfl⟩:=aE.dt e2 hp;exact⟨_,BK e1 w b o,b,aw,rfl⟩
 ·rename_i off t k es i j e1 e2;simp only[aT,bq]at h;obtain⟨rfl,_,rfl⟩:=h;obtain⟨b,o,cap,rfl,hi,aI,bH⟩:=aE.dt e2 hp;exact⟨_,BK e1 w b _,b,o,cap,by grind,hi,aI,bH⟩
 ·rename_i off ds o e1 e2;simp only[aT,bq]at h;obtain⟨rfl,_,rfl⟩:=h;obtain⟨b,rfl,aI⟩:=aE.dt e2 hp;exact⟨_,BK e1 w b o,b,rfl,aI⟩
 ·rename_i off t i j k es x y e1 e2;simp only[aT,bq]at h;obtain⟨rfl,_,rfl⟩:=h;obtain⟨u,⟨b,o,cap,rfl,rfl,ao⟩,aI,hm⟩:=aE.dt e2 hp;exact⟨_,BK e1 w b _,_,⟨b,o,cap,rfl,by grind,ao⟩,aI,fun _=>hm rfl⟩
 cases h
def pc(P:Program)(t:TypeId):Option (TypeId×Nat):=
 match P.underlying t with
 | some (.slice e)=>(P.info? e).map fun i=>(e,i.size)
 | _=>none
variable{t:TypeId}
theorem uF{e:TypeId}{k:Nat}(h:pc P t=some (e,k)):P.underlying t=some (.slice e)/\∃i,P.info? e=some i/\i.size=k:=by
 unfold pc at h;split at h
 ·rename_i e' hu;rw[b0]at h;grind
 cases h
def aC.flat:aC->aC
 | .c9 _ k es=>.J .free k es
 | l=>l
def aE.jx(p:aE):Option aC:=p.leaf.map aC.flat
variable{y:Value}{l:aC}
theorem aE.tW(h:p.jx=some l)(aj:cH (Sat w ω τ) p y):Sat w ω τ l y:=by
 unfold aE.jx at h;rw[b0]at h;obtain⟨fk,bV,rfl⟩:=h;have:=aE.dt bV aj;unfold aC.flat;split
 ·exact⟨this.1,ad⟩
 exact this
def Hc(P:Program)(t:TypeId)(p q:aE)(ans:List b'):iE:=
 match pc P t,p.jx,q.int with
 | some (_,k),some (.J tag cm es),some (_,n)=>if k=cm then some (.one (.cU tag cm es n.toNat 0),ans,[0<=n,n<(es.length:Int)]) else none
 | some (_,k),some (.aL s i j cm es .here),some (_,n)=>if k=cm then some (.one (.aL s i j cm es (.at_ n.toNat 0)),ans,[0<=n,n<(es.length:Int)]) else none
 | _,_,_=>none
theorem aiH{q:aE}{u:Value}
  (hp:cH (Sat w ω τ) p u) (aM:cH (Sat w ω τ) q v) (h:Hc P t p q ans=some (r,cf,obs)) (a6:cv obs):
  ∃z,(Instr.indexAt t u v).run P w=.ok z w/\cH (Sat w ω τ) r z:=by
 unfold Hc at h;split at h
 ·rename_i e k tag cm es yc n e1 e2 ch;split at h
  ·rename_i bc;subst bc;simp only[aT,bq]at h;obtain⟨rfl,_,rfl⟩:=h;obtain⟨hu,i,hi,bk⟩:=uF e1;obtain⟨aI,bH⟩:=aE.tW e2 hp;rw[aE.mw ch aM];have bV:0<=n:=a6.1;have U:n<(es.length:Int):=a6.2.1;cases aI with
   | nil=>grind
   | row R k es b off cap arr ty cF us aw dz ap aj bc il aF=>
    refine⟨.pointer (some ⟨b,off+n.toNat*k+0,none⟩),?_,b,off,cap,rfl,by omega,.row _ k es b off cap arr ty cF us aw dz ap aj bc il aF,bH⟩;simp[Instr.indexAt,run_underlying hu,asIntOf,bV,U,sizeOf,typeInfo,hi,bk,pb]
  cases h
 ·rename_i e k s zC zD cm es yc n e1 e2 ch;split at h
  ·rename_i bc;subst bc;simp only[aT,bq]at h;obtain⟨rfl,_,rfl⟩:=h;obtain⟨hu,i,hi,bk⟩:=uF e1;obtain⟨gg,rfl,aI,hm⟩:=aE.tW e2 hp;rw[aE.mw ch aM];have bV:0<=n:=a6.1;have U:n<(es.length:Int):=a6.2.1;cases aI with
   | nil=>grind
   | row R k es b off cap arr ty cF us aw dz ap aj bc il aF=>
    refine⟨.pointer (some ⟨b,off+n.toNat*k+0,none⟩),?_,_,⟨b,off,cap,rfl,rfl,by omega⟩,.row _ k es b off cap arr ty cF us aw dz ap aj bc il aF,hm⟩;simp[Instr.indexAt,run_underlying hu,asIntOf,bV,U,sizeOf,typeInfo,hi,bk,pb]
  cases h
 cases h
theorem aiI{P:Program}{b n:Nat}{arr:Array Value}{ty:TypeId}{cF:Nat×Nat}(aw:w.heap[b]?=some (.cells arr ty cF))(a7:off+n<=arr.size):
  (loadCells ⟨b,off,none⟩ n).run P w=.ok (arr.extract off (off+n)) w:=by
 have au:((arr.extract off (off+n)).toList).length=n:=by simp;omega
 have:=run_loadCells_list (P:=P) w ⟨b,off,none⟩ (arr.extract off (off+n)).toList (fun j v br=>by
  rw[pb,cell_of_row w b (off+j) arr ty cF aw];grind)
 rw[au,Array.toArray_toList]at this;exact this
def p7(agg:Bool)(n:Nat)(ls:List aC)(off:Nat):Option aE:=
 if agg then (if off+n<=ls.length then some (.agg ((ls.drop off).take n)) else none)
 else (ls[off]?).map fun l=>.one l
theorem v7{P:Program}{ω:Own}{τ:Nat->Nat×Value}{agg:Bool}{i:TypeInfo}{ls:List aC}(ai:uE P t=some agg)(hi:P.info? t=some i)
  (h:p7 agg i.size ls off=some p) {b base:Nat} {arr:Array Value} {ty:TypeId} {cF:Nat×Nat} (aw:w.heap[b]?=some (.cells arr ty cF)) (eL:base+ls.length<=arr.size)
  (aj:∀(j:Nat) (l:aC),ls[j]?=some l->∃u,arr[base+j]?=some u/\Sat w ω τ l u):
  ∃z,(loadVar t ⟨b,base+off,none⟩).run P w=.ok z w/\cH (Sat w ω τ) p z:=by
 unfold p7 at h;cases agg with
 | true=>
  simp only[gO]at h;split at h
  ·rename_i hle;simp only[aT]at h;subst h;refine⟨.agg (arr.extract (base+off) (base+off+i.size)),?_,?_⟩
   ·simp[loadVar,wl ai,sizeOf,typeInfo,hi,aiI (P:=P) aw (show base+off+i.size<=arr.size by omega)]
   refine⟨_,rfl,by simp;omega,fun j l au=>?_⟩;grind
  cases h
 | false=>
  simp only[ql,mY,b0]at h;obtain⟨l,au,rfl⟩:=h;obtain⟨u,U,aa⟩:=aj _ l au;refine⟨u,?_,aa⟩;simp[loadVar,wl ai,cell_of_row w b (base+off) arr ty cF aw,U]
def BL(P:Program)(st:aD)(t:TypeId)(p:aE)(ans:List b'):iE:=
 match uE P t,P.info? t,p.leaf with
 | some agg,some i,some (.ptr id off)=>
  match dh id st.boxes with
  | some ls=>(p7 agg i.size ls off).map fun r=>(r,ans,[])
  | none=>none
 | some agg,some i,some (.cU tag k es x j)=>
  match ans with
  | .el ds::r=>if ds.length=k then (p7 agg i.size (ds.map (D.leaf tag)) j).map fun v=>(v,r,[es[x]?=some ds]) else none
  | .sub::.el ds::r=>
   match tag with
   | .own t=>if ds.length=k then (p7 agg i.size (s3 t x 0 ds) j).map fun v=>(v,r,[es[x]?=some ds]) else none
   | _=>none
  | _=>none
 | some agg,some i,some (.gZ ds off)=>(p7 agg i.size (ds.map (D.leaf .free)) off).map fun r=>(r,ans,[])
 | some agg,some i,some (.aL s _ _ k es (.at_ x y))=>
  match ans with
  | .el ds::r=>if ds.length=k then (p7 agg i.size (ds.map (D.leaf (.ro s))) y).map fun v=>(v,r,[es[x]?=some ds]) else none
  | _=>none
 | _,_,_=>none
variable{w0:dY}{a:Act}{st:aD}
theorem aiJ
  (aW:cy w0 st a w ω τ) (hp:cH (Sat w ω τ) p v) (h:BL P st t p ans=some (r,cf,obs)) (a6:cv obs):
  ∃z,(Instr.loadAt t v).run P w=.ok z w/\cH (Sat w ω τ) r z:=by
 unfold BL at h;split at h
 ·rename_i agg i id off e1 e2 ch;split at h
  ·rename_i ls cZ;rw[b0]at h;obtain⟨lr,U,h⟩:=h;simp only[bq]at h;obtain⟨rfl,rfl,rfl⟩:=h;obtain⟨b,aw,rfl⟩:=aE.dt ch hp;obtain⟨de,arr,ty,eE,Bj,Fl,eL,ec⟩:=aW.boxes id ls cZ;have:=Bj b aw;subst this;have:=v7 (P:=P) e1 e2 U Fl (base:=0) (by omega) (fun j l au=>by simpa using ec j l au);grind[Instr.loadAt,Instr.sureAddr]
  cases h
 ·rename_i agg i tag k es x j e1 e2 ch;split at h
  ·rename_i ds gG;split at h
   ·rename_i hlen;rw[b0]at h;obtain⟨lr,U,h⟩:=h;simp only[bq]at h;obtain⟨rfl,rfl,rfl⟩:=h;have er:es[x]?=some ds:=a6.1;obtain⟨b,off,cap,rfl,hi,aI,bH⟩:=aE.dt ch hp;cases aI with
    | nil=>simp at hi
    | row R k es b off cap arr ty cF us aw dz ap aj bc hu aF=>
     have Mw:x*k+k<=cap*k:=by
      have:(x+1)*k<=cap*k:=gN k (by omega);grind
     have:=v7 (P:=P) (τ:=τ) (ω:=ω) e1 e2 U aw (base:=off+x*k) (by grind) (fun h2 l au=>by
      rw[dk,b0]at au;obtain⟨d,aa,rfl⟩:=au;have ap:cN es x h2=some d:=by grind[cN]
      exact⟨us x h2,hu x h2 d ap,D.dt (aF x h2 d ap)⟩)
     grind[Instr.loadAt,Instr.sureAddr]
   cases h
  ·rename_i ds gG;split at h
   ·rename_i t;split at h
    ·rename_i hlen;rw[b0]at h;obtain⟨lr,U,h⟩:=h;simp only[bq]at h;obtain⟨rfl,rfl,rfl⟩:=h;have er:es[x]?=some ds:=a6.1;obtain⟨b,off,cap,rfl,hi,aI,bH⟩:=aE.dt ch hp;cases aI with
     | nil=>simp at hi
     | row R k es b off cap arr ty cF us aw dz ap aj bc hu aF=>
      have Mw:x*k+k<=cap*k:=by
       have:(x+1)*k<=cap*k:=gN k (by omega);grind
      have:=v7 (P:=P) (τ:=τ) (ω:=ω) e1 e2 U aw (base:=off+x*k) (by grind[Ny]) (fun h2 l au=>by
       rw[Nx,b0]at au;obtain⟨d,aa,rfl⟩:=au;rw[dL];have ap:cN es x h2=some d:=by grind[cN]
       have A2:=aF x h2 d ap;refine⟨us x h2,hu x h2 d ap,?_⟩;cases d with
       | J b8 bL=>exact⟨_,rfl,A2,fun _=>⟨k,b,off,es.length,cap,arr,ty,cF,bH,dz,aw,hu x h2 _ ap⟩⟩
       | v z=>exact D.dt (t:=.own t) (p:=(x,h2)) A2
       | ptr ds=>exact D.dt (t:=.own t) (p:=(x,h2)) A2
       | bI g cs=>exact D.dt (t:=.own t) (p:=(x,h2)) A2)
      grind[Instr.loadAt,Instr.sureAddr]
    cases h
   cases h
  cases h
 ·rename_i agg i ds off e1 e2 ch;rw[b0]at h;obtain⟨lr,U,h⟩:=h;simp only[bq]at h;obtain⟨rfl,rfl,rfl⟩:=h;obtain⟨b,rfl,aI⟩:=aE.dt ch hp;have eh:bS w ω Tag.free.R (.ptr ds) (.pointer (some ⟨b,0,none⟩)):=aI;cases eh with
  | ptr R ds b arr ty cF us aw dz aj hu aF=>
   have:=v7 (P:=P) (τ:=τ) (ω:=ω) e1 e2 U aw (base:=0) (by simp;omega) (fun h2 l au=>by
    rw[dk,b0]at au;obtain⟨d,aa,rfl⟩:=au;exact⟨us h2,by grind,D.dt (p:=(0,h2)) (aF h2 d aa)⟩)
   grind[Instr.loadAt,Instr.sureAddr]
 ·rename_i agg i s zC zD k es x y e1 e2 ch;split at h
  ·rename_i ds gG;split at h
   ·rename_i hlen;rw[b0]at h;obtain⟨lr,U,h⟩:=h;simp only[bq]at h;obtain⟨rfl,rfl,rfl⟩:=h;have er:es[x]?=some ds:=a6.1;obtain⟨gg,⟨b,off,cap,rfl,rfl,hi⟩,aI,hm⟩:=aE.dt ch hp;cases aI with
    | nil=>simp at hi
    | row R k es b off cap arr ty cF us aw dz ap aj bc hu aF=>
     have Mw:x*k+k<=cap*k:=by
      have:(x+1)*k<=cap*k:=gN k (by omega);grind
     have:=v7 (P:=P) (τ:=τ) (ω:=ω) e1 e2 U aw (base:=off+x*k) (by grind) (fun h2 l au=>by
      rw[dk,b0]at au;obtain⟨d,aa,rfl⟩:=au;have ap:cN es x h2=some d:=by grind[cN]
      refine⟨us x h2,hu x h2 d ap,D.dt (t:=.ro s) (p:=(x,h2)) ((aF x h2 d ap).frame fun b q _ aM=>⟨.inr ⟨_,aM⟩,rfl⟩)⟩)
     grind[Instr.loadAt,Instr.sureAddr]
   cases h
  cases h
 cases h
def Hd(P:Program)(t:TypeId)(p:aE)(ans:List b'):iE:=
 match P.underlying t,p.jx with
 | some (.slice _),some (.J _ _ es)=>some (.one (.v (.int .i64 es.length)),ans,[])
 | some (.slice _),some (.v (.slice _ n _))=>some (.one (.v (.int .i64 n)),ans,[])
 | some (.slice _),some (.aL _ _ _ _ es .here)=>some (.one (.v (.int .i64 es.length)),ans,[])
 | some (.slice _),some (.aL _ _ _ _ es .ky)=>some (.one (.v (.int .i64 es.length)),ans,[])
 | some .string,some (.v (.string s))=>some (.one (.v (.int .i64 s.size)),ans,[])
 | _,_=>none
theorem bS.len{R:List (Nat×Nat)->c4->Prop}{k:Nat}{es:List (List D)}(h:bS w ω R (.J k es) y):∃b c,y=.slice b es.length c:=by
 cases h with
 | nil=>simp_all
 | row R k es b off cap arr ty cF us aw dz ap aj bc hu aF=>grind
theorem aiK{ty:TypeId}
  (hp:cH (Sat w ω τ) p v) (h:Hd P t p ans=some (r,cf,obs)):
  ∃z,(Builtin.len_ #[t] ty #[v]).run P w=.ok z w/\cH (Sat w ω τ) r z:=by
 unfold Hd at h;split at h
 ·rename_i e Ta k es e1 e2;simp only[aT,bq]at h;obtain⟨rfl,_,rfl⟩:=h;obtain⟨aI,_⟩:=aE.tW e2 hp;obtain⟨b,c,rfl⟩:=aI.len;exact⟨_,by simp[Builtin.len_,run_underlying e1];rfl,rfl⟩
 ·rename_i e b n c e1 e2;simp only[aT,bq]at h;obtain⟨rfl,_,rfl⟩:=h;have:v=.slice b n c:=aE.tW e2 hp;subst this;exact⟨_,by simp[Builtin.len_,run_underlying e1];rfl,rfl⟩
 ·rename_i e s zC zD k es e1 e2;simp only[aT,bq]at h;obtain⟨rfl,_,rfl⟩:=h;obtain⟨gg,rfl,aI,_⟩:=aE.tW e2 hp;obtain⟨b,c,rfl⟩:=aI.len;exact⟨_,by simp[Builtin.len_,run_underlying e1];rfl,rfl⟩
 ·rename_i e s zC zD k es e1 e2;simp only[aT,bq]at h;obtain⟨rfl,_,rfl⟩:=h;obtain⟨gg,rfl,aI,_⟩:=aE.tW e2 hp;obtain⟨b,c,rfl⟩:=aI.len;exact⟨_,by simp[Builtin.len_,run_underlying e1];rfl,rfl⟩
 ·rename_i s e1 e2;simp only[aT,bq]at h;obtain⟨rfl,_,rfl⟩:=h;have:v=.string s:=aE.tW e2 hp;subst this;exact⟨_,by simp[Builtin.len_,run_underlying e1];rfl,rfl⟩
 cases h
theorem Nz{es:List (List D)}{l n i j:Nat}{d:D}(h:cN ((es.drop l).take n) i j=some d):i<n/\cN es (l+i) j=some d:=by
 grind[cN]
theorem bS.sub{R hH:List (Nat×Nat)->c4->Prop}{k:Nat}{es:List (List D)}{b cap:Nat}(h:bS w ω R (.J k es) (.slice (some ⟨b,off,none⟩) es.length cap))
  {l m:Nat} (au:l<=m) (hm:m<=es.length) (AV:∀o,R [] o->hH [] o) (asK:∀i j q o,l<=i->R ((i,j)::q) o->hH ((i-l,j)::q) o):
  bS w ω hH (.J k ((es.drop l).take (m-l))) (sliced (some ⟨b,off,none⟩) l m cap k):=by
 cases h with
 | nil=>
  grind[sliced,bS.nil]
 | row R k es b off cap arr ty cF us aw dz ap aj bc hu aF=>
  have hlen:((es.drop l).take (m-l)).length=m-l:=by simp;omega
  have hmul:l*k+(cap-l)*k=cap*k:=by rw[<-gx];grind
  have key:∀oN:Nat,(cap=l\/oN=off+l*k)->oN+(cap-l)*k<=arr.size->
    bS w ω hH (.J k ((es.drop l).take (m-l))) (.slice (some ⟨b,oN,none⟩) (m-l) (cap-l)):=by
   intro oN a6 eL;have bk:cap=l->m-l=0:=fun e=>by omega
   have aI:=bS.row (w:=w) (ω:=ω) hH k ((es.drop l).take (m-l)) b oN (cap-l) arr ty cF (fun i j=>us (l+i) j) aw (AV _ dz) (by omega) eL
    (fun e he=>bc e (Aj (vk he)))
    (fun i j d tI=>by
     obtain⟨hi,Mk⟩:=Nz tI;grind)
    (fun i j d tI=>by
     obtain⟨hi,Mk⟩:=Nz tI;refine (aF (l+i) j d Mk).frame fun b q _ aM=>⟨?_,rfl⟩
     grind)
   grind
  unfold sliced;split
  ·grind
  simp only[rP,pb];grind
def aC.view:aC->aC
 | .aL t _ _ k es .here=>.J (.ro t) k es
 | .aL t _ _ k es .ky=>.J (.ro t) k es
 | .c9 _ k es=>.J .free k es
 | l=>l
theorem aC.KK(aj:Sat w ω τ l y):Sat w ω τ l.view y:=by
 unfold aC.view;split
 ·obtain⟨gg,rfl,aI,_⟩:=aj;exact⟨aI.frame fun b q _ aM=>⟨.inr ⟨_,aM⟩,rfl⟩,ad⟩
 ·obtain⟨gg,rfl,aI,_⟩:=aj;exact⟨aI.frame fun b q _ aM=>⟨.inr ⟨_,aM⟩,rfl⟩,ad⟩
 ·exact⟨aj.1,ad⟩
 exact aj
theorem aE.KK(h:p.leaf.map aC.view=some l)(aj:cH (Sat w ω τ) p y):Sat w ω τ l y:=by
 rw[b0]at h;obtain⟨fk,bV,rfl⟩:=h;grind[aC.KK,aE.dt]
def kL(st:aD):Option Operand->Option (Option Int)
 | none=>some none
 | some x=>((st.bj x).int).map fun p=>some p.2
def BM(P:Program)(st:aD)(t:TypeId)(p:aE)(cP hi hP:Option Operand)(ans:List b'):iE:=
 match pc P t,p.leaf.map aC.view,hP with
 | some (_,k),some (.J tag cm es),none=>
  if k=cm then
   match kL st cP,kL st hi with
   | some l,some h=>some (.one (.J tag.Di k ((es.drop (l.getD 0).toNat).take ((h.getD es.length).toNat-(l.getD 0).toNat))),ans,[0<=l.getD 0,l.getD 0<=h.getD es.length,h.getD es.length<=es.length])
   | _,_=>none
  else none
 | _,_,_=>none
theorem yx{len cap:Nat}{cP hi:Option Value}{l h:Int}(au:cP=none/\l=0\/∃k,cP=some (.int k l))(bH:hi=none/\h=len\/∃k,hi=some (.int k h))
  (bV:0<=l) (U:l<=h) (aa:h<=cap):(Instr.sliceBounds true len cap cP hi none).run P w=.ok (l.toNat,h.toNat,cap) w:=by
 have asy:(h.toNat:Int)=h:=Int.toNat_of_nonneg (by omega);have aA:0<=h:=by omega
 rcases au with⟨rfl,rfl⟩ | ⟨k,rfl⟩<;>rcases bH with⟨rfl,rfl⟩ | ⟨cm,rfl⟩<;>
  simp_all[Instr.sliceBounds,run_sliceBound]
theorem yy(aW:cy w0 st a w ω τ){x:Option Operand}{r:Option Int}(h:kL st x=some r):
  (x.map a.eval=none/\r=none)\/∃k n,x.map a.eval=some (.int k n)/\r=some n:=by
 cases x with
 | none=>simp_all[kL]
 | some x=>
  simp only[kL,b0]at h;obtain⟨⟨k,n⟩,U,aa⟩:=h;exact .inr ⟨k,n,by simp[aE.mw U (aW.bj x)],aa.symm⟩
theorem aiL{cP hi hP:Option Operand}
  (aW:cy w0 st a w ω τ) (hp:cH (Sat w ω τ) p v) (h:BM P st t p cP hi hP ans=some (r,cf,obs)) (a6:cv obs):
  ∃z,(Instr.sliceAt t v (cP.map a.eval) (hi.map a.eval) (hP.map a.eval)).run P w=.ok z w/\cH (Sat w ω τ) r z:=by
 unfold BM at h;split at h
 ·rename_i e k tag cm es e1 e2;split at h
  ·rename_i bc;subst bc;split at h
   ·rename_i l bH ch dP;simp only[aT,bq]at h;obtain⟨rfl,_,rfl⟩:=h;obtain⟨hu,i,kD,bk⟩:=uF e1;obtain⟨aI,_⟩:=aE.KK e2 hp;obtain⟨cx,cd,cD,_⟩:=a6;have aA:=yy aW ch;have aO:=yy aW dP;have oA:(cP.map a.eval=none/\l.getD 0=0)\/∃k,cP.map a.eval=some (.int k (l.getD 0)):=by
     grind
    have qP:(hi.map a.eval=none/\bH.getD es.length=es.length)\/∃k,hi.map a.eval=some (.int k (bH.getD es.length)):=by
     grind
    cases aI with
    | nil _ _ a0=>
     simp only[dM] at*;have bD:l.getD 0=0:=by omega
     have Vb:bH.getD ((0:Nat):Int)=0:=by omega
     refine⟨.slice a0 0 0,?_,?_⟩
     ·simp only[Instr.sliceAt,Sem.run_bind,run_underlying hu,Result.andThen_ok,Instr.slice,Option.map_none];rw[yx oA qP cx cd cD];simp_all[sizeOf,typeInfo]
     refine⟨?_,Tag.KE⟩;simp only[List.drop_nil,List.take_nil];exact .nil _ _ _
    | row R k es b off cap arr ty cF us aw dz ap aj bc il aF=>
     refine⟨sliced (some ⟨b,off,none⟩) (l.getD 0).toNat (bH.getD es.length).toNat cap k,?_,?_,Tag.KE⟩
     ·simp only[Instr.sliceAt,Sem.run_bind,run_underlying hu,Result.andThen_ok,Instr.slice,Option.map_none];rw[yx oA qP cx cd (by omega)];simp_all[sizeOf,typeInfo,sliced]
     exact bS.sub (.row _ k es b off cap arr ty cF us aw dz ap aj bc il aF) (by omega) (by omega) (fun o h=>Tag.KD h) (fun i j q o _ h=>Tag.KD h)
   cases h
  cases h
 cases h
end Go.Sx
namespace Go.Sx
open Go.RowKit
def aC.ok:aC->Bool
 | .cp=>false
 | .v x=>x.oneCell'
 | _=>true
variable{w:World}{ω:Own}{y:Value}
theorem bS.nP{R:List (Nat×Nat)->c4->Prop}{d:D}(h:bS w ω R d y):y.oneCell'=true:=by
 cases h with
 | v R x U=>exact U
 | nil=>rfl
 | row=>rfl
 | ptr=>rfl
 | bI=>rfl
variable{τ:Nat->Nat×Value}
theorem aC.Nn{l:aC}(h:l.ok=true)(aj:Sat w ω τ l y):y.oneCell'=true:=by
 cases l with
 | cp=>cases h
 | v x=>have:y=x:=aj;subst this;exact h
 | a1 c=>have:y=.bool c:=aj;subst this;rfl
 | J t k es=>exact aj.1.nP
 | ptr id off=>obtain⟨b,_,rfl⟩:=aj;rfl
 | cU t k es i j=>obtain⟨b,off,cap,rfl,_⟩:=aj;rfl
 | gZ ds off=>obtain⟨b,rfl,_⟩:=aj;rfl
 | fd d=>exact bS.nP aj
 | c9 t k es=>exact aj.1.nP
 | fK g ids=>obtain⟨bs,rfl,_⟩:=aj;rfl
 | aL t i j k es m=>
  obtain⟨u,hu,aI,_⟩:=aj;cases m with
  | at_ x y=>obtain⟨b,off,cap,_,rfl,_⟩:=hu;rfl
  | here=>have:y=u:=hu;subst this;exact aI.nP
  | ky=>have:y=u:=hu;subst this;exact aI.nP
 | eS t vs=>obtain⟨b,ty,arr,rfl,_⟩:=aj;rfl
theorem yz(h:y.oneCell'=true):y.cells=#[y]:=by
 cases y<;>first | rfl | grind[Value.oneCell']
def aE.leaves:aE->Option (List aC)
 | .az (.one l)=>if l.ok then some [l] else none
 | .az (.agg ls)=>if ls.all aC.ok then some ls else none
 | _=>none
variable{p:aE}{ls:List aC}
theorem aE.vX(h:p.leaves=some ls)(aj:cH (Sat w ω τ) p y):
  i' (Sat w ω τ) ls y.cells/\∀u∈y.cells.toList,u.oneCell'=true:=by
 unfold aE.leaves at h;split at h
 ·rename_i l;split at h
  ·rename_i cG;simp only[aT]at h;subst h;have U:=aC.Nn cG aj;rw[yz U];refine⟨⟨rfl,fun i gD au=>?_⟩,by grind⟩;cases i with
   | zero=>simp at au;subst au;exact⟨y,rfl,aj⟩
   | succ i=>simp at au
  cases h
 ·rename_i eW;split at h
  ·rename_i cG;simp only[aT]at h;subst h;obtain⟨vs,rfl,a7,br⟩:=aj;refine⟨⟨a7,br⟩,fun u hu=>?_⟩;obtain⟨i,hi⟩:=pr.1 hu;have bM:i<eW.length:=by
    grind[Value.cells]
   obtain⟨rM,U,aa⟩:=br i eW[i] (by simp);have e:u=rM:=by
    have:(Value.agg vs).cells.toList[i]?=vs[i]?:=by simp[Value.cells]
    grind
   grind[aC.Nn,rQ]
  cases h
 cases h
theorem Oa(off:Nat):∀(vs:List Value) (k:Nat) (cells:Array Value) (i:Nat),off+k+vs.length<=cells.size->
  ((vs.zipIdx k).foldl (fun cs (x:Value×Nat)=>cs.setIfInBounds (off+x.2) x.1) cells)[i]?=if off+k<=i/\i<off+k+vs.length then vs[i-(off+k)]? else cells[i]?
 | [],k,cells,i,_=>by simp;grind
 | v::vs,k,cells,i,h=>by
  simp only[List.zipIdx_cons,List.foldl_cons,gP]at h ⊢;rw[Oa off vs (k+1) _ i (by simp;omega),Array.getElem?_setIfInBounds];grind
theorem Ob(off:Nat):∀(l:List (Value×Nat)) (cells:Array Value),(l.foldl (fun cs (x:Value×Nat)=>cs.setIfInBounds (off+x.2) x.1) cells).size=cells.size
 | [],_=>rfl
 | x::l,cells=>by simp_all[List.foldl_cons,Ob]
def r2(ls:List aC)(off:Nat)(xs:List aC):List aC:=ls.take off++(xs++ls.drop (off+xs.length))
variable{off:Nat}
theorem Oc{xs:List aC}{i:Nat}(h:off+xs.length<=ls.length):(r2 ls off xs)[i]?=if off<=i/\i<off+xs.length then xs[i-off]? else ls[i]?:=by
 unfold r2;grind
theorem He{xs:List aC}(h:off+xs.length<=ls.length):(r2 ls off xs).length=ls.length:=by
 grind[r2]
def pD(place:Nat->Option (Nat×Nat))(ls:List aC):List (Nat×aE)->Option (List aC)
 | []=>some ls
 | (i,p)::rest=>
  match place i,p.leaves with
  | some (off,size),some xs=>if xs.length=size/\off+size<=ls.length then pD place (r2 ls off xs) rest else none
  | _,_=>none
theorem Hf{place:Nat->Option (Nat×Nat)}:∀{parts:List (Nat×aE)} {vals:List (Nat×Value)} {ls r:List aC} {cells:Array Value},
  parts.length=vals.length->(∀(j:Nat) i p,parts[j]?=some (i,p)->∃v,vals[j]?=some (i,v)/\cH (Sat w ω τ) p v)->pD place ls parts=some r->i' (Sat w ω τ) ls cells->
  ∃out,Instr.fill place cells vals=some out/\i' (Sat w ω τ) r out
 | [],vals,ls,r,cells,a7,_,h,aj=>by
  have:vals=[]:=w9 (by grind);subst this;simp only[pD,aT]at h;subst h;exact⟨cells,rfl,aj⟩
 | (i,p)::parts,vals,ls,r,cells,a7,hp,h,aj=>by
  obtain⟨v,br,ec⟩:=hp 0 i p rfl;cases vals with
  | nil=>simp at br
  | cons x vals=>
   simp only[kV,aT]at br;subst br;simp only[pD]at h;split at h
   ·rename_i off size xs e1 e2;split at h
    ·rename_i ap;obtain⟨kB,kf⟩:=ap;obtain⟨⟨eL,x8⟩,_⟩:=aE.vX e2 ec;have tR:v.cells.size=size:=by omega
     have nv:off+v.cells.size<=cells.size:=by have:=aj.1;omega
     have fN:i' (Sat w ω τ) (r2 ls off xs) (v.cells.zipIdx.foldl (fun cs (c,j)=>cs.setIfInBounds (off+j) c) cells):=by
      have e:v.cells.zipIdx.foldl (fun cs (c,j)=>cs.setIfInBounds (off+j) c) cells=(v.cells.toList.zipIdx 0).foldl (fun cs (x:Value×Nat)=>cs.setIfInBounds (off+x.2) x.1) cells:=by
       rw[<-Array.foldl_toList];simp
      rw[e];refine⟨by rw[Ob,He (by omega)];exact aj.1,fun j l au=>?_⟩;rw[Oc (by omega)]at au;rw[Oa off _ 0 _ _ (by simp;omega)];simp only[LJ,mX];by_cases bm:off<=j/\j<off+xs.length
      ·grind
      rw[bE bm]at au;rw[bE (by omega)];exact aj.2 _ _ au
     obtain⟨out,U,aa⟩:=Hf (parts:=parts) (vals:=vals) (by grind) (fun j fj oR bm=>by have:=hp (j+1) fj oR (by grind);grind) h fN;simp_all[Instr.fill,bE]
    cases h
   cases h
def Hg(P:Program)(t:TypeId)(f:Nat):Option (Nat×Nat):=
 match P.underlying t with
 | some (.struct ey)=>
  match ey[f]? with
  | some fd=>(P.info? fd.type).map fun i=>(fd.offset,i.size)
  | none=>none
 | _=>none
def BN(P:Program)(st:aD)(t:TypeId)(parts:List (Nat×Operand))(ans:List b'):iE:=
 match P.underlying t,P.info? t with
 | some (.struct ey),some i=>
  match i.zero with
  | some z=>
   if ey.toList.all fun f=>(P.info? f.type).isSome then
    (pD (Hg P t) (z.cells.toList.map .v) (parts.map fun x=>(x.1,st.bj x.2))).map fun ls=>(.agg ls,ans,[])
   else none
  | none=>none
 | _,_=>none
theorem Od{P:Program}(w:World):∀(ey:List Field),(∀f∈ey,(P.info? f.type).isSome=true)->
  (ey.mapM fun f=>(do pure (f.offset,<-sizeOf f.type):Sem (Nat×Nat))).run P w=.ok (ey.map fun f=>(f.offset,((P.info? f.type).map (·.size)).getD 0)) w
 | [],_=>by simp
 | f::ey,h=>by
  obtain⟨i,hi⟩:=pq.1 (h f (by simp));have d':=Od (P:=P) w ey (fun g ay=>h g (by simp[ay]));simp only[xa,Sem.run_bind,sizeOf,typeInfo,run_program,Result.andThen_ok,hi,Sem.run_pure,lu,rP,j5];simp_all[Sem.run_bind,sizeOf,typeInfo,Sem.run_pure]
theorem BO{P:Program}{α β:Type}(f:α->Sem β)(xs:Array α)(w:World)(r:List β)(h:(xs.toList.mapM f).run P w=.ok r w):(xs.mapM f).run P w=.ok r.toArray w:=by
 rw[<-Array.toArray_toList (xs:=xs),List.mapM_toArray];simp_all
variable{P:Program}{w0:dY}{a:Act}{st:aD}{t:TypeId}{r:aE}{ans cf:List b'}{obs:List Prop}
theorem aiM{parts:Array (Nat×Operand)}
  (aW:cy w0 st a w ω τ) (h:BN P st t parts.toList ans=some (r,cf,obs)):
  ∃z,(Instr.build t (parts.map fun (i,x)=>(i,a.eval x))).run P w=.ok z w/\cH (Sat w ω τ) r z:=by
 unfold BN at h;split at h
 ·rename_i ey i hu hi;split at h
  ·rename_i z bk;split at h
   ·rename_i gV;rw[b0]at h;obtain⟨ls,U,h⟩:=h;simp only[bq]at h;obtain⟨rfl,_,_⟩:=h;have Bl:i' (Sat w ω τ) (z.cells.toList.map .v) z.cells:=by
     refine⟨by simp,fun j l au=>?_⟩;rw[dk,b0]at au;obtain⟨u,hu,rfl⟩:=au;exact⟨u,by grind,rfl⟩
    obtain⟨out,aa,aA⟩:=Hf (vals:=parts.toList.map fun x=>(x.1,a.eval x.2)) (by simp) (fun j fj p bm=>by
     rw[dk,b0]at bm;obtain⟨⟨i2,x⟩,ao,e⟩:=bm;simp only[bq]at e;obtain⟨rfl,rfl⟩:=e;exact⟨a.eval x,by grind,aW.bj x⟩) U Bl
    have hm:=BO (P:=P) (fun f:Field=>(do pure (f.offset,<-sizeOf f.type):Sem (Nat×Nat))) ey w _ (Od (P:=P) w ey.toList (fun f b7=>fp.1 gV f b7));have nC:(fun x=>(ey.toList.map fun f=>(f.offset,((P.info? f.type).map (·.size)).getD 0)).toArray[x]?)=Hg P t:=by
     funext x;simp only[qk,dk,vj,Hg,hu];cases ao:ey[x]? with
     | none=>rfl
     | some fd=>
      have:(P.info? fd.type).isSome=true:=fp.1 gV fd (by grind);obtain⟨fj,kD⟩:=pq.1 this;simp[kD]
    refine⟨.agg out,?_,out,rfl,aA⟩;simp only[Instr.build,Sem.run_bind,zeroValue,typeInfo,run_program,Result.andThen_ok,hi,Sem.run_pure,bk,run_underlying hu,hm,nC];simp_all
   cases h
  cases h
 cases h
def Hh(p:aE)(nI:Nat)(ans:List b'):iE:=
 match p with
 | .ek as=>(as[nI]?).map fun a=>(.az a,ans,[])
 | _=>none
variable{v:Value}
theorem aiN{P:Program}{nI:Nat}
  (hp:cH (Sat w ω τ) p v) (h:Hh p nI ans=some (r,cf,obs)):∃z,(Instr.extract v nI).run P w=.ok z w/\cH (Sat w ω τ) r z:=by
 unfold Hh at h;split at h
 ·rename_i as;rw[b0]at h;obtain⟨az,U,h⟩:=h;simp only[bq]at h;obtain⟨rfl,_,_⟩:=h;obtain⟨vs,rfl,a7,br⟩:=hp;obtain⟨u,aa,aA⟩:=br _ _ U;exact⟨u,by simp[Instr.extract,aa],aA⟩
 cases h
def Hi(P:Program)(t:TypeId)(p:aE)(f:Nat)(ans:List b'):iE:=
 match P.underlying t with
 | some (.struct ey)=>
  match ey[f]? with
  | some fd=>
   match uE P fd.type,P.info? fd.type,p with
   | some agg,some i,.az (.agg ls)=>(p7 agg i.size ls fd.offset).map fun r=>(r,ans,[])
   | _,_,_=>none
  | none=>none
 | _=>none
theorem aiO{f:Nat}
  (hp:cH (Sat w ω τ) p v) (h:Hi P t p f ans=some (r,cf,obs)):∃z,(Instr.field t v f).run P w=.ok z w/\cH (Sat w ω τ) r z:=by
 unfold Hi at h;split at h
 ·rename_i ey hu;split at h
  ·rename_i fd b7;split at h
   ·rename_i agg i ls e1 e2;rw[b0]at h;obtain⟨lr,U,h⟩:=h;simp only[bq]at h;obtain⟨rfl,_,_⟩:=h;obtain⟨vs,rfl,a7,br⟩:=hp;unfold p7 at U;cases agg with
    | true=>
     simp only[gO]at U;split at U
     ·rename_i hle;simp only[aT]at U;subst U;refine⟨.agg (vs.extract fd.offset (fd.offset+i.size)),by simp[Instr.field,run_underlying hu,b7,asAgg,part,wl e1,sizeOf,typeInfo,e2],_,rfl,by simp;omega,fun j l au=>?_⟩;grind
     cases U
    | false=>
     simp only[ql,mY,b0]at U;obtain⟨l,au,rfl⟩:=U;obtain⟨u,U,aa⟩:=br _ l au;exact⟨u,by simp_all[Instr.field,run_underlying,asAgg,part,wl],aa⟩
   cases h
  cases h
 cases h
def Hj(op:UnOp)(p:aE)(ans:List b'):iE:=
 match op,p.leaf with
 | .not,some (.a1 c)=>some (.one (.a1 (!c)),ans,[])
 | .not,some (.v (.bool c))=>some (.one (.v (.bool (!c))),ans,[])
 | .neg,some (.v (.int k n))=>arith k (0-n) ans
 | _,_=>none
theorem aiP{op:UnOp}
  (hp:cH (Sat w ω τ) p v) (h:Hj op p ans=some (r,cf,obs)) (a6:cv obs):∃z,(Op.unary op v).run P w=.ok z w/\cH (Sat w ω τ) r z:=by
 unfold Hj at h;split at h
 ·rename_i c e;simp only[aT,bq]at h;obtain⟨rfl,_,_⟩:=h;have:v=.bool c:=aE.dt e hp;subst this;exact⟨_,rfl,rfl⟩
 ·rename_i c e;simp only[aT,bq]at h;obtain⟨rfl,_,_⟩:=h;have:v=.bool c:=aE.dt e hp;subst this;exact⟨_,rfl,rfl⟩
 ·rename_i k n e;have:v=.int k n:=aE.dt e hp;subst this;exact⟨_,rfl,wk h a6⟩
 cases h
def eN(c a b:aE)(ans:List b'):iE:=
 match c.leaf with
 | some (.v (.bool true))=>some (a,ans,[])
 | some (.v (.bool false))=>some (b,ans,[])
 | some (.a1 c)=>
  match ans with
  | .na true::r=>some (a,r,[c=true])
  | .na false::r=>some (b,r,[c=false])
  | _=>none
 | _=>none
variable{u:Value}
theorem aiQ{c a b:aE}{x:Value}
  (ap:cH (Sat w ω τ) c u) (ai:cH (Sat w ω τ) a x) (aw:cH (Sat w ω τ) b y) (h:eN c a b ans=some (r,cf,obs)) (a6:cv obs):
  ∃z,(do pure (.value (if <-asBool u then x else y)):Sem Next).run P w=.ok (.value z) w/\cH (Sat w ω τ) r z:=by
 unfold eN at h;split at h
 ·rename_i e;simp only[aT,bq]at h;obtain⟨rfl,_,_⟩:=h;have:u=.bool true:=aE.dt e ap;subst this;exact⟨x,rfl,ai⟩
 ·rename_i e;simp only[aT,bq]at h;obtain⟨rfl,_,_⟩:=h;have:u=.bool false:=aE.dt e ap;subst this;exact⟨y,rfl,aw⟩
 ·rename_i iH e;have:u=.bool iH:=aE.dt e ap;subst this;split at h
  ·simp only[aT,bq]at h;obtain⟨rfl,_,rfl⟩:=h;have tI:iH=true:=a6.1;subst tI;exact⟨x,rfl,ai⟩
  ·simp only[aT,bq]at h;obtain⟨rfl,_,rfl⟩:=h;have tI:iH=false:=a6.1;subst tI;exact⟨y,rfl,aw⟩
  cases h
 cases h
def rf:List (List D)->Option (List Int)
 | []=>some []
 | [.v (.int .u8 n)]::r=>(rf r).map (n::·)
 | _=>none
theorem Oe:∀{es:List (List D)} {xs:List Int},rf es=some xs->xs.length=es.length/\∀i,i<xs.length->cN es i 0=some (.v (.int .u8 (xs.getD i 0)))/\∀e,es[i]?=some e->e.length=1
 | [],xs,h=>by
  simp_all[rf,aT]
 | e::r,xs,h=>by
  unfold rf at h;split at h
  ·grind
  ·rename_i n lr he;obtain⟨rfl,rfl⟩:=ar6 he;rw[b0]at h;obtain⟨ys,U,rfl⟩:=h;obtain⟨aa,aA⟩:=Oe U;refine⟨by simp[aa],fun i hi=>?_⟩;cases i with
   | zero=>exact⟨rfl,fun e he=>by grind⟩
   | succ i=>
    simp only[gP,Nat.add_lt_add_iff_right]at hi;grind[cN]
  cases h
theorem cell_of_heap{w:World}{b:Nat}{arr:Array Value}{ty:TypeId}{cF:Nat×Nat}(aw:w.heap[b]?=some (.cells arr ty cF))(h:arr[off]?=some v):w.cell? ⟨b,off,none⟩=some v:=by
 unfold World.cell?;simp[aw,h]
def aC.S3:aC->Option (List (List D))
 | .J _ 1 es=>some es
 | _=>none
def Hk(P:Program)(src dst:TypeId)(p:aE)(ans:List b'):iE:=
 match P.underlying src,P.underlying dst,p.int with
 | some _,some (.int k),some (_,n)=>arith k n ans
 | some (.slice e),some .string,none=>
  match P.underlying e,p.leaf.bind aC.S3,ans with
  | some (.int .u8),some es,.gX (.az (.one (.v (.string s))))::r=>some (.one (.v (.string s)),r,[(rf es).map strOfNums=some s])
  | _,_,_=>none
 | _,_,_=>none
theorem aiR{src dst:TypeId}
  (hp:cH (Sat w ω τ) p v) (h:Hk P src dst p ans=some (r,cf,obs)) (a6:cv obs):∃z,(convert src dst v).run P w=.ok z w/\cH (Sat w ω τ) r z:=by
 unfold Hk at h;split at h
 ·rename_i d k yc n e1 e2 ch;rw[aE.mw ch hp];exact⟨_,by simp_all[convert,run_underlying,Conv.intToInt],wk h a6⟩
 ·rename_i e e1 e2 ch;split at h
  ·rename_i es s lr dP gT;simp only[aT,bq]at h;obtain⟨rfl,_,rfl⟩:=h;have kE:(rf es).map strOfNums=some s:=a6.1;rw[b0]at kE;obtain⟨xs,U,rfl⟩:=kE;obtain⟨aa,aA⟩:=Oe U;rw[kW]at gT;obtain⟨l,k2,ng⟩:=gT;have au:=aE.dt k2 hp;unfold aC.S3 at ng;split at ng
   ·rename_i t cq;simp only[aT]at ng;subst ng;obtain⟨aI,_⟩:=au;refine⟨.string (strOfNums xs),?_,rfl⟩;cases aI with
    | nil R k a=>
     have:xs=[]:=List.length_eq_zero_iff.1 (by grind);subst this;cases a with
     | none=>exact run_convert_bytes_nil w src e e1 dP 0 0 dst e2
     | some a=>
      rw[run_convert_bytes_string w src dst e _ 0 0 e1 dP e2];exact run_bytesToString w a 0 0 [] (run_loadCells_list w a [] (fun j v bm=>by simp at bm))
    | row R k _ b off cap arr ty cF us aw dz ap aj bc hu aF=>
     refine run_convert_bytes_arg w src e e1 dP b off cq.length cap xs aa (fun i hi=>?_) dst e2;obtain⟨aO,_⟩:=aA i (by omega);have a8:=hu i 0 _ aO;have bG:=aF i 0 _ aO;generalize us i 0=u at a8 bG;cases bG;rw[Nat.mul_one,mX]at a8;grind[cell_of_heap]
   cases ng
  cases h
 cases h
def Hl(P:Program)(t:TypeId)(p q:aE)(ans:List b'):iE:=
 match P.underlying t,p.leaf,q.int with
 | some .string,some (.v (.string s)),some (_,n)=>
  match ans with
  | .num m::r=>some (.one (.v (.int .u8 m)),r,[0<=n,(s[n.toNat]?).map (fun b=>((b.toNat:Nat):Int))=some m])
  | _=>none
 | _,_,_=>none
variable{q:aE}
theorem aiS
  (hp:cH (Sat w ω τ) p u) (aM:cH (Sat w ω τ) q v) (h:Hl P t p q ans=some (r,cf,obs)) (a6:cv obs):∃z,(Instr.index t u v).run P w=.ok z w/\cH (Sat w ω τ) r z:=by
 unfold Hl at h;split at h
 ·rename_i s yc n e1 e2 ch;split at h
  ·rename_i m gG;simp only[aT,bq]at h;obtain⟨rfl,_,rfl⟩:=h;obtain⟨bV,U,_⟩:=a6;have:u=.string s:=aE.dt e2 hp;subst this;rw[aE.mw ch aM];rw[b0]at U;obtain⟨b,aw,hm⟩:=U;exact⟨.int .u8 m,by simp_all[Instr.index,asIntOf,run_underlying],rfl⟩
  cases h
 cases h
def Hm(p q:aE)(ans:List b'):iE:=
 match p.int,q.int with
 | some (k,a),some (_,b)=>some (.one (.v (.int k (if b<a then b else a))),ans,[])
 | _,_=>none
def Hn(p q:aE)(ans:List b'):iE:=
 match p.int,q.int with
 | some (k,a),some (_,b)=>some (.one (.v (.int k (if b>a then b else a))),ans,[])
 | _,_=>none
theorem aiT{P:Program}{ts:Array TypeId}{ty:TypeId}
  (hp:cH (Sat w ω τ) p u) (aM:cH (Sat w ω τ) q v) (h:Hm p q ans=some (r,cf,obs)):∃z,(Builtin.min_ ts ty #[u,v]).run P w=.ok z w/\cH (Sat w ω τ) r z:=by
 unfold Hm at h;split at h
 ·rename_i k a yc b e1 e2;simp only[aT,bq]at h;obtain⟨rfl,_,_⟩:=h;rw[aE.mw e1 hp,aE.mw e2 aM];exact⟨_,by simp[Builtin.min_,Builtin.min2],rfl⟩
 cases h
theorem aiU{P:Program}{ts:Array TypeId}{ty:TypeId}
  (hp:cH (Sat w ω τ) p u) (aM:cH (Sat w ω τ) q v) (h:Hn p q ans=some (r,cf,obs)):∃z,(Builtin.max_ ts ty #[u,v]).run P w=.ok z w/\cH (Sat w ω τ) r z:=by
 unfold Hn at h;split at h
 ·rename_i k a yc b e1 e2;simp only[aT,bq]at h;obtain⟨rfl,_,_⟩:=h;rw[aE.mw e1 hp,aE.mw e2 aM];exact⟨_,by simp[Builtin.max_,Builtin.max2],rfl⟩
 cases h
def Of(p:aE)(ans:List b'):iE:=
 match p.leaf with
 | some (.ptr id off)=>some (.one (.ptr id off),ans,[])
 | some (.cU t k es i j)=>some (.one (.cU t k es i j),ans,[])
 | some (.gZ ds off)=>some (.one (.gZ ds off),ans,[])
 | some (.aL t i j k es (.at_ x y))=>some (.one (.aL t i j k es (.at_ x y)),ans,[])
 | _=>none
def Nq(p:aE):Option Nat:=
 match p.leaf with
 | some (.ptr id 0)=>some id
 | _=>none
def LX(p:aE):Option D:=
 match p.leaf with
 | some (.gZ ds 0)=>some (.ptr ds)
 | some (.v x)=>if x.oneCell' then some (.v x) else none
 | _=>none
def BP(st:aD)(fn:Fn)(first captured:List Operand)(ans:List b'):iE:=
 match fn,first with
 | .func g,[]=>
  match (captured.map st.bj).mapM Nq with
  | some ids=>some (.one (.fK g ids),ans,[])
  | none=>
   match (captured.map st.bj).mapM LX with
   | some ds=>some (.one (.fd (.bI g ds)),ans,[])
   | none=>none
 | _,_=>none
theorem Ho{α β:Type}{f:α->Option β}:∀{xs:List α} {ys:List β},xs.mapM f=some ys->ys.length=xs.length/\∀(i:Nat) (y:β),ys[i]?=some y->∃x,xs[i]?=some x/\f x=some y
 | [],ys,h=>by grind
 | x::xs,ys,h=>by
  rw[xa]at h;cases e:f x with
  | none=>simp[e]at h
  | some y=>
   cases e2:xs.mapM f with
   | none=>grind
   | some zs=>
    simp[e,e2]at h;subst h;obtain⟨U,aa⟩:=Ho e2;grind
theorem aiV{P:Program}{fn:Fn}{first captured:Array Operand}
  (aW:cy w0 st a w ω τ) (h:BP st fn first.toList captured.toList ans=some (r,cf,obs)):
  ∃z,(Instr.makeFunc fn (first.map a.eval) (captured.map a.eval)).run P w=.ok z w/\cH (Sat w ω τ) r z:=by
 unfold BP at h;split at h
 ·rename_i g asU;have b7:first=#[]:=by
   grind
  subst b7;refine⟨.func (.func g) #[] (captured.map a.eval),by simp[Instr.makeFunc],?_⟩;have pJ:∀(i:Nat) (x:aE),(captured.toList.map st.bj)[i]?=some x->∃v,(captured.map a.eval)[i]?=some v/\cH (Sat w ω τ) x v:=by
   intro i x ao;rw[dk,b0]at ao;obtain⟨o,a6,rfl⟩:=ao;refine⟨a.eval o,?_,aW.bj o⟩;grind
  split at h
  ·rename_i ids V4;simp only[aT,bq]at h;obtain⟨rfl,_,_⟩:=h;obtain⟨a7,ay⟩:=Ho V4;have hex:∀i,i<ids.length->∃b id,ids[i]?=some id/\(captured.map a.eval)[i]?=some (ptrTo b)/\ω b=.box id:=by
    intro i hi;obtain⟨x,ao,iO⟩:=ay i ids[i] (by simp[hi]);obtain⟨v,br,aj⟩:=pJ i x ao;unfold Nq at iO;split at iO
    ·rename_i id au;simp only[aT]at iO;obtain⟨b,aw,rfl⟩:=aE.dt au aj;exact⟨b,id,by grind,br,aw⟩
    cases iO
   have eL:(captured.map a.eval).size=ids.length:=by grind
   let bs:=(List.range ids.length).map fun i=>(match (captured.map a.eval)[i]? with | some (.pointer (some p))=>p.block | _=>0)
   refine⟨bs,?_,by simp[bs],fun i id hid=>?_⟩
   ·congr 1
    apply Array.ext
    ·grind
    grind[id,aT,ptrTo]
   grind[fB,ptrTo]
  split at h
  ·rename_i ds er;simp only[aT,bq]at h;obtain⟨rfl,_,_⟩:=h;obtain⟨a7,ay⟩:=Ho er;refine bS.bI _ g ds (captured.map a.eval) (fun j=>(captured.map a.eval).getD j undef) (by grind) (fun j d aF=>?_) (fun j d aF=>?_)
   ·obtain⟨x,ao,_⟩:=ay j d aF;obtain⟨v,br,_⟩:=pJ j x ao;rw[br];simp only[eg,br,j5]
   obtain⟨x,ao,iO⟩:=ay j d aF;obtain⟨v,br,aj⟩:=pJ j x ao;have e:(captured.map a.eval).getD j undef=v:=by simp only[eg,br,j5]
   rw[e];unfold LX at iO;split at iO
   ·rename_i qC au;simp only[aT]at iO;subst iO;obtain⟨b,rfl,aI⟩:=aE.dt au aj;exact aI.frame fun b q aw aM=>⟨aM,rfl⟩
   ·rename_i y au;split at iO
    ·rename_i Ws;simp only[aT]at iO;subst iO;have:v=y:=aE.dt au aj;subst this;exact .v _ _ Ws
    cases iO
   cases iO
  cases h
 cases h
def BQ(P:Program)(st:aD)(b:Builtin)(args:List Operand)(ts:List TypeId)(ans:List b'):iE:=
 match b,args,ts with
 | .len,[x],[t]=>Hd P t (st.bj x) ans
 | .min,[x,y],_=>Hm (st.bj x) (st.bj y) ans
 | .max,[x,y],_=>Hn (st.bj x) (st.bj y) ans
 | _,_,_=>none
def oU(P:Program)(st:aD)(op:Op)(ans:List b'):iE:=
 match op with
 | .move x | .assign x=>some (st.bj x,ans,[])
 | .pick c a b=>eN (st.bj c) (st.bj a) (st.bj b) ans
 | .load t x=>BL P st t (st.bj x) ans
 | .nilCheck x=>Of (st.bj x) ans
 | .binOp op t x y _=>HF P op t x y (st.bj x) (st.bj y) ans
 | .unOp op _ x=>Hj op (st.bj x) ans
 | .convert s d x=>Hk P s d (st.bj x) ans
 | .slice t x cP hi hP=>BM P st t (st.bj x) cP hi hP ans
 | .fieldAddr s x f=>Hb P s (st.bj x) f ans
 | .field t x f=>Hi P t (st.bj x) f ans
 | .indexAddr t x i=>Hc P t (st.bj x) (st.bj i) ans
 | .index t x i=>Hl P t (st.bj x) (st.bj i) ans
 | .extract x i=>Hh (st.bj x) i ans
 | .build t parts=>BN P st t parts.toList ans
 | .call ⟨.builtin b,args,ts⟩=>BQ P st b args.toList ts.toList ans
 | .makeFunc fn first captured=>BP st fn first.toList captured.toList ans
 | _=>none
theorem hS{aP:World}{s:Sem Value}{z:Value}(h:s.run P w=.ok z aP):(do pure (.value (<-s)):Sem Next).run P w=.ok (.value z) aP:=by
 simp_all
theorem aiW{b:Builtin}{args:Array Operand}{ts:Array TypeId}{ty:TypeId}{consts:Array Bool}
  (aW:cy w0 st a w ω τ) (h:BQ P st b args.toList ts.toList ans=some (r,cf,obs)):
  ∃z,(builtin b ts ty consts (args.map a.eval)).run P w=.ok (.value z) w/\cH (Sat w ω τ) r z:=by
 obtain⟨args⟩:=args;obtain⟨ts⟩:=ts;unfold BQ at h;split at h
 ·rename_i x t e1 e2;simp only at e1 e2;subst e1 e2;obtain⟨z,U,aa⟩:=aiK (ty:=ty) (aW.bj x) h;refine⟨z,hS (s:=Builtin.len_ #[t] ty (Array.map a.eval #[x])) ?_,aa⟩;grind
 ·rename_i x y e1;simp only at e1;subst e1;obtain⟨z,U,aa⟩:=aiT (P:=P) (ts:=⟨ts⟩) (ty:=ty) (aW.bj x) (aW.bj y) h;refine⟨z,hS (s:=Builtin.min_ ⟨ts⟩ ty (Array.map a.eval #[x,y])) ?_,aa⟩;grind
 ·rename_i x y e1;simp only at e1;subst e1;obtain⟨z,U,aa⟩:=aiU (P:=P) (ts:=⟨ts⟩) (ty:=ty) (aW.bj x) (aW.bj y) h;refine⟨z,hS (s:=Builtin.max_ ⟨ts⟩ ty (Array.map a.eval #[x,y])) ?_,aa⟩;grind
 cases h
theorem Hp{o:Oper}
  (aW:cy w0 st a w ω τ) (h:oU P st o.op ans=some (r,cf,obs)) (a6:cv obs):
  ∃z,(execOp a.eval o).run P w=.ok (.value z) w/\cH (Sat w ω τ) r z:=by
 obtain⟨dst,op,type,pos,after,guard⟩:=o;simp only at h;unfold oU at h;split at h
 ·rename_i x;simp only[aT,bq]at h;obtain⟨rfl,_,_⟩:=h;exact⟨a.eval x,rfl,aW.bj x⟩
 ·rename_i x;simp only[aT,bq]at h;obtain⟨rfl,_,_⟩:=h;exact⟨a.eval x,rfl,aW.bj x⟩
 ·rename_i c x y;exact aiQ (aW.bj c) (aW.bj x) (aW.bj y) h a6
 ·rename_i t x;obtain⟨z,U,aa⟩:=aiJ aW (aW.bj x) h a6;exact⟨z,hS U,aa⟩
 ·rename_i x;unfold Of at h;split at h
  ·rename_i id off e;simp only[aT,bq]at h;obtain⟨rfl,_,_⟩:=h;have aj:=aE.dt e (aW.bj x);obtain⟨b,aw,ao⟩:=aj;exact⟨_,by simp_all[execOp],b,aw,rfl⟩
  ·rename_i t k es i j e;simp only[aT,bq]at h;obtain⟨rfl,_,_⟩:=h;have aj:=aE.dt e (aW.bj x);have c5:=aj;obtain⟨b,off,cap,ao,U⟩:=aj;refine⟨_,by simp only[execOp,ao];rfl,?_⟩;rw[<-ao];exact c5
  ·rename_i ds off e;simp only[aT,bq]at h;obtain⟨rfl,_,_⟩:=h;have aj:=aE.dt e (aW.bj x);have c5:=aj;obtain⟨b,ao,U⟩:=aj;refine⟨_,by simp only[execOp,ao];rfl,?_⟩;rw[<-ao];exact c5
  ·rename_i t i j k es arI LI e;simp only[aT,bq]at h;obtain⟨rfl,_,_⟩:=h;have aj:=aE.dt e (aW.bj x);have c5:=aj;obtain⟨gg,⟨b,off,cap,_,ao,_⟩,_⟩:=aj;refine⟨_,by simp only[execOp,ao];rfl,?_⟩;rw[<-ao];exact c5
  cases h
 ·rename_i Xm t x y pi;obtain⟨z,U,aa⟩:=aja (aW.bj x) (aW.bj y) h a6;exact⟨z,hS U,aa⟩
 ·rename_i Xm t x;obtain⟨z,U,aa⟩:=aiP (aW.bj x) h a6;exact⟨z,hS U,aa⟩
 ·rename_i s d x;obtain⟨z,U,aa⟩:=aiR (aW.bj x) h a6;exact⟨z,hS U,aa⟩
 ·rename_i t x cP hi hP;obtain⟨z,U,aa⟩:=aiL aW (aW.bj x) h a6;exact⟨z,hS U,aa⟩
 ·rename_i s x f;obtain⟨z,U,aa⟩:=ajb (aW.bj x) h;exact⟨z,hS U,aa⟩
 ·rename_i t x f;obtain⟨z,U,aa⟩:=aiO (aW.bj x) h;exact⟨z,hS U,aa⟩
 ·rename_i t x i;obtain⟨z,U,aa⟩:=aiH (aW.bj x) (aW.bj i) h a6;exact⟨z,hS U,aa⟩
 ·rename_i t x i;obtain⟨z,U,aa⟩:=aiS (aW.bj x) (aW.bj i) h a6;exact⟨z,hS U,aa⟩
 ·rename_i x i;obtain⟨z,U,aa⟩:=aiN (P:=P) (aW.bj x) h;exact⟨z,hS U,aa⟩
 ·rename_i t parts;obtain⟨z,U,aa⟩:=aiM aW h;exact⟨z,hS U,aa⟩
 ·rename_i b args ts;obtain⟨z,U,aa⟩:=aiW (ty:=type) (consts:=args.map fun | .const _=>true | _=>false) aW h;grind[execOp,resolve,Sem.run_bind,Sem.run_pure,Result.andThen_ok,invoke]
 ·rename_i fn first captured
  obtain⟨z,U,aa⟩:=aiV (P:=P) aW h;exact⟨z,hS U,aa⟩
 cases h
