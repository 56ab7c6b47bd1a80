import Derived.WalkKit
import Derived.WalkSpells
import Derived.WalkLawsBesides
import Derived.KernelRfl
set_option linter.unusedVariables false
set_option linter.unusedSimpArgs false
namespace Go.Sx
open Go.RowKit
universe u v w x
theorem ad:True:=⟨⟩
theorem aX:type_of% @Option.some.injEq.{u}:=@Option.some.injEq.{u}
theorem cp:type_of% @List.length_map.{u,v}:=@List.length_map.{u,v}
theorem b5:type_of% @Option.map_eq_some_iff.{u,v}:=@Option.map_eq_some_iff.{u,v}
theorem bH:type_of% @Prod.mk.injEq.{u,v}:=@Prod.mk.injEq.{u,v}
theorem cR:type_of% @Bool.eq_false_or_eq_true:=@Bool.eq_false_or_eq_true
theorem l4:type_of% @decide_eq_false_iff_not:=@decide_eq_false_iff_not
theorem ff:type_of% @List.mem_cons_of_mem.{u}:=@List.mem_cons_of_mem.{u}
theorem ej:type_of% @List.length_nil.{u}:=@List.length_nil.{u}
theorem cc:type_of% @decide_eq_true_eq:=@decide_eq_true_eq
theorem b9:type_of% @Bool.and_eq_true:=@Bool.and_eq_true
theorem gh:type_of% @List.getElem?_eq_some_iff.{u}:=@List.getElem?_eq_some_iff.{u}
theorem eW:type_of% @Array.getD_eq_getD_getElem?.{u}:=@Array.getD_eq_getD_getElem?.{u}
theorem fN:type_of% @List.mem_cons_self.{u}:=@List.mem_cons_self.{u}
theorem iN:type_of% @List.length_set.{u}:=@List.length_set.{u}
theorem bq:type_of% @if_neg.{u}:=@if_neg.{u}
theorem bh:type_of% @if_pos.{u}:=@if_pos.{u}
theorem fO:type_of% @List.length_cons.{u}:=@List.length_cons.{u}
theorem eg:type_of% @List.getElem?_map.{u,v}:=@List.getElem?_map.{u,v}
theorem p7:type_of% @decide_eq_false:=@decide_eq_false
theorem jA:type_of% @List.getElem?_eq_getElem.{u}:=@List.getElem?_eq_getElem.{u}
theorem dV:type_of% @Nat.zero_add:=@Nat.zero_add
theorem f':type_of% @List.mem_of_getElem?.{u}:=@List.mem_of_getElem?.{u}
theorem gX:type_of% @Option.some.inj.{u}:=@Option.some.inj.{u}
theorem fw:type_of% @Bool.or_eq_false_iff:=@Bool.or_eq_false_iff
theorem kt:type_of% @Array.getElem?_eq_some_iff.{u}:=@Array.getElem?_eq_some_iff.{u}
theorem lY:type_of% @List.getElem?_drop.{u}:=@List.getElem?_drop.{u}
theorem iA:type_of% @Nat.mul_le_mul_right:=@Nat.mul_le_mul_right
theorem h6:type_of% @List.take_length.{u}:=@List.take_length.{u}
theorem nL:type_of% @Array.getElem?_eq_getElem.{u}:=@Array.getElem?_eq_getElem.{u}
theorem iL:type_of% @beq_iff_eq.{u}:=@beq_iff_eq.{u}
theorem kK:type_of% @List.getElem?_take.{u}:=@List.getElem?_take.{u}
theorem aBZ:type_of% @List.cons.inj.{u}:=@List.cons.inj.{u}
theorem mT:type_of% @Array.getElem?_toList.{u}:=@Array.getElem?_toList.{u}
theorem gE:type_of% @List.mem_append_left.{u}:=@List.mem_append_left.{u}
theorem hP:type_of% @List.mem_append_right.{u}:=@List.mem_append_right.{u}
theorem kr:type_of% @Array.getElem?_append.{u}:=@Array.getElem?_append.{u}
theorem dQ:type_of% @List.mem_cons.{u}:=@List.mem_cons.{u}
theorem gP:type_of% @List.all_eq_true.{u}:=@List.all_eq_true.{u}
theorem lZ:type_of% @List.getD_eq_getElem?_getD.{u}:=@List.getD_eq_getElem?_getD.{u}
theorem fl:type_of% @Nat.le_refl:=@Nat.le_refl
theorem fm:type_of% @List.any_eq_false.{u}:=@List.any_eq_false.{u}
theorem u5:type_of% @Bool.eq_false_iff:=@Bool.eq_false_iff
theorem hQ:type_of% @Nat.add_mul:=@Nat.add_mul
theorem gQ:type_of% @Bool.not_eq_true':=@Bool.not_eq_true'
theorem qS:type_of% @List.getElem?_append.{u}:=@List.getElem?_append.{u}
theorem gF:type_of% @List.map_append.{u,v}:=@List.map_append.{u,v}
theorem l0:type_of% @Option.getD_some.{u}:=@Option.getD_some.{u}
theorem l1:type_of% @List.map_congr_left.{u,v}:=@List.map_congr_left.{u,v}
theorem jf:type_of% @Bool.not_eq_false':=@Bool.not_eq_false'
theorem p1:type_of% @List.getElem?_toArray.{u}:=@List.getElem?_toArray.{u}
theorem jg:type_of% @Bool.not_true:=@Bool.not_true
theorem gR:type_of% @List.append_nil.{u}:=@List.append_nil.{u}
theorem lH:type_of% @List.length_append.{u}:=@List.length_append.{u}
theorem p2:type_of% @List.size_toArray.{u}:=@List.size_toArray.{u}
theorem o3:type_of% @List.getElem?_set.{u}:=@List.getElem?_set.{u}
theorem mU:type_of% @Int.toNat_natCast:=@Int.toNat_natCast
theorem p3:type_of% @List.getElem?_cons_succ.{u}:=@List.getElem?_cons_succ.{u}
theorem mV:type_of% @List.getElem?_cons_zero.{u}:=@List.getElem?_cons_zero.{u}
theorem nM:type_of% @Option.bind_eq_some_iff.{u,v}:=@Option.bind_eq_some_iff.{u,v}
theorem u6:type_of% @List.findIdx?_eq_some_iff_getElem.{u}:=@List.findIdx?_eq_some_iff_getElem.{u}
theorem sh:type_of% @Option.isSome_iff_exists.{u}:=@Option.isSome_iff_exists.{u}
theorem p4:type_of% @List.mem_iff_getElem?.{u}:=@List.mem_iff_getElem?.{u}
theorem jz:type_of% @Bool.false_or:=@Bool.false_or
theorem qT:type_of% @List.set_set.{u}:=@List.set_set.{u}
theorem qU:type_of% @Option.bind_some.{u,v}:=@Option.bind_some.{u,v}
theorem oh:type_of% @Bool.false_eq_true:=@Bool.false_eq_true
theorem o4:type_of% @decide_eq_true:=@decide_eq_true
theorem Br:type_of% @Int.le_trans:=@Int.le_trans
theorem l2:type_of% @List.mem_flatMap.{u,v}:=@List.mem_flatMap.{u,v}
theorem EY:type_of% @List.getElem?_append_right.{u}:=@List.getElem?_append_right.{u}
theorem l3:type_of% @List.length_filter_le.{u}:=@List.length_filter_le.{u}
theorem ks:type_of% @List.map_set.{u,v}:=@List.map_set.{u,v}
theorem iM:type_of% @List.map_cons.{u,v}:=@List.map_cons.{u,v}
theorem si:type_of% @Option.map_some.{u,v}:=@Option.map_some.{u,v}
theorem p5:type_of% @List.getElem_mem.{u}:=@List.getElem_mem.{u}
theorem u7:type_of% @List.length_take.{u}:=@List.length_take.{u}
theorem gg:type_of% @List.mem_append.{u}:=@List.mem_append.{u}
theorem o5:type_of% @List.append_assoc.{u}:=@List.append_assoc.{u}
theorem fU:type_of% @if_true.{u}:=@if_true.{u}
theorem o6:type_of% @Bool.not_false:=@Bool.not_false
theorem u9:type_of% @Array.size_append.{u}:=@Array.size_append.{u}
theorem p6:type_of% @List.take_add_one.{u}:=@List.take_add_one.{u}
theorem iB:type_of% @List.mem_or_eq_of_mem_set.{u}:=@List.mem_or_eq_of_mem_set.{u}
theorem EZ:type_of% @List.getElem?_append_left.{u}:=@List.getElem?_append_left.{u}
theorem tB:type_of% @List.mem_of_mem_take.{u}:=@List.mem_of_mem_take.{u}
theorem oi:type_of% @Bool.or_eq_true:=@Bool.or_eq_true
theorem o7:type_of% @Nat.add_zero:=@Nat.add_zero
theorem wV:type_of% @List.take_of_length_le.{u}:=@List.take_of_length_le.{u}
theorem lb:type_of% @Bool.true_and:=@Bool.true_and
theorem fV:type_of% @List.mem_map.{u,v}:=@List.mem_map.{u,v}
theorem wW:type_of% @List.mem_of_mem_drop.{u}:=@List.mem_of_mem_drop.{u}
theorem E0:type_of% @List.getElem?_replicate.{u}:=@List.getElem?_replicate.{u}
theorem qV:type_of% @Nat.lt_or_ge:=@Nat.lt_or_ge
theorem Bs:type_of% @beq_eq_false_iff_ne.{u}:=@beq_eq_false_iff_ne.{u}
theorem tC:type_of% @List.cons.injEq.{u}:=@List.cons.injEq.{u}
theorem Ju:type_of% @List.findIdx?_eq_none_iff.{u}:=@List.findIdx?_eq_none_iff.{u}
theorem wX:type_of% @Bool.not_eq_true:=@Bool.not_eq_true
theorem qW:type_of% @List.not_mem_nil.{u}:=@List.not_mem_nil.{u}
theorem u':type_of% @List.eq_nil_of_length_eq_zero.{u}:=@List.eq_nil_of_length_eq_zero.{u}
theorem abY:type_of% @List.take_append_of_le_length.{u}:=@List.take_append_of_le_length.{u}
theorem Ro:type_of% @Array.length_toList.{u}:=@Array.length_toList.{u}
theorem wY:type_of% @beq_self_eq_true.{u}:=@beq_self_eq_true.{u}
theorem Bt:type_of% @Nat.lt_of_lt_of_le:=@Nat.lt_of_lt_of_le
theorem Jv:type_of% @Option.isSome_eq_false_iff.{u}:=@Option.isSome_eq_false_iff.{u}
theorem E1:type_of% @List.take_append_drop.{u}:=@List.take_append_drop.{u}
theorem lc:type_of% @ne_eq.{u}:=@ne_eq.{u}
theorem Jw:type_of% @Option.isNone_iff_eq_none.{u}:=@Option.isNone_iff_eq_none.{u}
theorem mW:type_of% @Nat.le_trans:=@Nat.le_trans
theorem tD:type_of% @List.map_id.{u}:=@List.map_id.{u}
theorem E2:type_of% @List.any_cons.{u}:=@List.any_cons.{u}
theorem Bu:type_of% @List.mapM_cons.{u,v,w}:=@List.mapM_cons.{u,v,w}
theorem mr:type_of% @if_false.{u}:=@if_false.{u}
theorem oj:type_of% @List.any_eq_true.{u}:=@List.any_eq_true.{u}
theorem va:type_of% @List.drop_zero.{u}:=@List.drop_zero.{u}
theorem aD5:type_of% @Int.natCast_zero:=@Int.natCast_zero
theorem Bv:type_of% @List.flatMap_nil.{u,v}:=@List.flatMap_nil.{u,v}
theorem Jx:type_of% @Array.getElem?_eq_none.{u}:=@Array.getElem?_eq_none.{u}
theorem aB0:type_of% @Array.getElem?_map.{u,v}:=@Array.getElem?_map.{u,v}
theorem yY:type_of% @Option.toList_some.{u}:=@Option.toList_some.{u}
theorem yZ:type_of% @List.range_zero:=@List.range_zero
theorem tE:type_of% @List.map_take.{u,v}:=@List.map_take.{u,v}
theorem tF:type_of% @Bool.and_true:=@Bool.and_true
theorem wZ:type_of% @List.length_range:=@List.length_range
theorem Jy:type_of% @Nat.mod_eq_of_lt:=@Nat.mod_eq_of_lt
theorem E3:type_of% @Nat.add_assoc:=@Nat.add_assoc
theorem sj:type_of% @List.sum_cons.{u}:=@List.sum_cons.{u}
inductive D where
 | v (x:Value)
 | J (k:Nat) (es:List (List D))
 | ptr (ds:List D)
 | cl (g:FuncId) (bl:List D)
inductive dp where
 | bJ
 | box (id:Nat)
 | tok (t:Nat) (q:List (Nat×Nat))
abbrev Own:=Nat->dp
def dd(es:List (List D))(i j:Nat):Option D:=(es[i]?).bind (·[j]?)
inductive bZ (w:World) (ω:Own):(List (Nat×Nat)->dp->Prop)->D->Value->Prop
 | v (R:List (Nat×Nat)->dp->Prop) (x:Value) (h1:x.oneCell'=true):bZ w ω R (.v x) x
 | nil (R:List (Nat×Nat)->dp->Prop) (k:Nat) (a:Option Addr):bZ w ω R (.J k []) (.slice a 0 0)
 | row (R:List (Nat×Nat)->dp->Prop) (k:Nat) (es:List (List D)) (b off cap:Nat) (arr:Array Value) (ty:TypeId) (cM:Nat×Nat) (us:Nat->Nat->Value)
   (aq:w.heap[b]?=some (.cells arr ty cM)) (ef:R [] (ω b)) (al:es.length<=cap) (ai:off+cap*k<=arr.size) (hk:∀e∈es,e.length=k)
   (hu:∀i j d,dd es i j=some d->arr[off+i*k+j]?=some (us i j))
   (aF:∀i j d,dd es i j=some d->bZ w ω (fun q=>R ((i,j)::q)) d (us i j)):
   bZ w ω R (.J k es) (.slice (some ⟨b,off,none⟩) es.length cap)
 | ptr (R:List (Nat×Nat)->dp->Prop) (ds:List D) (b:Nat) (arr:Array Value) (ty:TypeId) (cM:Nat×Nat) (us:Nat->Value)
   (aq:w.heap[b]?=some (.cells arr ty cM)) (ef:R [] (ω b)) (ai:arr.size=ds.length)
   (hu:∀j d,ds[j]?=some d->arr[j]?=some (us j)) (aF:∀j d,ds[j]?=some d->bZ w ω (fun q=>R ((0,j)::q)) d (us j)):
   bZ w ω R (.ptr ds) (.pointer (some ⟨b,0,none⟩))
 | cl (R:List (Nat×Nat)->dp->Prop) (g:FuncId) (bl:List D) (cs:Array Value) (us:Nat->Value) (ai:cs.size=bl.length)
   (hu:∀j d,bl[j]?=some d->cs[j]?=some (us j)) (aF:∀j d,bl[j]?=some d->bZ w ω (fun q=>R ((0,j)::q)) d (us j)):
   bZ w ω R (.cl g bl) (.func (.func g) #[] cs)
variable{w aM:World}{ω:Own}
theorem bZ.frame{bc:Own}{R:List (Nat×Nat)->dp->Prop}{d:D}{v:Value}(h:bZ w ω R d v):
  ∀{jF:List (Nat×Nat)->dp->Prop},(∀b q,b<w.heap.size->R q (ω b)->jF q (bc b)/\aM.heap[b]?=w.heap[b]?)->bZ aM bc jF d v:=by
 induction h with
 | v R x h1=>intro jF _;exact .v jF x h1
 | nil R k a=>intro jF _;exact .nil jF k a
 | row R k es b off cap arr ty cM us aq ef al ai hk hu aF dL=>
  intro jF br;have bM:b<w.heap.size:=by
   rcases qV b w.heap.size with h | h
   ·exact h
   simp[Jx h]at aq
  obtain⟨h1,U⟩:=br b [] bM ef;exact .row jF k es b off cap arr ty cM us (U.trans aq) h1 al ai hk hu (fun i j d eK=>dL i j d eK (fun b q aj aC=>br b ((i,j)::q) aj aC))
 | ptr R ds b arr ty cM us aq ef ai hu aF dL=>
  intro jF br;have bM:b<w.heap.size:=by
   rcases qV b w.heap.size with h | h
   ·exact h
   simp[Jx h]at aq
  obtain⟨h1,U⟩:=br b [] bM ef;exact .ptr jF ds b arr ty cM us (U.trans aq) h1 ai hu (fun j d eK=>dL j d eK (fun b q aj aC=>br b ((0,j)::q) aj aC))
 | cl R g bl cs us ai hu aF dL=>
  intro jF br;exact .cl jF g bl cs us ai hu (fun j d eK=>dL j d eK (fun b q aj aC=>br b ((0,j)::q) aj aC))
inductive Tag where
 | free
 | own (t:Nat)
 | ro (t:Nat)
def Tag.R:Tag->List (Nat×Nat)->dp->Prop
 | .free,_,o=>o=.bJ
 | .own t,q,o=>o=.tok t q
 | .ro t,_,o=>o=.bJ\/∃q,o=.tok t q
def Tag.ev(τ:Nat->Nat×Value):Tag->Nat×Value->Prop
 | .own t,y=>τ t=y
 | _,_=>True
def dj:Nat:=1000000000
inductive fg where
 | cu
 | v (x:Value)
 | J (t:Tag) (k:Nat) (es:List (List D))
inductive w6 where
 | here
 | mZ
 | at_ (x y:Nat)
def w6.rel(k n:Nat):w6->Value->Value->Prop
 | .at_ x y,u,v=>∃b off cap,u=.slice (some ⟨b,off,none⟩) n cap/\v=.pointer (some ⟨b,off+x*k+y,none⟩)/\x<n
 | _,u,v=>v=u
def w6.home:w6->Bool
 | .mZ=>false
 | _=>true
inductive aG where
 | cu
 | v (x:Value)
 | bR (c:Bool)
 | J (t:Tag) (k:Nat) (es:List (List D))
 | ptr (id off:Nat)
 | ep (t:Tag) (k:Nat) (es:List (List D)) (i j:Nat)
 | jd (ds:List D) (off:Nat)
 | fd (d:D)
 | hr (g:FuncId) (ids:List Nat)
 | aS (t i j k:Nat) (es:List (List D)) (m:w6)
 | fr (t:Nat) (vs:List fg)
 | e5 (t k:Nat) (es:List (List D))
def ptrTo(b:Nat):Value:=.pointer (some ⟨b,0,none⟩)
def sl(w:World)(ω:Own)(τ:Nat->Nat×Value):fg->Value->Prop
 | .cu,_=>True
 | .v x,y=>y=x
 | .J t k es,y=>bZ w ω t.R (.J k es) y/\t.ev τ (k,y)
def wl(w:World)(ω:Own)(τ:Nat->Nat×Value)(t i j:Nat)(u:Value):Prop:=
 ∃(kT b off len cap:Nat) (arr:Array Value) (ty:TypeId) (cM:Nat×Nat),τ t=(kT,.slice (some ⟨b,off,none⟩) len cap)/\ω b=.tok t []/\w.heap[b]?=some (.cells arr ty cM)/\arr[off+i*kT+j]?=some u
def Sat(w:World)(ω:Own)(τ:Nat->Nat×Value):aG->Value->Prop
 | .cu,_=>True
 | .v x,y=>y=x
 | .bR c,y=>y=.bool c
 | .J t k es,y=>bZ w ω t.R (.J k es) y/\t.ev τ (k,y)
 | .ptr id off,y=>∃b,ω b=.box id/\y=.pointer (some ⟨b,off,none⟩)
 | .ep t k es i j,y=>∃b off cap,y=.pointer (some ⟨b,off+i*k+j,none⟩)/\i<es.length/\
   bZ w ω t.R (.J k es) (.slice (some ⟨b,off,none⟩) es.length cap)/\t.ev τ (k,.slice (some ⟨b,off,none⟩) es.length cap)
 | .jd ds off,y=>∃b,y=.pointer (some ⟨b,off,none⟩)/\bZ w ω Tag.free.R (.ptr ds) (ptrTo b)
 | .fd d,y=>bZ w ω Tag.free.R d y
 | .hr g ids,y=>∃bs:List Nat,y=.func (.func g) #[] (bs.map ptrTo).toArray/\bs.length=ids.length/\∀(i:Nat) (id:Nat),ids[i]?=some id->∃b,bs[i]?=some b/\ω b=.box id
 | .e5 t k es,y=>bZ w ω Tag.free.R (.J k es) y/\(dj<=t->τ t=(k,y))
 | .aS t i j k es m,y=>∃u,m.rel k es.length u y/\bZ w ω (fun q o=>o=.tok t ((i,j)::q)) (.J k es) u/\(m.home=true->wl w ω τ t i j u)
 | .fr t vs,y=>∃(b:Nat) (ty:TypeId) (arr:Array Value),y=ptrTo b/\ω b=.tok t []/\w.heap[b]?=some (.cells arr ty (0,0))/\arr.size=vs.length/\∀(j:Nat) (c:fg),vs[j]?=some c->∃u,arr[j]?=some u/\sl w ω τ c u
inductive bm where
 | one (l:aG)
 | agg (ls:List aG)
inductive aH where
 | aR (a:bm)
 | gB (as:List bm)
abbrev aH.one(l:aG):aH:=.aR (.one l)
abbrev aH.agg(ls:List aG):aH:=.aR (.agg ls)
abbrev aH.cu:aH:=.aR (.one .cu)
def lm(S:aG->Value->Prop)(ls:List aG)(vs:Array Value):Prop:=
 vs.size=ls.length/\∀(i:Nat) (l:aG),ls[i]?=some l->∃u,vs[i]?=some u/\S l u
def ll(S:aG->Value->Prop):bm->Value->Prop
 | .one l,y=>S l y
 | .agg ls,y=>∃vs,y=.agg vs/\lm S ls vs
def cT(S:aG->Value->Prop):aH->Value->Prop
 | .aR a,y=>ll S a y
 | .gB as,y=>∃vs:Array Value,y=.tuple vs/\vs.size=as.length/\∀(i:Nat) (a:bm),as[i]?=some a->∃u,vs[i]?=some u/\ll S a u
structure aD where
 env:List aH
 boxes:List (Nat×List aG)
def dI(id:Nat):List (Nat×List aG)->Option (List aG)
 | []=>none
 | (i,ls)::r=>if i=id then some ls else dI id r
def bm.map(f:aG->aG):bm->bm
 | .one l=>.one (f l)
 | .agg ls=>.agg (ls.map f)
def aH.map(f:aG->aG):aH->aH
 | .aR a=>.aR (a.map f)
 | .gB as=>.gB (as.map (bm.map f))
def aD.map(f:aG->aG)(s:aD):aD:=⟨s.env.map (aH.map f),s.boxes.map fun x=>(x.1,x.2.map f)⟩
variable{S:aG->Value->Prop}
theorem lm.map{lJ:aG->Value->Prop}{f:aG->aG}(h:∀l v,S l v->lJ (f l) v){ls:List aG}{vs:Array Value}(ai:lm S ls vs):lm lJ (ls.map f) vs:=by
 refine⟨by simpa using ai.1,fun i l aj=>?_⟩;rw[eg,b5]at aj;obtain⟨fR,bE,rfl⟩:=aj;obtain⟨u,h1,U⟩:=ai.2 i fR bE;exact⟨u,h1,h _ _ U⟩
theorem ll.map{lJ:aG->Value->Prop}{f:aG->aG}(h:∀l v,S l v->lJ (f l) v):∀{a:bm} {y:Value},ll S a y->ll lJ (a.map f) y
 | .one l,y,ai=>h _ _ ai
 | .agg ls,y,⟨vs,e,ai⟩=>⟨vs,e,ai.map h⟩
theorem cT.map{lJ:aG->Value->Prop}{f:aG->aG}(h:∀l v,S l v->lJ (f l) v):∀{p:aH} {y:Value},cT S p y->cT lJ (p.map f) y
 | .aR a,y,ai=>show ll lJ (a.map f) y from ll.map h (show ll S a y from ai)
 | .gB as,y,⟨vs,e,aP,ai⟩=>⟨vs,e,by simpa using aP,fun i a ae=>by
   rw[eg,b5]at ae;obtain⟨a0,bE,rfl⟩:=ae;obtain⟨u,h1,U⟩:=ai i a0 bE;exact⟨u,h1,ll.map h U⟩⟩
theorem uM(f:aG->aG)(id:Nat):∀bs:List (Nat×List aG),dI id (bs.map fun x=>(x.1,x.2.map f))=(dI id bs).map (·.map f)
 | []=>rfl
 | (i,ls)::r=>by
  simp only[iM,dI];split
  ·rfl
  exact uM f id r
structure eN where
 w:World
 G:Nat->Prop
 H:Nat->Nat×Value
def eN.Gn(B:eN)(b:Nat):Prop:=B.w.heap.size<=b\/B.G b
def Mg:Bool:=true
structure hq (n:Nat) (w aM:World):Prop where
 below:Below n w aM
 drawn:Mg=true->w.drawn<=aM.drawn
variable{n:Nat}
theorem hq.size(h:hq n w aM):w.heap.size<=aM.heap.size:=h.below.size
theorem hq.block(h:hq n w aM):∀k,k<n->aM.heap[k]?=w.heap[k]?:=h.below.block
theorem hq.refl(n:Nat)(w:World):hq n w w:=⟨Below.refl _ _,fun _=>fl _⟩
theorem hq.drew(h:hq n w aM):hq n w aM.drew:=⟨h.below.drew,fun ai=>Nat.le_succ_of_le (h.drawn ai)⟩
theorem hq.alloc(h:hq n w aM)(aP:n<=aM.heap.size)(o:Obj):hq n w (aM.alloc o):=⟨h.below.alloc aP o,h.drawn⟩
def Eg:List (Nat×List Int):=[]
def q0(w:World):Prop:=∀x∈Eg,∃ty cM,w.heap[x.1]?=some (.cells (x.2.map (Value.int .u64)).toArray ty cM)
theorem q0.lt(h:q0 w){x:Nat×List Int}(aa:x∈Eg):x.1<w.heap.size:=by
 obtain⟨ty,cM,e⟩:=h x aa;rcases qV x.1 w.heap.size with h | h
 ·exact h
 simp[Jx h]at e
def Tidy(w:World)(ω:Own):Prop:=q0 w/\∀x∈Eg,ω x.1=.bJ
structure ho (B:eN) (w:World):Prop where
 os:w.os=B.w.os
 tape:w.tape=B.w.tape
 output:w.output=B.w.output
 size:B.w.heap.size<=w.heap.size
 block:∀k,k<B.w.heap.size->¬B.G k->w.heap[k]?=B.w.heap[k]?
 drawn:Mg=true->B.w.drawn<=w.drawn
 laid:q0 w
 free:∀x∈Go.Sx.Eg,¬B.Gn x.1
theorem q0.next(h:q0 w)(k:hq w.heap.size w aM):q0 aM:=fun x aa=>by
 rw[k.below.block x.1 (h.lt aa)];exact h x aa
theorem ho.next{B:eN}(h:ho B w)(k:hq w.heap.size w aM):ho B aM:=
 ⟨k.below.os.trans h.os,k.below.tape.trans h.tape,k.below.output.trans h.output,mW h.size k.below.size,fun i hi ar=>(k.below.block i (Bt hi h.size)).trans (h.block i hi ar),fun ai=>mW (h.drawn ai) (k.drawn ai),h.laid.next k,h.free⟩
def eN.of(w:World):eN:=⟨w,fun _=>False,fun _=>(0,undef)⟩
theorem ho.refl(B:eN)(h:q0 B.w)(ar:∀x∈Eg,¬B.G x.1):ho B B.w:=⟨rfl,rfl,rfl,fl _,fun _ _ _=>rfl,fun _=>fl _,h,fun x aa hm=>by
 rcases hm with hm | hm
 ·exact absurd (h.lt aa) (by omega)
 exact ar x aa hm⟩
theorem ho.start{H:Nat->Nat×Value}(h:Tidy w ω):ho ⟨w,fun b=>ω b≠.bJ,H⟩ w:=ho.refl ⟨w,fun b=>ω b≠.bJ,H⟩ h.1 fun x aa hm=>hm (h.2 x aa)
theorem ho.below(h:ho (eN.of w) aM):hq w.heap.size w aM:=⟨⟨h.os,h.tape,h.output,h.size,fun k hk=>h.block k hk (fun h=>h)⟩,h.drawn⟩
theorem ho.setRow{B:eN}(h:ho B w){b:Nat}(aq:B.Gn b)(arr:Array Value):ho B (w.setRow b arr):=
 ⟨h.os,h.tape,h.output,by simpa using h.size,fun k hk ar=>by
  have:k≠b:=by
   rintro rfl;rcases aq with aq | aq
   ·omega
   exact ar aq
  rw[setRow_other w b k arr this];exact h.block k hk ar,h.drawn,fun x aa=>by
  have:x.1≠b:=fun e=>h.free x aa (e▸aq)
  rw[setRow_other w b x.1 arr this];exact h.laid x aa,h.free⟩
def o8(w0:eN)(w:World)(ω:Own):Prop:=∀b,ω b≠.bJ->w0.Gn b/\∃arr ty,w.heap[b]?=some (.cells arr ty (0,0))
def vb(w:World)(ω:Own)(τ:Nat->Nat×Value)(id:Nat)(ls:List aG):Prop:=
 ∃b arr ty,ω b=.box id/\(∀dA,ω dA=.box id->dA=b)/\w.heap[b]?=some (.cells arr ty (0,0))/\lm (Sat w ω τ) ls arr
structure cD (w0:eN) (st:aD) (a:Act) (w:World) (ω:Own) (τ:Nat->Nat×Value):Prop where
 defers:a.defers=[]
 size:a.tmps.size=st.env.length
 below:ho w0 w
 owned:o8 w0 w ω
 fixed:∀t,dj<=t->τ t=w0.H t
 pinned:∀id b,dj<=id->ω b=.box id->(w0.H id).1=b
 env:∀(i:Nat) (p:aH),st.env[i]?=some p->∃v,a.tmps[i]?=some v/\cT (Sat w ω τ) p v
 boxes:∀id ls,dI id st.boxes=some ls->vb w ω τ id ls
def Rel(w0:eN)(st:aD)(a:Act)(w:World):Prop:=∃ω τ,cD w0 st a w ω τ
structure w3 (B:eN) (w:World):Prop where
 os:w.os=B.w.os
 tape:w.tape=B.w.tape
 output:w.output=B.w.output
 size:B.w.heap.size<=w.heap.size
 block:∀k,k<B.w.heap.size->¬B.G k->w.heap[k]?=B.w.heap[k]?
 drawn:Mg=true->B.w.drawn<=w.drawn
theorem w3.full{H:Nat->Nat×Value}(h:w3 ⟨w,fun b=>ω b≠.bJ,H⟩ aM)(bG:Tidy w ω):ho ⟨w,fun b=>ω b≠.bJ,H⟩ aM:=
 ⟨h.os,h.tape,h.output,h.size,h.block,h.drawn,fun x aa=>by
  rw[h.block x.1 (bG.1.lt aa) fun aP=>aP (bG.2 x aa)];exact bG.1 x aa,(ho.start (H:=H) bG).free⟩
variable{w0:eN}
theorem cD.tidy{st:aD}{a:Act}{bc:Own}{τ:Nat->Nat×Value}(h:cD w0 st a w ω τ)(dr:∀b,ω b=.bJ->bc b=.bJ):Tidy w bc:=
 ⟨h.below.laid,fun x aa=>dr _ (Classical.byContradiction fun aP=>h.below.free x aa (h.owned _ aP).1)⟩
theorem o8.lt(h:o8 w0 w ω){b:Nat}(aq:ω b≠.bJ):b<w.heap.size:=by
 obtain⟨_,arr,ty,e⟩:=h b aq;rcases qV b w.heap.size with h | h
 ·exact h
 simp[Jx h]at e
theorem o8.fresh(h:o8 w0 w ω){b:Nat}(aq:w.heap.size<=b):ω b=.bJ:=by
 cases e:ω b with
 | bJ=>rfl
 | box id=>have:=h.lt (b:=b) (by simp[e]);omega
 | tok t q=>have:=h.lt (b:=b) (by simp[e]);omega
end Go.Sx
namespace Go.Sx
open Go.RowKit
def fg.cG(g:Tag->Option Tag):fg->fg
 | .J t k es=>match g t with | some du=>.J du k es | none=>.cu
 | c=>c
def aG.cG(g:Tag->Option Tag)(p:Nat->Bool):aG->aG
 | .J t k es=>match g t with | some du=>.J du k es | none=>.cu
 | .ep t k es i j=>match g t with | some du=>.ep du k es i j | none=>.cu
 | .ptr id off=>if p id then .ptr id off else .cu
 | .hr f ids=>if ids.all p then .hr f ids else .cu
 | .aS t i j k es m=>match g (.own t) with | some (.own du)=>if du=t then .aS t i j k es m else .cu | _=>.cu
 | .fr t vs=>match g (.own t) with | some (.own du)=>if du=t then .fr t (vs.map (fg.cG g)) else .cu | _=>.cu
 | l=>l
structure mY (w:World) (ω:Own) (τ:Nat->Nat×Value) (aM:World) (bc:Own) (cZ:Nat->Nat×Value) (g:Tag->Option Tag) (p:Nat->Bool):Prop where
 rep:∀t du b q,g t=some du->b<w.heap.size->t.R q (ω b)->du.R q (bc b)/\aM.heap[b]?=w.heap[b]?
 ev:∀t du y,g t=some du->t.ev τ y->du.ev cZ y
 box:∀id b,p id=true->ω b=.box id->bc b=.box id
 free:g .free=some .free
 fix:∀t,dj<=t->cZ t=τ t
variable{w aM:World}{ω bc:Own}{τ cZ:Nat->Nat×Value}{g:Tag->Option Tag}
theorem GK(h:∀c u,sl w ω τ c u->sl aM bc cZ (fg.cG g c) u){arr:Array Value}{vs:List fg}
  (aP:arr.size=vs.length) (bD:∀(j:Nat) (c:fg),vs[j]?=some c->∃u,arr[j]?=some u/\sl w ω τ c u):
  arr.size=(vs.map (fg.cG g)).length/\∀(j:Nat) (c:fg),(vs.map (fg.cG g))[j]?=some c->∃u,arr[j]?=some u/\sl aM bc cZ c u:=by
 refine⟨by simpa using aP,fun j c al=>?_⟩;rw[eg,b5]at al;obtain⟨de,bE,rfl⟩:=al;obtain⟨u,h1,U⟩:=bD j de bE;exact⟨u,h1,h de u U⟩
theorem mY.nX{p:Nat->Bool}(h:mY w ω τ aM bc cZ g p)(c:fg)(u:Value)(ai:sl w ω τ c u):sl aM bc cZ (fg.cG g c) u:=by
 cases c with
 | cu=>exact trivial
 | v x=>exact ai
 | J t k es=>
  simp only[fg.cG];cases ar:g t with
  | none=>exact trivial
  | some du=>exact⟨ai.1.frame fun b q aq aC=>h.rep t du b q ar aq aC,h.ev t du _ ar ai.2⟩
theorem mY.sat{g:Tag->Option Tag}{p:Nat->Bool}(h:mY w ω τ aM bc cZ g p):
  ∀(l:aG) (v:Value),Sat w ω τ l v->Sat aM bc cZ (l.cG g p) v:=by
 intro l v ai;cases l with
 | cu=>exact trivial
 | v x=>exact ai
 | bR c=>exact ai
 | J t k es=>
  simp only[aG.cG];cases ar:g t with
  | none=>exact trivial
  | some du=>exact⟨ai.1.frame fun b q aq aC=>h.rep t du b q ar aq aC,h.ev t du _ ar ai.2⟩
 | ptr id off=>
  simp only[aG.cG];split
  ·obtain⟨b,aq,e⟩:=ai;exact⟨b,h.box id b ‹_› aq,e⟩
  exact trivial
 | hr f ids=>
  simp only[aG.cG];split
  ·rename_i hp;obtain⟨bs,e,aP,hi⟩:=ai;refine⟨bs,e,aP,fun i id hD=>?_⟩;obtain⟨b,h1,U⟩:=hi i id hD;exact⟨b,h1,h.box id b (gP.1 hp id (f' hD)) U⟩
  exact trivial
 | jd ds off=>
  obtain⟨b,e,aB⟩:=ai;exact⟨b,e,aB.frame fun b q aq aC=>h.rep .free .free b q h.free aq aC⟩
 | fd d=>exact bZ.frame ai fun b q aq aC=>h.rep .free .free b q h.free aq aC
 | e5 t k es=>exact⟨ai.1.frame fun b q aq aC=>h.rep .free .free b q h.free aq aC,fun bG=>(h.fix t bG).trans (ai.2 bG)⟩
 | aS t i j k es m=>
  simp only[aG.cG];split
  ·rename_i du ar;split
   ·rename_i bG;subst bG;obtain⟨u,hu,h1,hm⟩:=ai;refine⟨u,hu,h1.frame fun c q al aC=>h.rep _ _ c _ ar al aC,fun bK=>?_⟩;obtain⟨kT,b,off,len,cap,arr,ty,cM,U,a',aA,aI⟩:=hm bK;have bM:b<w.heap.size:=(kt.1 aA).1;have hk:=h.rep _ _ b [] ar bM a';exact⟨kT,b,off,len,cap,arr,ty,cM,h.ev _ _ _ ar U,hk.1,hk.2.trans aA,aI⟩
   exact trivial
  exact trivial
 | fr t vs=>
  simp only[aG.cG];split
  ·rename_i du ar;split
   ·rename_i bG;subst bG;obtain⟨b,ty,arr,e,a',aA,aP,bD⟩:=ai;have bM:b<w.heap.size:=(kt.1 aA).1;have hk:=h.rep _ _ b [] ar bM a';exact⟨b,ty,arr,e,hk.1,hk.2.trans aA,GK (h.nX) aP bD⟩
   exact trivial
  exact trivial
 | ep t k es i j=>
  simp only[aG.cG];cases ar:g t with
  | none=>exact trivial
  | some du=>
   obtain⟨b,off,cap,e,hi,aB,bK⟩:=ai;exact⟨b,off,cap,e,hi,aB.frame fun b q aq aC=>h.rep t du b q ar aq aC,h.ev t du _ ar bK⟩
variable{a:Act}
theorem acz{d:Nat}{v:Value}{i:Nat}:(a.put (some d) v).tmps[i]?=if d=i/\i<a.tmps.size then some v else a.tmps[i]?:=by
 simp only[Act.put,Array.getElem?_setIfInBounds];by_cases h:d=i
 ·subst h;by_cases U:d<a.tmps.size
  ·simp[U]
  simp[U]
 simp[h]
variable{w0:eN}{st:aD}
theorem cD.put(h:cD w0 st a w ω τ){d:Nat}{p:aH}{v:Value}(ai:cT (Sat w ω τ) p v):
  cD w0 ⟨st.env.set d p,st.boxes⟩ (a.put (some d) v) w ω τ where
 defers:=h.defers
 size:=by simp[Act.put,h.size]
 below:=h.below
 owned:=h.owned
 fixed:=h.fixed
 pinned:=h.pinned
 boxes:=h.boxes
 env:=by
  intro i q aC;rw[o3]at aC;rw[acz];by_cases aF:d=i
  ·subst aF;simp only[fU]at aC;split at aC
   ·rename_i bM;have e:=gX aC;subst e;exact⟨v,by rw[bh ⟨rfl,by rw[h.size];exact bM⟩],ai⟩
   cases aC
  rw[bq aF]at aC;rw[bq (by simp[aF])];exact h.env i q aC
theorem cD.JY{p:Nat->Bool}
  (h:cD w0 st a w ω τ) (e:mY w ω τ aM bc cZ g p) (sw:ho w0 aM) (rA:o8 w0 aM bc) {bs:List (Nat×List aG)}
  (tZ:∀id ls,dI id bs=some ls->vb aM bc cZ id ls) (xr:∀id b,dj<=id->bc b=.box id->ω b=.box id) (vA:∀t,dj<=t->cZ t=τ t:=by intros;rfl):cD w0 ⟨st.env.map (aH.map (aG.cG g p)),bs⟩ a aM bc cZ where
 defers:=h.defers
 size:=by simp[h.size]
 below:=sw
 owned:=rA
 fixed:=fun t bG=>(vA t bG).trans (h.fixed t bG)
 pinned:=fun id b hi aq=>h.pinned id b hi (xr id b hi aq)
 boxes:=tZ
 env:=by
  intro i q aC;rw[eg,b5]at aC;obtain⟨gJ,bE,rfl⟩:=aC;obtain⟨v,h1,U⟩:=h.env i gJ bE;exact⟨v,h1,cT.map e.sat U⟩
theorem oX(w:World)(o:Obj):(w.alloc o).heap[w.heap.size]?=some o:=by
 show (w.heap.push o)[_]?=_;simp
theorem xF(w:World)(o:Obj){i:Nat}(h:i<w.heap.size):(w.alloc o).heap[i]?=w.heap[i]?:=Below.heap_alloc w o i h
def qM(id:Nat):List (Nat×List aG)->List (Nat×List aG)
 | []=>[]
 | (i,ls)::r=>if i=id then qM id r else (i,ls)::qM id r
theorem Mh(id:Nat):∀bs,dI id (qM id bs)=none
 | []=>rfl
 | (i,ls)::r=>by
  simp only[qM];split
  ·exact Mh id r
  simp only[dI];rw[bq ‹_›];exact Mh id r
theorem Az{id iV:Nat}(h:iV≠id):∀bs,dI iV (qM id bs)=dI iV bs
 | []=>rfl
 | (i,ls)::r=>by
  simp only[qM,dI];by_cases h1:i=id
  ·rw[bh h1,bq (by omega)];exact Az h r
  rw[bq h1];simp only[dI];split
  ·rfl
  exact Az h r
def sQ:Tag->Option Tag:=some
def kD(id:Nat):Nat->Bool:=fun i=>decide (i≠id)
def aD.vJ(st:aD)(id:Nat)(ls:List aG):aD:=
 let f:=aG.cG sQ (kD id)
 ⟨st.env.map (aH.map f),(id,ls.map f)::(qM id st.boxes).map fun x=>(x.1,x.2.map f)⟩
theorem cD.vJ(h:cD w0 st a w ω τ)(id:Nat)(hD:id<dj){ls:List aG}{arr:Array Value}(ty:TypeId)
  (ai:lm (Sat w ω τ) ls arr):
  ∃bc,cD w0 (st.vJ id ls) a (w.alloc (.cells arr ty)) bc τ/\bc w.heap.size=.box id:=by
 let bc:Own:=fun b=>if b=w.heap.size then .box id else match ω b with | .box i=>if i=id then .bJ else .box i | o=>o
 have hx:bc w.heap.size=.box id:=by simp[bc]
 have hold:∀b,b<w.heap.size->bc b=(match ω b with | .box i=>if i=id then .bJ else .box i | o=>o):=by
  intro b aq;simp only[bc];rw[bq (by omega)]
 have jK:∀b,b≠w.heap.size->bc b=(match ω b with | .box i=>if i=id then .bJ else .box i | o=>o):=by
  intro b aq;simp only[bc];rw[bq aq]
 have bp:mY w ω τ (w.alloc (.cells arr ty)) bc τ sQ (kD id):=by
  refine⟨?_,?_,?_,rfl,fun _ _=>rfl⟩
  ·intro t du b q ar aq aC;simp only[sQ,aX]at ar;subst ar;refine⟨?_,xF _ _ aq⟩;rw[hold b aq];cases t with
   | free=>simp only[Tag.R]at aC ⊢;rw[aC]
   | own s=>simp only[Tag.R]at aC ⊢;rw[aC]
   | ro s=>
    simp only[Tag.R]at aC ⊢;rcases aC with aC | ⟨ee,aC⟩
    ·rw[aC];exact .inl rfl
    rw[aC];exact .inr ⟨ee,rfl⟩
  ·intro t du y ar bk;simp only[sQ,aX]at ar;subst ar;exact bk
  intro i b hp aq;have bM:=h.owned.lt (b:=b) (by simp[aq]);rw[hold b bM,aq];simp only[kD,cc]at hp;simp[hp]
 have sw:ho w0 (w.alloc (.cells arr ty)):=h.below.next ((hq.refl _ _).alloc (fl _) _);have rA:o8 w0 (w.alloc (.cells arr ty)) bc:=by
  intro b aq;by_cases aP:b=w.heap.size
  ·subst aP;exact⟨.inl h.below.size,arr,ty,oX _ _⟩
  rw[jK b aP]at aq;have U:ω b≠.bJ:=by intro e;rw[e]at aq;exact aq rfl
  obtain⟨aA,cg,sd,e⟩:=h.owned b U;exact⟨aA,cg,sd,(xF _ _ (h.owned.lt U)).trans e⟩
 refine⟨bc,?_,hx⟩;refine h.JY bp sw rA ?_ (fun i b hi aq=>?_)
 case refine_2=>
  by_cases aP:b=w.heap.size
  ·subst aP;rw[hx]at aq;simp only[dp.box.injEq]at aq;omega
  rw[jK b aP]at aq;cases e:ω b with
  | bJ=>simp[e]at aq
  | tok t q=>simp[e]at aq
  | box j=>
   simp only[e]at aq;split at aq
   ·cases aq
   exact aq
 intro i fJ aj;simp only[dI]at aj;split at aj
 ·rename_i hi;subst hi;have e:=gX aj;subst e;refine⟨w.heap.size,arr,ty,hx,?_,oX _ _,ai.map bp.sat⟩;intro dA er;by_cases aP:dA=w.heap.size
  ·exact aP
  rw[jK dA aP]at er;cases e:ω dA with
  | bJ=>simp[e]at er
  | tok t q=>simp[e]at er
  | box j=>
   simp only[e]at er;split at er
   ·cases er
   rename_i cU;simp only[dp.box.injEq]at er;exact absurd er cU
 rename_i hi;rw[uM,b5]at aj;obtain⟨kh,bE,rfl⟩:=aj;have cU:i≠id:=fun e=>hi e.symm
 rw[Az cU]at bE;obtain⟨b,cg,sd,aq,hu,bK,eT⟩:=h.boxes i kh bE;have bM:=h.owned.lt (b:=b) (by simp[aq]);refine⟨b,cg,sd,bp.box i b (by simp[kD,cU]) aq,?_,(xF _ _ bM).trans bK,eT.map bp.sat⟩;intro dA er;by_cases aP:dA=w.heap.size
 ·subst aP;rw[hx]at er;simp only[dp.box.injEq]at er;exact absurd er.symm cU
 rw[jK dA aP]at er;refine hu dA ?_;cases e:ω dA with
 | bJ=>simp[e]at er
 | tok t q=>simp[e]at er
 | box j=>
  simp only[e]at er;split at er
  ·cases er
  exact er
end Go.Sx
namespace Go.Sx
open Go.RowKit
inductive cL where
 | one (d:D)
 | agg (ds:List D)
inductive bi where
 | vals (rs:List cL)
 | iZ (src:List (Option Nat)) (ds:List D)
abbrev bi.new (ds : List D) : bi := .iZ [] ds
inductive hA where
 | normal
 | exit (id:Nat)
 | ret
inductive cb where
 | own
 | sub
 | sa (xD:List (List (Option (Option (List (List D)))))) (src:Nat) (ds:List D) (rs:List cL)
 | res (rs:List cL)
 | e3 (xD:List (Option (List D))) (r:bi)
 | loop (Gp:List (Nat×Nat×Nat)) (eU boxes:List Nat) (e:hA) (st:aD)
 | qa (b:Bool)
 | el (ds:List D)
 | wr
 | eq (c:Bool)
 | num (n:Int)
 | pF (p:aH)
 | pZ (st:aD)
def c8:List Prop->Prop
 | []=>True
 | p::r=>p/\c8 r
theorem c8.append:∀{a b:List Prop},c8 (a++b)->c8 a/\c8 b
 | [],_,h=>⟨ad,h⟩
 | _::_,_,h=>⟨⟨h.1,(c8.append h.2).1⟩,(c8.append h.2).2⟩
abbrev kN:=Option (aH×List cb×List Prop)
def Fs:Value->aH
 | .agg cs=>.agg (cs.toList.map .v)
 | v=>.one (.v v)
def aD.bp(st:aD):Operand->aH
 | .tmp t=>st.env.getD t .cu
 | .const v=>Fs v
 | .func f=>.one (.fd (.cl f []))
 | _=>.cu
theorem aw4(w:World)(ω:Own)(τ:Nat->Nat×Value)(v:Value):cT (Sat w ω τ) (Fs v) v:=by
 unfold Fs;split
 ·rename_i cs;refine⟨cs,rfl,by simp,fun i l aj=>?_⟩;rw[eg,b5]at aj;obtain⟨u,hu,rfl⟩:=aj;exact⟨u,by simpa using hu,rfl⟩
 exact rfl
variable{w:World}{ω:Own}{τ:Nat->Nat×Value}
theorem cD.bp{w0:eN}{st:aD}{a:Act}(h:cD w0 st a w ω τ)(x:Operand):cT (Sat w ω τ) (st.bp x) (a.eval x):=by
 cases x with
 | tmp t=>
  simp only[aD.bp,Act.eval];cases e:st.env[t]? with
  | none=>
   rw[lZ,e];exact trivial
  | some p=>
   obtain⟨v,bD,ai⟩:=h.env t p e;rw[lZ,e];simpa[eW,bD]using ai
 | const v=>exact aw4 w ω τ v
 | global g=>exact trivial
 | func f=>exact bZ.cl _ f [] #[] (fun _=>undef) rfl (fun j d aF=>by simp at aF) (fun j d aF=>by simp at aF)
def aG.val:aG->Option Value
 | .v x=>some x
 | .bR c=>some (.bool c)
 | _=>none
variable{y:Value}
theorem aG.Z7{l:aG}{x:Value}(h:l.val=some x)(ai:Sat w ω τ l y):y=x:=by
 cases l<;>simp[aG.val]at h
 ·subst h;exact ai
 subst h;exact ai
def aH.leaf:aH->Option aG
 | .aR (.one l)=>some l
 | _=>none
theorem aH.dX{S:aG->Value->Prop}{p:aH}{l:aG}(h:p.leaf=some l)(ai:cT S p y):S l y:=by
 cases p with
 | gB as=>cases h
 | aR a=>
  cases a with
  | agg ls=>cases h
  | one hb=>simp only[aH.leaf,aX]at h;subst h;exact ai
def aH.int(p:aH):Option (IntKind×Int):=
 match p.leaf with
 | some (.v (.int k n))=>some (k,n)
 | _=>none
variable{p:aH}{k:IntKind}
theorem aH.px{n:Int}(h:p.int=some (k,n))(ai:cT (Sat w ω τ) p y):y=.int k n:=by
 unfold aH.int at h;split at h
 ·rename_i cf aeS e;simp only[aX,bH]at h;obtain⟨rfl,rfl⟩:=h;exact aH.dX e ai
 cases h
def aH.vals:aH->Option (List Value)
 | .aR (.agg ls)=>ls.mapM aG.val
 | _=>none
theorem Tv{w:World}{ω:Own}{τ:Nat->Nat×Value}:∀{ls:List aG} {xs:List Value},ls.mapM aG.val=some xs->∀{vs:List Value},vs.length=ls.length->(∀(i:Nat) (l:aG),ls[i]?=some l->∃u,vs[i]?=some u/\Sat w ω τ l u)->vs=xs
 | [],xs,h,vs,aP,_=>by
  simp at h;subst h;exact u' aP
 | l::ls,xs,h,vs,aP,ai=>by
  rw[Bu]at h;cases e:l.val with
  | none=>simp[e]at h
  | some x=>
   cases e2:ls.mapM aG.val with
   | none=>simp[e,e2]at h
   | some ys=>
    simp[e,e2]at h;subst h;cases vs with
    | nil=>simp at aP
    | cons v vs=>
     obtain⟨u,hu,eT⟩:=ai 0 l rfl;simp at hu;subst hu;rw[aG.Z7 e eT]
     congr 1
     exact Tv e2 (by simpa using aP) (fun i hb aj=>by have:=ai (i+1) hb (by simpa using aj);simpa using this)
theorem aH.aBz{xs:List Value}(h:p.vals=some xs)(ai:cT (Sat w ω τ) p y):y=.agg xs.toArray:=by
 cases p with
 | gB as=>cases h
 | aR a=>
  cases a with
  | one l=>cases h
  | agg ls=>
   obtain⟨vs,rfl,aP,bD⟩:=ai;have:=Tv (w:=w) (ω:=ω) (τ:=τ) h (vs:=vs.toList) (by simpa using aP) (fun i l aj=>by obtain⟨u,h1,U⟩:=bD i l aj;exact⟨u,by simpa using h1,U⟩);rw[<-this]
def aJ(k:IntKind)(e:Int):Prop:=
 match k with
 | .i64=>-9223372036854775808<=e/\e<=9223372036854775807
 | k=>k.wrap e=e
theorem aJ.wrap{e:Int}(h:aJ k e):k.wrap e=e:=by
 cases k<;>first | exact h | (simp only[aJ]at h;rw[IntKind.wrap_i64];omega)
def arith(k:IntKind)(e:Int)(ans:List cb):kN:=
 match ans with
 | .wr::r=>some (.one (.v (.int k (k.wrap e))),r,[])
 | _=>some (.one (.v (.int k e)),ans,[aJ k e])
variable{ans cq:List cb}{obs:List Prop}
theorem AA{e:Int}(h:arith k e ans=some (p,cq,obs))(aW:c8 obs):cT (Sat w ω τ) p (.int k (k.wrap e)):=by
 unfold arith at h;split at h
 ·simp only[aX,bH]at h;obtain⟨rfl,_,_⟩:=h;exact rfl
 simp only[aX,bH]at h;obtain⟨rfl,_,rfl⟩:=h;rw[aW.1.wrap];exact rfl
def nx(P:Program)(op:BinOp)(t:TypeId)(x y:Operand)(u v c:Value):Prop:=
 ∀w:World,((do eqGuard op t x y u v;binOp op t u v:Sem Value)).run P w=.ok c w
def Mi(op:BinOp)(k:IntKind)(x y:Int)(ans:List cb):kN:=
 match op with
 | .add=>arith k (x+y) ans
 | .sub=>arith k (x-y) ans
 | .mul=>arith k (x*y) ans
 | .quo=>(arith k (x.tdiv y) ans).map fun r=>(r.1,r.2.1,(y≠0)::r.2.2)
 | .rem=>some (.one (.v (.int k (x.tmod y))),ans,[y≠0])
 | .eql=>some (.one (.bR (x==y)),ans,[])
 | .neq=>some (.one (.bR (x != y)),ans,[])
 | .lss=>some (.one (.bR (decide (x<y))),ans,[])
 | .leq=>some (.one (.bR (decide (x<=y))),ans,[])
 | .gtr=>some (.one (.bR (decide (x>y))),ans,[])
 | .geq=>some (.one (.bR (decide (x>=y))),ans,[])
 | _=>none
variable{P:Program}{op:BinOp}
theorem aw5{x y:Int}(t:TypeId)(ae2 ae3:Operand)
  (h:Mi op k x y ans=some (p,cq,obs)) (aW:c8 obs):
  ∃v,((do eqGuard op t ae2 ae3 (.int k x) (.int k y);binOp op t (.int k x) (.int k y):Sem Value)).run P w=.ok v w/\cT (Sat w ω τ) p v:=by
 rw[eqGuard_at_int];simp only[Sem.run_bind,Sem.run_pure,Result.andThen_ok];cases op<;>simp only[Mi,aX,bH,reduceCtorEq]at h
 case add=>exact⟨_,by rw[binOp_add];rfl,AA h aW⟩
 case sub=>exact⟨_,by rw[binOp_sub];rfl,AA h aW⟩
 case mul=>exact⟨_,by rw[binOp_mul];rfl,AA h aW⟩
 case quo=>
  rw[b5]at h;obtain⟨⟨rM,cJ,rJ⟩,h1,U⟩:=h;simp only[bH]at U;obtain⟨rfl,rfl,rfl⟩:=U;refine⟨_,?_,AA h1 aW.2⟩;rw[binOp_quo];simp[Op.intDiv,aW.1]
 case rem=>
  obtain⟨rfl,_,rfl⟩:=h;refine⟨_,?_,rfl⟩;rw[binOp_rem];simp[Op.intDiv,aW.1]
 case eql=>obtain⟨rfl,_,rfl⟩:=h;exact⟨_,by rw[binOp_eql];rfl,rfl⟩
 case neq=>obtain⟨rfl,_,rfl⟩:=h;exact⟨_,by rw[binOp_neq];rfl,rfl⟩
 case lss=>obtain⟨rfl,_,rfl⟩:=h;exact⟨_,by rw[binOp_lss];rfl,rfl⟩
 case leq=>obtain⟨rfl,_,rfl⟩:=h;exact⟨_,by rw[binOp_leq];rfl,rfl⟩
 case gtr=>obtain⟨rfl,_,rfl⟩:=h;exact⟨_,by rw[binOp_gtr];rfl,rfl⟩
 case geq=>obtain⟨rfl,_,rfl⟩:=h;exact⟨_,by rw[binOp_geq];rfl,rfl⟩
def aH.value(p:aH):Option Value:=
 match p with
 | .aR (.one l)=>l.val
 | p=>p.vals.map fun xs=>.agg xs.toArray
theorem aH.Bo{x:Value}(h:p.value=some x)(ai:cT (Sat w ω τ) p y):y=x:=by
 unfold aH.value at h;split at h
 ·exact aG.Z7 h ai
 rw[b5]at h;obtain⟨xs,h1,rfl⟩:=h;exact aH.aBz h1 ai
def xG(P:Program)(t:TypeId):Option Bool:=
 match P.underlying t with
 | some (.struct _) | some (.array _ _)=>some true
 | some _=>some false
 | none=>none
variable{t:TypeId}
theorem AB{b:Bool}(h:xG P t=some b)(w:World):(isAgg t).run P w=.ok b w:=by
 unfold xG at h;unfold isAgg;split at h
 ·rename_i hu;simp only[aX]at h;subst h;simp[run_underlying hu]
 ·rename_i hu;simp only[aX]at h;subst h;simp[run_underlying hu]
 ·rename_i d h1 U hu;simp only[aX]at h;subst h;rw[Sem.run_bind,run_underlying hu];cases d<;>first | rfl | (exact absurd rfl (h1 _)) | (exact absurd rfl (U _ _))
 cases h
def Gu(P:Program)(t:TypeId)(cs:Array Value)(off:Nat):Option Value:=
 match xG P t,P.info? t with
 | some true,some i=>some (.agg (cs.extract off (off+i.size)))
 | some false,_=>cs[off]?
 | _,_=>none
variable{v:Value}
theorem Tw{cs:Array Value}{off:Nat}(h:Gu P t cs off=some v)(w:World):(part t cs off).run P w=.ok v w:=by
 unfold Gu at h;split at h
 ·rename_i i e1 e2;simp only[aX]at h;subst h;simp[part,AB e1,sizeOf,typeInfo,e2]
 ·rename_i e1;simp[part,AB e1,h]
 cases h
def BG(P:Program)(f:TypeId->Value->Value->Option Bool)(xs ys:Array Value):List Field->Option Bool
 | []=>some true
 | fd::r=>
  if fd.name = "_" then none else
  match Gu P fd.type xs fd.offset,Gu P fd.type ys fd.offset with
  | some a,some b=>
   match f fd.type a b with
   | some c=>
    match r with
    | []=>some c
    | r=>(BG P f xs ys r).map fun kS=>c&&kS
   | none=>none
  | _,_=>none
def zc(P:Program):Nat->TypeId->Value->Value->Option Bool
 | 0,_,_,_=>none
 | m+1,t,x,y=>
  match P.underlying t,x,y with
  | some .bool,.bool a,.bool b=>some (a==b)
  | some (.int _),.int k a,.int cf b=>if k=cf then some (a==b) else none
  | some .string,.string a,.string b=>some (a.toList==b.toList)
  | some (.struct eI),.agg xs,.agg ys=>if P.stoodInHeld t then none else BG P (zc P m) xs ys eI.toList
  | _,_,_=>none
theorem Tx{d:Nat}{f:TypeId->Value->Value->Option Bool}(br:∀t x y c,f t x y=some c->∀w,(Op.equalIn d t x y).run P w=.ok c w){xs ys:Array Value}:
  ∀{eI:List Field} {c:Bool},BG P f xs ys eI=some c->∀w,(Op.eqFields d xs ys eI).run P w=.ok c w
 | [],c,h,w=>by simp only[BG,aX]at h;subst h;simp[Op.eqFields]
 | fd::r,c,h,w=>by
  simp only[BG]at h;split at h
  ·cases h
  rename_i aP;split at h
  ·rename_i a b e1 e2;split at h
   ·rename_i c1 cx;simp only [Op.eqFields, bh (show fd.name ≠ "_" from aP), Sem.run_bind, Tw e1, Tw e2, Result.andThen_ok, br _ _ _ _ cx, Sem.run_ite];split at h
    ·simp only[aX]at h;subst h;cases c1<;>simp[Op.eqFields]
    ·rw[b5]at h;obtain⟨c2,h1,rfl⟩:=h;have:=Tx br h1 w;cases c1<;>simp[this]
   cases h
  cases h
theorem Ty:∀{m:Nat} {t:TypeId} {x y:Value} {c:Bool},zc P m t x y=some c->∀(d:Nat) (w:World),(Op.equalIn (d+m) t x y).run P w=.ok c w
 | 0,_,_,_,_,h,_,_=>by cases h
 | m+1,t,x,y,c,h,d,w=>by
  rw[show d+(m+1)=(d+m)+1 from rfl];simp only[zc]at h;split at h
  ·rename_i a b e;simp only[aX]at h;subst h;exact run_equalIn_bool w _ t a b e
  ·rename_i cf k a bt b e;split at h
   ·rename_i hk;subst hk;simp only[aX]at h;subst h;exact run_equalIn_int w _ t k cf a b e
   cases h
  ·rename_i a b e;simp only[aX]at h;subst h;exact run_equalIn_string w _ t a b e
  ·rename_i eI xs ys e;split at h
   ·cases h
   rename_i ai;have Sd:P.fieldsOf t=eI:=by simp[Program.fieldsOf,e]
   rw[run_equalIn_struct w _ t xs ys (by rw[Sd];exact e) (by simpa using ai),Sd];exact Tx (fun t x y c h w=>Ty h d w) h w
  cases h
def JW(P:Program)(op:BinOp)(t:TypeId)(u v:Value):Option Bool:=
 match op,u,v with
 | .eql,.agg xs,.agg ys=>if P.eqGuardType P.depth t then none else zc P 20 t (.agg xs) (.agg ys)
 | .neq,.agg xs,.agg ys=>if P.eqGuardType P.depth t then none else (zc P 20 t (.agg xs) (.agg ys)).map fun c=>!c
 | .eql,.bool a,.bool b=>match P.underlying t with | some .bool=>some (a==b) | _=>none
 | .neq,.bool a,.bool b=>match P.underlying t with | some .bool=>some (!(a==b)) | _=>none
 | .eql,.string a,.string b=>match P.underlying t with | some .string=>some (a.toList==b.toList) | _=>none
 | .neq,.string a,.string b=>match P.underlying t with | some .string=>some (!(a.toList==b.toList)) | _=>none
 | _,_,_=>none
theorem aw6{x y:Operand}{u:Value}{c:Bool}(h:JW P op t u v=some c):nx P op t x y u v (.bool c):=by
 intro w;have fp:∀{x y:Value} {c:Bool},zc P 20 t x y=some c->(Op.equalIn 10000 t x y).run P w=.ok c w:=fun h=>Ty h 9980 w
 unfold JW at h;split at h
 ·rename_i xs ys;split at h
  ·cases h
  rename_i ar;simp[run_eqGuard_agg w .eql t x y xs ys (by simpa using ar),run_eql_struct,fp h]
 ·rename_i xs ys;split at h
  ·cases h
  rename_i ar;rw[b5]at h;obtain⟨kS,h1,rfl⟩:=h;simp[run_eqGuard_agg w .neq t x y xs ys (by simpa using ar),run_neq_struct,fp h1]
 ·rename_i a b;split at h
  ·rename_i e;simp only[aX]at h;subst h;simp[eqGuard,binOp,run_equal_bool w t a b e]
  cases h
 ·rename_i a b;split at h
  ·rename_i e;simp only[aX]at h;subst h;simp[eqGuard,binOp,run_equal_bool w t a b e]
  cases h
 ·rename_i a b;split at h
  ·simp only[aX]at h;subst h;simp[eqGuard,binOp,Op.stringOp,beq_toListBytes]
  cases h
 ·rename_i a b;split at h
  ·simp only[aX]at h;subst h;simp[eqGuard,binOp,Op.stringOp,beq_toListBytes]
  cases h
 cases h
def Mj(P:Program)(op:BinOp)(t:TypeId)(x y:Operand)(p q:aH)(ans:List cb):kN:=
 match p.int,q.int with
 | some (k,a),some (cf,b)=>
  match (if k=cf then Mi op k a b ans else none) with
  | some r=>some r
  | none=>
   match ans with
   | .pF (.aR (.one (.v c)))::r=>some (.one (.v c),r,[nx P op t x y (.int k a) (.int cf b) c])
   | _=>none
 | _,_=>
  match (match p.value,q.value with | some u,some v=>JW P op t u v | _,_=>none) with
  | some c=>some (.one (.bR c),ans,[])
  | none=>
  match p.value,q.value,ans with
  | some u,some v,.eq c::r=>some (.one (.bR c),r,[nx P op t x y u v (.bool c)])
  | some u,some v,.pF (.aR (.one (.v c)))::r=>some (.one (.v c),r,[nx P op t x y u v c])
  | _,_,_=>none
theorem aw7{x y:Operand}{q r:aH}{u:Value}
  (hp:cT (Sat w ω τ) p u) (aC:cT (Sat w ω τ) q v) (h:Mj P op t x y p q ans=some (r,cq,obs)) (aW:c8 obs):
  ∃z,((do eqGuard op t x y u v;binOp op t u v:Sem Value)).run P w=.ok z w/\cT (Sat w ω τ) r z:=by
 unfold Mj at h;split at h
 ·rename_i k a cf b e1 e2;rw[aH.px e1 hp,aH.px e2 aC];split at h
  ·rename_i ob cx;simp only[aX]at h;subst h;split at cx
   ·rename_i hk;subst hk;exact aw5 t x y cx aW
   cases cx
  split at h
  ·rename_i c ob _;simp only[aX,bH]at h;obtain⟨rfl,_,rfl⟩:=h;exact⟨_,aW.1 w,rfl⟩
  cases h
 split at h
 ·rename_i c cd;simp only[aX,bH]at h;obtain⟨rfl,_,_⟩:=h;split at cd
  ·rename_i u2 la e1 e2;rw[aH.Bo e1 hp,aH.Bo e2 aC];exact⟨_,aw6 cd w,rfl⟩
  cases cd
 split at h
 ·rename_i u2 la c ob e1 e2;simp only[aX,bH]at h;obtain⟨rfl,_,rfl⟩:=h;rw[aH.Bo e1 hp,aH.Bo e2 aC];exact⟨_,aW.1 w,rfl⟩
 ·rename_i u2 la c ob e1 e2;simp only[aX,bH]at h;obtain⟨rfl,_,rfl⟩:=h;rw[aH.Bo e1 hp,aH.Bo e2 aC];exact⟨_,aW.1 w,rfl⟩
 cases h
end Go.Sx
namespace Go.Sx
open Go.RowKit
def Tag.II:Tag->Tag
 | .free=>.free
 | .own t=>.ro t
 | .ro t=>.ro t
theorem Tag.Qf{t:Tag}{q ee:List (Nat×Nat)}{o:dp}(h:t.R q o):t.II.R ee o:=by
 cases t with
 | free=>exact h
 | own s=>exact .inr ⟨q,h⟩
 | ro s=>exact h
variable{τ:Nat->Nat×Value}
theorem Tag.Qg{t:Tag}{y:Nat×Value}:t.II.ev τ y:=by cases t<;>exact trivial
def D.leaf(t:Tag):D->aG
 | .v (.bool c)=>.bR c
 | .v x=>.v x
 | .J k es=>.J t.II k es
 | .ptr ds=>match t with | .free=>.jd ds 0 | _=>.cu
 | .cl g bl=>match t with | .free=>.fd (.cl g bl) | _=>.cu
variable{w:World}{ω:Own}
theorem D.dX{τ:Nat->Nat×Value}{t:Tag}{p:Nat×Nat}{d:D}{u:Value}(h:bZ w ω (fun q=>t.R (p::q)) d u):Sat w ω τ (d.leaf t) u:=by
 cases d with
 | v x=>
  have e:u=x:=by cases h;rfl
  subst e;unfold D.leaf;split
  ·rename_i h;cases h;exact rfl
  ·rename_i h;cases h;exact rfl
  ·grind
  ·grind
  grind
 | J k es=>exact⟨h.frame fun b q aq aC=>⟨Tag.Qf aC,rfl⟩,Tag.Qg⟩
 | ptr ds=>
  cases t with
  | free=>
   have U:bZ w ω Tag.free.R (.ptr ds) u:=h;have aA:=U;cases aA with
   | ptr R ds b arr ty cM us aq ef ai hu aF=>exact⟨b,rfl,U⟩
  | own s=>exact trivial
  | ro s=>exact trivial
 | cl g bl=>
  cases t with
  | free=>exact h
  | own s=>exact trivial
  | ro s=>exact trivial
def D.S1(t i j:Nat):D->aG
 | .J k es=>.aS t i j k es .here
 | d=>d.leaf (.own t)
def wm(t i:Nat):Nat->List D->List aG
 | _,[]=>[]
 | j,d::ds=>d.S1 t i j::wm t i (j+1) ds
theorem Tz(t i:Nat):∀(ds:List D) (j x:Nat),(wm t i j ds)[x]?=(ds[x]?).map (D.S1 t i (j+x))
 | [],_,_=>by simp[wm]
 | d::ds,j,0=>by simp[wm]
 | d::ds,j,x+1=>by
  simp only[wm,p3,Tz t i ds (j+1) x];rw[show j+1+x=j+(x+1) by omega]
theorem TA(t i:Nat):∀(ds:List D) (j:Nat),(wm t i j ds).length=ds.length
 | [],_=>rfl
 | d::ds,j=>by simp[wm,TA t i ds (j+1)]
def Mk(P:Program)(s:TypeId)(f:Nat):Option Nat:=
 match P.underlying s with
 | some (.struct eI)=>
  match eI[f]? with
  | some fd=>
   match P.info? fd.type with
   | some i=>if i.size=0 then none else some fd.offset
   | none=>none
  | none=>none
 | _=>none
theorem rO(b off n:Nat):(⟨b,off,none⟩:Addr).add n=⟨b,off+n,none⟩:=by
 simp_all[Addr.add]
variable{P:Program}{off:Nat}
theorem GL{s:TypeId}{f:Nat}(h:Mk P s f=some off)(w:World)(b o:Nat):
  (Instr.fieldAt s (.pointer (some ⟨b,o,none⟩)) f).run P w=.ok (.pointer (some ⟨b,o+off,none⟩)) w:=by
 unfold Mk at h;split at h
 ·rename_i eI hu;split at h
  ·rename_i fd br;split at h
   ·rename_i i hi;split at h
    ·cases h
    rename_i aL;simp only[aX]at h;subst h;simp[Instr.fieldAt,run_underlying hu,br,Instr.sureAddr,fieldPlace,sizeOf,typeInfo,hi,aL,rO]
   cases h
  cases h
 cases h
def Ml(P:Program)(s:TypeId)(p:aH)(f:Nat)(ans:List cb):kN:=
 match Mk P s f,p.leaf with
 | some off,some (.ptr id o)=>some (.one (.ptr id (o+off)),ans,[])
 | some off,some (.ep t k es i j)=>some (.one (.ep t k es i (j+off)),ans,[])
 | some off,some (.jd ds o)=>some (.one (.jd ds (o+off)),ans,[])
 | some off,some (.aS t i j k es (.at_ x y))=>some (.one (.aS t i j k es (.at_ x (y+off))),ans,[])
 | _,_=>none
variable{p r:aH}{v:Value}{ans cq:List cb}{obs:List Prop}
theorem aw8{s:TypeId}{f:Nat}
  (hp:cT (Sat w ω τ) p v) (h:Ml P s p f ans=some (r,cq,obs)):
  ∃z,(Instr.fieldAt s v f).run P w=.ok z w/\cT (Sat w ω τ) r z:=by
 unfold Ml at h;split at h
 ·rename_i off id o e1 e2;simp only[aX,bH]at h;obtain⟨rfl,_,rfl⟩:=h;obtain⟨b,aq,rfl⟩:=aH.dX e2 hp;exact⟨_,GL e1 w b o,b,aq,rfl⟩
 ·rename_i off t k es i j e1 e2;simp only[aX,bH]at h;obtain⟨rfl,_,rfl⟩:=h;obtain⟨b,o,cap,rfl,hi,aB,bK⟩:=aH.dX e2 hp;exact⟨_,GL e1 w b _,b,o,cap,by grind,hi,aB,bK⟩
 ·rename_i off ds o e1 e2;simp only[aX,bH]at h;obtain⟨rfl,_,rfl⟩:=h;obtain⟨b,rfl,aB⟩:=aH.dX e2 hp;exact⟨_,GL e1 w b o,b,rfl,aB⟩
 ·rename_i off t i j k es x y e1 e2;simp only[aX,bH]at h;obtain⟨rfl,_,rfl⟩:=h;obtain⟨u,⟨b,o,cap,rfl,rfl,aa⟩,aB,hm⟩:=aH.dX e2 hp;exact⟨_,GL e1 w b _,_,⟨b,o,cap,rfl,by grind,aa⟩,aB,fun _=>hm rfl⟩
 cases h
def rP(P:Program)(t:TypeId):Option (TypeId×Nat):=
 match P.underlying t with
 | some (.slice e)=>(P.info? e).map fun i=>(e,i.size)
 | _=>none
variable{t:TypeId}
theorem xH{e:TypeId}{k:Nat}(h:rP P t=some (e,k)):P.underlying t=some (.slice e)/\∃i,P.info? e=some i/\i.size=k:=by
 unfold rP at h;split at h
 ·rename_i e' hu;rw[b5]at h;grind
 cases h
def aG.flat:aG->aG
 | .e5 _ k es=>.J .free k es
 | l=>l
def aH.lR(p:aH):Option aG:=p.leaf.map aG.flat
variable{y:Value}{l:aG}
theorem aH.xy(h:p.lR=some l)(ai:cT (Sat w ω τ) p y):Sat w ω τ l y:=by
 unfold aH.lR at h;rw[b5]at h;obtain⟨fR,bE,rfl⟩:=h;have:=aH.dX bE ai;unfold aG.flat;split
 ·exact⟨this.1,ad⟩
 exact this
def Mm(P:Program)(t:TypeId)(p q:aH)(ans:List cb):kN:=
 match rP P t,p.lR,q.int with
 | some (_,k),some (.J tag cf es),some (_,n)=>if k=cf then some (.one (.ep tag cf es n.toNat 0),ans,[0<=n,n<(es.length:Int)]) else none
 | some (_,k),some (.aS s i j cf es .here),some (_,n)=>if k=cf then some (.one (.aS s i j cf es (.at_ n.toNat 0)),ans,[0<=n,n<(es.length:Int)]) else none
 | _,_,_=>none
theorem aw9{q:aH}{u:Value}
  (hp:cT (Sat w ω τ) p u) (aC:cT (Sat w ω τ) q v) (h:Mm P t p q ans=some (r,cq,obs)) (aW:c8 obs):
  ∃z,(Instr.indexAt t u v).run P w=.ok z w/\cT (Sat w ω τ) r z:=by
 unfold Mm at h;split at h
 ·rename_i e k tag cf es CE n e1 e2 cx;split at h
  ·rename_i hk;subst hk;simp only[aX,bH]at h;obtain⟨rfl,_,rfl⟩:=h;obtain⟨hu,i,hi,aL⟩:=xH e1;obtain⟨aB,bK⟩:=aH.xy e2 hp;rw[aH.px cx aC];have bE:0<=n:=aW.1;have h1:n<(es.length:Int):=aW.2.1;cases aB with
   | nil=>grind
   | row R k es b off cap arr ty cM us aq ef al ai hk kA aF=>
    refine⟨.pointer (some ⟨b,off+n.toNat*k+0,none⟩),?_,b,off,cap,rfl,by omega,.row _ k es b off cap arr ty cM us aq ef al ai hk kA aF,bK⟩;simp[Instr.indexAt,run_underlying hu,asIntOf,bE,h1,sizeOf,typeInfo,hi,aL,rO]
  cases h
 ·rename_i e k s Ee Ef cf es CE n e1 e2 cx;split at h
  ·rename_i hk;subst hk;simp only[aX,bH]at h;obtain⟨rfl,_,rfl⟩:=h;obtain⟨hu,i,hi,aL⟩:=xH e1;obtain⟨fC,rfl,aB,hm⟩:=aH.xy e2 hp;rw[aH.px cx aC];have bE:0<=n:=aW.1;have h1:n<(es.length:Int):=aW.2.1;cases aB with
   | nil=>grind
   | row R k es b off cap arr ty cM us aq ef al ai hk kA aF=>
    refine⟨.pointer (some ⟨b,off+n.toNat*k+0,none⟩),?_,_,⟨b,off,cap,rfl,rfl,by omega⟩,.row _ k es b off cap arr ty cM us aq ef al ai hk kA aF,hm⟩;simp[Instr.indexAt,run_underlying hu,asIntOf,bE,h1,sizeOf,typeInfo,hi,aL,rO]
  cases h
 cases h
theorem axa{P:Program}{b n:Nat}{arr:Array Value}{ty:TypeId}{cM:Nat×Nat}(aq:w.heap[b]?=some (.cells arr ty cM))(aP:off+n<=arr.size):
  (loadCells ⟨b,off,none⟩ n).run P w=.ok (arr.extract off (off+n)) w:=by
 have aj:((arr.extract off (off+n)).toList).length=n:=by simp;omega
 have:=run_loadCells_list (P:=P) w ⟨b,off,none⟩ (arr.extract off (off+n)).toList (fun j v bD=>by
  rw[rO,cell_of_row w b (off+j) arr ty cM aq];grind)
 rw[aj,Array.toArray_toList]at this;exact this
def tn(agg:Bool)(n:Nat)(ls:List aG)(off:Nat):Option aH:=
 if agg then (if off+n<=ls.length then some (.agg ((ls.drop off).take n)) else none)
 else (ls[off]?).map fun l=>.one l
theorem AD{P:Program}{ω:Own}{τ:Nat->Nat×Value}{agg:Bool}{i:TypeInfo}{ls:List aG}(ae:xG P t=some agg)(hi:P.info? t=some i)
  (h:tn agg i.size ls off=some p) {b base:Nat} {arr:Array Value} {ty:TypeId} {cM:Nat×Nat} (aq:w.heap[b]?=some (.cells arr ty cM)) (dN:base+ls.length<=arr.size)
  (ai:∀(j:Nat) (l:aG),ls[j]?=some l->∃u,arr[base+j]?=some u/\Sat w ω τ l u):
  ∃z,(loadVar t ⟨b,base+off,none⟩).run P w=.ok z w/\cT (Sat w ω τ) p z:=by
 unfold tn at h;cases agg with
 | true=>
  simp only[fU]at h;split at h
  ·rename_i hle;simp only[aX]at h;subst h;refine⟨.agg (arr.extract (base+off) (base+off+i.size)),?_,?_⟩
   ·simp[loadVar,AB ae,sizeOf,typeInfo,hi,axa (P:=P) aq (show base+off+i.size<=arr.size by omega)]
   refine⟨_,rfl,by simp;omega,fun j l aj=>?_⟩;grind
  cases h
 | false=>
  simp only[oh,mr,b5]at h;obtain⟨l,aj,rfl⟩:=h;obtain⟨u,h1,U⟩:=ai _ l aj;refine⟨u,?_,U⟩;simp[loadVar,AB ae,cell_of_row w b (base+off) arr ty cM aq,h1]
def GM(P:Program)(st:aD)(t:TypeId)(p:aH)(ans:List cb):kN:=
 match xG P t,P.info? t,p.leaf with
 | some agg,some i,some (.ptr id off)=>
  match dI id st.boxes with
  | some ls=>(tn agg i.size ls off).map fun r=>(r,ans,[])
  | none=>none
 | some agg,some i,some (.ep tag k es x j)=>
  match ans with
  | .el ds::r=>if ds.length=k then (tn agg i.size (ds.map (D.leaf tag)) j).map fun v=>(v,r,[es[x]?=some ds]) else none
  | .sub::.el ds::r=>
   match tag with
   | .own t=>if ds.length=k then (tn agg i.size (wm t x 0 ds) j).map fun v=>(v,r,[es[x]?=some ds]) else none
   | _=>none
  | _=>none
 | some agg,some i,some (.jd ds off)=>(tn agg i.size (ds.map (D.leaf .free)) off).map fun r=>(r,ans,[])
 | some agg,some i,some (.aS s _ _ k es (.at_ x y))=>
  match ans with
  | .el ds::r=>if ds.length=k then (tn agg i.size (ds.map (D.leaf (.ro s))) y).map fun v=>(v,r,[es[x]?=some ds]) else none
  | _=>none
 | _,_,_=>none
variable{w0:eN}{a:Act}{st:aD}
theorem axb
  (aZ:cD w0 st a w ω τ) (hp:cT (Sat w ω τ) p v) (h:GM P st t p ans=some (r,cq,obs)) (aW:c8 obs):
  ∃z,(Instr.loadAt t v).run P w=.ok z w/\cT (Sat w ω τ) r z:=by
 unfold GM at h;split at h
 ·rename_i agg i id off e1 e2 cx;split at h
  ·rename_i ls dk;rw[b5]at h;obtain⟨ob,h1,h⟩:=h;simp only[bH]at h;obtain⟨rfl,rfl,rfl⟩:=h;obtain⟨b,aq,rfl⟩:=aH.dX cx hp;obtain⟨dA,arr,ty,er,F9,KF,dN,eT⟩:=aZ.boxes id ls dk;have:=F9 b aq;subst this;have:=AD (P:=P) e1 e2 h1 KF (base:=0) (by omega) (fun j l aj=>by simpa using eT j l aj);grind[Instr.loadAt,Instr.sureAddr]
  cases h
 ·rename_i agg i tag k es x j e1 e2 cx;split at h
  ·rename_i ds ii;split at h
   ·rename_i hlen;rw[b5]at h;obtain⟨ob,h1,h⟩:=h;simp only[bH]at h;obtain⟨rfl,rfl,rfl⟩:=h;have e6:es[x]?=some ds:=aW.1;obtain⟨b,off,cap,rfl,hi,aB,bK⟩:=aH.dX cx hp;cases aB with
    | nil=>simp at hi
    | row R k es b off cap arr ty cM us aq ef al ai hk hu aF=>
     have Sk:x*k+k<=cap*k:=by
      have:(x+1)*k<=cap*k:=iA k (by omega);grind
     have:=AD (P:=P) (τ:=τ) (ω:=ω) e1 e2 h1 aq (base:=off+x*k) (by grind) (fun kf l aj=>by
      rw[eg,b5]at aj;obtain⟨d,U,rfl⟩:=aj;have al:dd es x kf=some d:=by grind[dd]
      exact⟨us x kf,hu x kf d al,D.dX (aF x kf d al)⟩)
     grind[Instr.loadAt,Instr.sureAddr]
   cases h
  ·rename_i ds ii;split at h
   ·rename_i t;split at h
    ·rename_i hlen;rw[b5]at h;obtain⟨ob,h1,h⟩:=h;simp only[bH]at h;obtain⟨rfl,rfl,rfl⟩:=h;have e6:es[x]?=some ds:=aW.1;obtain⟨b,off,cap,rfl,hi,aB,bK⟩:=aH.dX cx hp;cases aB with
     | nil=>simp at hi
     | row R k es b off cap arr ty cM us aq ef al ai hk hu aF=>
      have Sk:x*k+k<=cap*k:=by
       have:(x+1)*k<=cap*k:=iA k (by omega);grind
      have:=AD (P:=P) (τ:=τ) (ω:=ω) e1 e2 h1 aq (base:=off+x*k) (by grind[TA]) (fun kf l aj=>by
       rw[Tz,b5]at aj;obtain⟨d,U,rfl⟩:=aj;rw[dV];have al:dd es x kf=some d:=by grind[dd]
       have vx:=aF x kf d al;refine⟨us x kf,hu x kf d al,?_⟩;cases d with
       | J bt bS=>exact⟨_,rfl,vx,fun _=>⟨k,b,off,es.length,cap,arr,ty,cM,bK,ef,aq,hu x kf _ al⟩⟩
       | v z=>exact D.dX (t:=.own t) (p:=(x,kf)) vx
       | ptr ds=>exact D.dX (t:=.own t) (p:=(x,kf)) vx
       | cl g cs=>exact D.dX (t:=.own t) (p:=(x,kf)) vx)
      grind[Instr.loadAt,Instr.sureAddr]
    cases h
   cases h
  cases h
 ·rename_i agg i ds off e1 e2 cx;rw[b5]at h;obtain⟨ob,h1,h⟩:=h;simp only[bH]at h;obtain⟨rfl,rfl,rfl⟩:=h;obtain⟨b,rfl,aB⟩:=aH.dX cx hp;have eX:bZ w ω Tag.free.R (.ptr ds) (.pointer (some ⟨b,0,none⟩)):=aB;cases eX with
  | ptr R ds b arr ty cM us aq ef ai hu aF=>
   have:=AD (P:=P) (τ:=τ) (ω:=ω) e1 e2 h1 aq (base:=0) (by simp;omega) (fun kf l aj=>by
    rw[eg,b5]at aj;obtain⟨d,U,rfl⟩:=aj;exact⟨us kf,by grind,D.dX (p:=(0,kf)) (aF kf d U)⟩)
   grind[Instr.loadAt,Instr.sureAddr]
 ·rename_i agg i s Ee Ef k es x y e1 e2 cx;split at h
  ·rename_i ds ii;split at h
   ·rename_i hlen;rw[b5]at h;obtain⟨ob,h1,h⟩:=h;simp only[bH]at h;obtain⟨rfl,rfl,rfl⟩:=h;have e6:es[x]?=some ds:=aW.1;obtain⟨fC,⟨b,off,cap,rfl,rfl,hi⟩,aB,hm⟩:=aH.dX cx hp;cases aB with
    | nil=>simp at hi
    | row R k es b off cap arr ty cM us aq ef al ai hk hu aF=>
     have Sk:x*k+k<=cap*k:=by
      have:(x+1)*k<=cap*k:=iA k (by omega);grind
     have:=AD (P:=P) (τ:=τ) (ω:=ω) e1 e2 h1 aq (base:=off+x*k) (by grind) (fun kf l aj=>by
      rw[eg,b5]at aj;obtain⟨d,U,rfl⟩:=aj;have al:dd es x kf=some d:=by grind[dd]
      refine⟨us x kf,hu x kf d al,D.dX (t:=.ro s) (p:=(x,kf)) ((aF x kf d al).frame fun b q _ aC=>⟨.inr ⟨_,aC⟩,rfl⟩)⟩)
     grind[Instr.loadAt,Instr.sureAddr]
   cases h
  cases h
 cases h
def Mn(P:Program)(t:TypeId)(p:aH)(ans:List cb):kN:=
 match P.underlying t,p.lR with
 | some (.slice _),some (.J _ _ es)=>some (.one (.v (.int .i64 es.length)),ans,[])
 | some (.slice _),some (.v (.slice _ n _))=>some (.one (.v (.int .i64 n)),ans,[])
 | some (.slice _),some (.aS _ _ _ _ es .here)=>some (.one (.v (.int .i64 es.length)),ans,[])
 | some (.slice _),some (.aS _ _ _ _ es .mZ)=>some (.one (.v (.int .i64 es.length)),ans,[])
 | some .string,some (.v (.string s))=>some (.one (.v (.int .i64 s.size)),ans,[])
 | _,_=>none
theorem bZ.len{R:List (Nat×Nat)->dp->Prop}{k:Nat}{es:List (List D)}(h:bZ w ω R (.J k es) y):∃b c,y=.slice b es.length c:=by
 cases h with
 | nil=>simp_all
 | row R k es b off cap arr ty cM us aq ef al ai hk hu aF=>grind
theorem axc{ty:TypeId}
  (hp:cT (Sat w ω τ) p v) (h:Mn P t p ans=some (r,cq,obs)):
  ∃z,(Builtin.len_ #[t] ty #[v]).run P w=.ok z w/\cT (Sat w ω τ) r z:=by
 unfold Mn at h;split at h
 ·rename_i e IN k es e1 e2;simp only[aX,bH]at h;obtain⟨rfl,_,rfl⟩:=h;obtain⟨aB,_⟩:=aH.xy e2 hp;obtain⟨b,c,rfl⟩:=aB.len;exact⟨_,by simp[Builtin.len_,run_underlying e1];rfl,rfl⟩
 ·rename_i e b n c e1 e2;simp only[aX,bH]at h;obtain⟨rfl,_,rfl⟩:=h;have:v=.slice b n c:=aH.xy e2 hp;subst this;exact⟨_,by simp[Builtin.len_,run_underlying e1];rfl,rfl⟩
 ·rename_i e s Ee Ef k es e1 e2;simp only[aX,bH]at h;obtain⟨rfl,_,rfl⟩:=h;obtain⟨fC,rfl,aB,_⟩:=aH.xy e2 hp;obtain⟨b,c,rfl⟩:=aB.len;exact⟨_,by simp[Builtin.len_,run_underlying e1];rfl,rfl⟩
 ·rename_i e s Ee Ef k es e1 e2;simp only[aX,bH]at h;obtain⟨rfl,_,rfl⟩:=h;obtain⟨fC,rfl,aB,_⟩:=aH.xy e2 hp;obtain⟨b,c,rfl⟩:=aB.len;exact⟨_,by simp[Builtin.len_,run_underlying e1];rfl,rfl⟩
 ·rename_i s e1 e2;simp only[aX,bH]at h;obtain⟨rfl,_,rfl⟩:=h;have:v=.string s:=aH.xy e2 hp;subst this;exact⟨_,by simp[Builtin.len_,run_underlying e1];rfl,rfl⟩
 cases h
theorem TB{es:List (List D)}{l n i j:Nat}{d:D}(h:dd ((es.drop l).take n) i j=some d):i<n/\dd es (l+i) j=some d:=by
 grind[dd]
theorem bZ.sub{R jF:List (Nat×Nat)->dp->Prop}{k:Nat}{es:List (List D)}{b cap:Nat}(h:bZ w ω R (.J k es) (.slice (some ⟨b,off,none⟩) es.length cap))
  {l m:Nat} (aj:l<=m) (hm:m<=es.length) (FH:∀o,R [] o->jF [] o) (aCH:∀i j q o,l<=i->R ((i,j)::q) o->jF ((i-l,j)::q) o):
  bZ w ω jF (.J k ((es.drop l).take (m-l))) (sliced (some ⟨b,off,none⟩) l m cap k):=by
 cases h with
 | nil=>
  grind[sliced,bZ.nil]
 | row R k es b off cap arr ty cM us aq ef al ai hk hu aF=>
  have hlen:((es.drop l).take (m-l)).length=m-l:=by simp;omega
  have hmul:l*k+(cap-l)*k=cap*k:=by rw[<-hQ];grind
  have key:∀rJ:Nat,(cap=l\/rJ=off+l*k)->rJ+(cap-l)*k<=arr.size->
    bZ w ω jF (.J k ((es.drop l).take (m-l))) (.slice (some ⟨b,rJ,none⟩) (m-l) (cap-l)):=by
   intro rJ aW dN;have aL:cap=l->m-l=0:=fun e=>by omega
   have aB:=bZ.row (w:=w) (ω:=ω) jF k ((es.drop l).take (m-l)) b rJ (cap-l) arr ty cM (fun i j=>us (l+i) j) aq (FH _ ef) (by omega) dN
    (fun e he=>hk e (wW (tB he)))
    (fun i j d xj=>by
     obtain⟨hi,R5⟩:=TB xj;grind)
    (fun i j d xj=>by
     obtain⟨hi,R5⟩:=TB xj;refine (aF (l+i) j d R5).frame fun b q _ aC=>⟨?_,rfl⟩
     grind)
   grind
  unfold sliced;split
  ·grind
  simp only[si,rO];grind
def aG.view:aG->aG
 | .aS t _ _ k es .here=>.J (.ro t) k es
 | .aS t _ _ k es .mZ=>.J (.ro t) k es
 | .e5 _ k es=>.J .free k es
 | l=>l
theorem aG.Qj(ai:Sat w ω τ l y):Sat w ω τ l.view y:=by
 unfold aG.view;split
 ·obtain⟨fC,rfl,aB,_⟩:=ai;exact⟨aB.frame fun b q _ aC=>⟨.inr ⟨_,aC⟩,rfl⟩,ad⟩
 ·obtain⟨fC,rfl,aB,_⟩:=ai;exact⟨aB.frame fun b q _ aC=>⟨.inr ⟨_,aC⟩,rfl⟩,ad⟩
 ·exact⟨ai.1,ad⟩
 exact ai
theorem aH.Qj(h:p.leaf.map aG.view=some l)(ai:cT (Sat w ω τ) p y):Sat w ω τ l y:=by
 rw[b5]at h;obtain⟨fR,bE,rfl⟩:=h;grind[aG.Qj,aH.dX]
def ny(st:aD):Option Operand->Option (Option Int)
 | none=>some none
 | some x=>((st.bp x).int).map fun p=>some p.2
def GN(P:Program)(st:aD)(t:TypeId)(p:aH)(c5 hi jR:Option Operand)(ans:List cb):kN:=
 match rP P t,p.leaf.map aG.view,jR with
 | some (_,k),some (.J tag cf es),none=>
  if k=cf then
   match ny st c5,ny st hi with
   | some l,some h=>some (.one (.J tag.II k ((es.drop (l.getD 0).toNat).take ((h.getD es.length).toNat-(l.getD 0).toNat))),ans,[0<=l.getD 0,l.getD 0<=h.getD es.length,h.getD es.length<=es.length])
   | _,_=>none
  else none
 | _,_,_=>none
theorem Dm{len cap:Nat}{c5 hi:Option Value}{l h:Int}(aj:c5=none/\l=0\/∃k,c5=some (.int k l))(bK:hi=none/\h=len\/∃k,hi=some (.int k h))
  (bE:0<=l) (h1:l<=h) (U:h<=cap):(Instr.sliceBounds true len cap c5 hi none).run P w=.ok (l.toNat,h.toNat,cap) w:=by
 have aCr:(h.toNat:Int)=h:=Int.toNat_of_nonneg (by omega);have aA:0<=h:=by omega
 rcases aj with⟨rfl,rfl⟩ | ⟨k,rfl⟩<;>rcases bK with⟨rfl,rfl⟩ | ⟨cf,rfl⟩<;>
  simp_all[Instr.sliceBounds,run_sliceBound]
theorem Dn(aZ:cD w0 st a w ω τ){x:Option Operand}{r:Option Int}(h:ny st x=some r):
  (x.map a.eval=none/\r=none)\/∃k n,x.map a.eval=some (.int k n)/\r=some n:=by
 cases x with
 | none=>simp_all[ny]
 | some x=>
  simp only[ny,b5]at h;obtain⟨⟨k,n⟩,h1,U⟩:=h;exact .inr ⟨k,n,by simp[aH.px h1 (aZ.bp x)],U.symm⟩
theorem axd{c5 hi jR:Option Operand}
  (aZ:cD w0 st a w ω τ) (hp:cT (Sat w ω τ) p v) (h:GN P st t p c5 hi jR ans=some (r,cq,obs)) (aW:c8 obs):
  ∃z,(Instr.sliceAt t v (c5.map a.eval) (hi.map a.eval) (jR.map a.eval)).run P w=.ok z w/\cT (Sat w ω τ) r z:=by
 unfold GN at h;split at h
 ·rename_i e k tag cf es e1 e2;split at h
  ·rename_i hk;subst hk;split at h
   ·rename_i l bK cx eD;simp only[aX,bH]at h;obtain⟨rfl,_,rfl⟩:=h;obtain⟨hu,i,qo,aL⟩:=xH e1;obtain⟨aB,_⟩:=aH.Qj e2 hp;obtain⟨dt,dm,eY,_⟩:=aW;have aA:=Dn aZ cx;have aI:=Dn aZ eD;have ni:(c5.map a.eval=none/\l.getD 0=0)\/∃k,c5.map a.eval=some (.int k (l.getD 0)):=by
     grind
    have sB:(hi.map a.eval=none/\bK.getD es.length=es.length)\/∃k,hi.map a.eval=some (.int k (bK.getD es.length)):=by
     grind
    cases aB with
    | nil _ _ a0=>
     simp only[ej] at*;have cd:l.getD 0=0:=by omega
     have aco:bK.getD ((0:Nat):Int)=0:=by omega
     refine⟨.slice a0 0 0,?_,?_⟩
     ·simp only[Instr.sliceAt,Sem.run_bind,run_underlying hu,Result.andThen_ok,Instr.slice,Option.map_none];rw[Dm ni sB dt dm eY];simp_all[sizeOf,typeInfo]
     refine⟨?_,Tag.Qg⟩;simp only[List.drop_nil,List.take_nil];exact .nil _ _ _
    | row R k es b off cap arr ty cM us aq ef al ai hk kA aF=>
     refine⟨sliced (some ⟨b,off,none⟩) (l.getD 0).toNat (bK.getD es.length).toNat cap k,?_,?_,Tag.Qg⟩
     ·simp only[Instr.sliceAt,Sem.run_bind,run_underlying hu,Result.andThen_ok,Instr.slice,Option.map_none];rw[Dm ni sB dt dm (by omega)];simp_all[sizeOf,typeInfo,sliced]
     exact bZ.sub (.row _ k es b off cap arr ty cM us aq ef al ai hk kA aF) (by omega) (by omega) (fun o h=>Tag.Qf h) (fun i j q o _ h=>Tag.Qf h)
   cases h
  cases h
 cases h
end Go.Sx
namespace Go.Sx
open Go.RowKit
def aG.ok:aG->Bool
 | .cu=>false
 | .v x=>x.oneCell'
 | _=>true
variable{w:World}{ω:Own}{y:Value}
theorem bZ.qD{R:List (Nat×Nat)->dp->Prop}{d:D}(h:bZ w ω R d y):y.oneCell'=true:=by
 cases h with
 | v R x h1=>exact h1
 | nil=>rfl
 | row=>rfl
 | ptr=>rfl
 | cl=>rfl
variable{τ:Nat->Nat×Value}
theorem aG.Td{l:aG}(h:l.ok=true)(ai:Sat w ω τ l y):y.oneCell'=true:=by
 cases l with
 | cu=>cases h
 | v x=>have:y=x:=ai;subst this;exact h
 | bR c=>have:y=.bool c:=ai;subst this;rfl
 | J t k es=>exact ai.1.qD
 | ptr id off=>obtain⟨b,_,rfl⟩:=ai;rfl
 | ep t k es i j=>obtain⟨b,off,cap,rfl,_⟩:=ai;rfl
 | jd ds off=>obtain⟨b,rfl,_⟩:=ai;rfl
 | fd d=>exact bZ.qD ai
 | e5 t k es=>exact ai.1.qD
 | hr g ids=>obtain⟨bs,rfl,_⟩:=ai;rfl
 | aS t i j k es m=>
  obtain⟨u,hu,aB,_⟩:=ai;cases m with
  | at_ x y=>obtain⟨b,off,cap,_,rfl,_⟩:=hu;rfl
  | here=>have:y=u:=hu;subst this;exact aB.qD
  | mZ=>have:y=u:=hu;subst this;exact aB.qD
 | fr t vs=>obtain⟨b,ty,arr,rfl,_⟩:=ai;rfl
theorem Dp(h:y.oneCell'=true):y.cells=#[y]:=by
 cases y<;>first | rfl | grind[Value.oneCell']
def aH.leaves:aH->Option (List aG)
 | .aR (.one l)=>if l.ok then some [l] else none
 | .aR (.agg ls)=>if ls.all aG.ok then some ls else none
 | _=>none
variable{p:aH}{ls:List aG}
theorem aH.zM(h:p.leaves=some ls)(ai:cT (Sat w ω τ) p y):
  lm (Sat w ω τ) ls y.cells/\∀u∈y.cells.toList,u.oneCell'=true:=by
 unfold aH.leaves at h;split at h
 ·rename_i l;split at h
  ·rename_i bI;simp only[aX]at h;subst h;have h1:=aG.Td bI ai;rw[Dp h1];refine⟨⟨rfl,fun i hb aj=>?_⟩,by grind⟩;cases i with
   | zero=>simp at aj;subst aj;exact⟨y,rfl,ai⟩
   | succ i=>simp at aj
  cases h
 ·rename_i fJ;split at h
  ·rename_i bI;simp only[aX]at h;subst h;obtain⟨vs,rfl,aP,bD⟩:=ai;refine⟨⟨aP,bD⟩,fun u hu=>?_⟩;obtain⟨i,hi⟩:=p4.1 hu;have bM:i<fJ.length:=by
    grind[Value.cells]
   obtain⟨u2,h1,U⟩:=bD i fJ[i] (by simp);have e:u=u2:=by
    have:(Value.agg vs).cells.toList[i]?=vs[i]?:=by simp[Value.cells]
    grind
   grind[aG.Td,p5]
  cases h
 cases h
theorem TC(off:Nat):∀(vs:List Value) (k:Nat) (cells:Array Value) (i:Nat),off+k+vs.length<=cells.size->
  ((vs.zipIdx k).foldl (fun cs (x:Value×Nat)=>cs.setIfInBounds (off+x.2) x.1) cells)[i]?=if off+k<=i/\i<off+k+vs.length then vs[i-(off+k)]? else cells[i]?
 | [],k,cells,i,_=>by simp;grind
 | v::vs,k,cells,i,h=>by
  simp only[List.zipIdx_cons,List.foldl_cons,fO]at h ⊢;rw[TC off vs (k+1) _ i (by simp;omega),Array.getElem?_setIfInBounds];grind
theorem TD(off:Nat):∀(l:List (Value×Nat)) (cells:Array Value),(l.foldl (fun cs (x:Value×Nat)=>cs.setIfInBounds (off+x.2) x.1) cells).size=cells.size
 | [],_=>rfl
 | x::l,cells=>by simp_all[List.foldl_cons,TD]
def vg(ls:List aG)(off:Nat)(xs:List aG):List aG:=ls.take off++(xs++ls.drop (off+xs.length))
variable{off:Nat}
theorem TE{xs:List aG}{i:Nat}(h:off+xs.length<=ls.length):(vg ls off xs)[i]?=if off<=i/\i<off+xs.length then xs[i-off]? else ls[i]?:=by
 unfold vg;grind
theorem Mo{xs:List aG}(h:off+xs.length<=ls.length):(vg ls off xs).length=ls.length:=by
 grind[vg]
def ss(place:Nat->Option (Nat×Nat))(ls:List aG):List (Nat×aH)->Option (List aG)
 | []=>some ls
 | (i,p)::rest=>
  match place i,p.leaves with
  | some (off,size),some xs=>if xs.length=size/\off+size<=ls.length then ss place (vg ls off xs) rest else none
  | _,_=>none
theorem Mp{place:Nat->Option (Nat×Nat)}:∀{parts:List (Nat×aH)} {vals:List (Nat×Value)} {ls r:List aG} {cells:Array Value},
  parts.length=vals.length->(∀(j:Nat) i p,parts[j]?=some (i,p)->∃v,vals[j]?=some (i,v)/\cT (Sat w ω τ) p v)->ss place ls parts=some r->lm (Sat w ω τ) ls cells->
  ∃out,Instr.fill place cells vals=some out/\lm (Sat w ω τ) r out
 | [],vals,ls,r,cells,aP,_,h,ai=>by
  have:vals=[]:=u' (by grind);subst this;simp only[ss,aX]at h;subst h;exact⟨cells,rfl,ai⟩
 | (i,p)::parts,vals,ls,r,cells,aP,hp,h,ai=>by
  obtain⟨v,bD,eT⟩:=hp 0 i p rfl;cases vals with
  | nil=>simp at bD
  | cons x vals=>
   simp only[mV,aX]at bD;subst bD;simp only[ss]at h;split at h
   ·rename_i off size xs e1 e2;split at h
    ·rename_i al;obtain⟨lp,lL⟩:=al;obtain⟨⟨dN,zH⟩,_⟩:=aH.zM e2 eT;have zG:v.cells.size=size:=by omega
     have qk:off+v.cells.size<=cells.size:=by have:=ai.1;omega
     have hx:lm (Sat w ω τ) (vg ls off xs) (v.cells.zipIdx.foldl (fun cs (c,j)=>cs.setIfInBounds (off+j) c) cells):=by
      have e:v.cells.zipIdx.foldl (fun cs (c,j)=>cs.setIfInBounds (off+j) c) cells=(v.cells.toList.zipIdx 0).foldl (fun cs (x:Value×Nat)=>cs.setIfInBounds (off+x.2) x.1) cells:=by
       rw[<-Array.foldl_toList];simp
      rw[e];refine⟨by rw[TD,Mo (by omega)];exact ai.1,fun j l aj=>?_⟩;rw[TE (by omega)]at aj;rw[TC off _ 0 _ _ (by simp;omega)];simp only[Ro,o7];by_cases a8:off<=j/\j<off+xs.length
      ·grind
      rw[bq a8]at aj;rw[bq (by omega)];exact ai.2 _ _ aj
     obtain⟨out,h1,U⟩:=Mp (parts:=parts) (vals:=vals) (by grind) (fun j fW rM a8=>by have:=hp (j+1) fW rM (by grind);grind) h hx;simp_all[Instr.fill,bq]
    cases h
   cases h
def Mq(P:Program)(t:TypeId)(f:Nat):Option (Nat×Nat):=
 match P.underlying t with
 | some (.struct eI)=>
  match eI[f]? with
  | some fd=>(P.info? fd.type).map fun i=>(fd.offset,i.size)
  | none=>none
 | _=>none
def GO(P:Program)(st:aD)(t:TypeId)(parts:List (Nat×Operand))(ans:List cb):kN:=
 match P.underlying t,P.info? t with
 | some (.struct eI),some i=>
  match i.zero with
  | some z=>
   if eI.toList.all fun f=>(P.info? f.type).isSome then
    (ss (Mq P t) (z.cells.toList.map .v) (parts.map fun x=>(x.1,st.bp x.2))).map fun ls=>(.agg ls,ans,[])
   else none
  | none=>none
 | _,_=>none
theorem TF{P:Program}(w:World):∀(eI:List Field),(∀f∈eI,(P.info? f.type).isSome=true)->
  (eI.mapM fun f=>(do pure (f.offset,<-sizeOf f.type):Sem (Nat×Nat))).run P w=.ok (eI.map fun f=>(f.offset,((P.info? f.type).map (·.size)).getD 0)) w
 | [],_=>by simp
 | f::eI,h=>by
  obtain⟨i,hi⟩:=sh.1 (h f (by simp));have dL:=TF (P:=P) w eI (fun g ar=>h g (by simp[ar]));simp only[Bu,Sem.run_bind,sizeOf,typeInfo,run_program,Result.andThen_ok,hi,Sem.run_pure,iM,si,l0];simp_all[Sem.run_bind,sizeOf,typeInfo,Sem.run_pure]
theorem GQ{P:Program}{α β:Type}(f:α->Sem β)(xs:Array α)(w:World)(r:List β)(h:(xs.toList.mapM f).run P w=.ok r w):(xs.mapM f).run P w=.ok r.toArray w:=by
 rw[<-Array.toArray_toList (xs:=xs),List.mapM_toArray];simp_all
variable{P:Program}{w0:eN}{a:Act}{st:aD}{t:TypeId}{r:aH}{ans cq:List cb}{obs:List Prop}
theorem awE{parts:Array (Nat×Operand)}
  (aZ:cD w0 st a w ω τ) (h:GO P st t parts.toList ans=some (r,cq,obs)):
  ∃z,(Instr.build t (parts.map fun (i,x)=>(i,a.eval x))).run P w=.ok z w/\cT (Sat w ω τ) r z:=by
 unfold GO at h;split at h
 ·rename_i eI i hu hi;split at h
  ·rename_i z aL;split at h
   ·rename_i jk;rw[b5]at h;obtain⟨ls,h1,h⟩:=h;simp only[bH]at h;obtain⟨rfl,_,_⟩:=h;have Gf:lm (Sat w ω τ) (z.cells.toList.map .v) z.cells:=by
     refine⟨by simp,fun j l aj=>?_⟩;rw[eg,b5]at aj;obtain⟨u,hu,rfl⟩:=aj;exact⟨u,by grind,rfl⟩
    obtain⟨out,U,aA⟩:=Mp (vals:=parts.toList.map fun x=>(x.1,a.eval x.2)) (by simp) (fun j fW p a8=>by
     rw[eg,b5]at a8;obtain⟨⟨i2,x⟩,aa,e⟩:=a8;simp only[bH]at e;obtain⟨rfl,rfl⟩:=e;exact⟨a.eval x,by grind,aZ.bp x⟩) h1 Gf
    have hm:=GQ (P:=P) (fun f:Field=>(do pure (f.offset,<-sizeOf f.type):Sem (Nat×Nat))) eI w _ (TF (P:=P) w eI.toList (fun f br=>gP.1 jk f br));have qt:(fun x=>(eI.toList.map fun f=>(f.offset,((P.info? f.type).map (·.size)).getD 0)).toArray[x]?)=Mq P t:=by
     funext x;simp only[p1,eg,mT,Mq,hu];cases aa:eI[x]? with
     | none=>rfl
     | some fd=>
      have:(P.info? fd.type).isSome=true:=gP.1 jk fd (by grind);obtain⟨fW,qo⟩:=sh.1 this;simp[qo]
    refine⟨.agg out,?_,out,rfl,aA⟩;simp only[Instr.build,Sem.run_bind,zeroValue,typeInfo,run_program,Result.andThen_ok,hi,Sem.run_pure,aL,run_underlying hu,hm,qt];simp_all
   cases h
  cases h
 cases h
def Mr(p:aH)(lQ:Nat)(ans:List cb):kN:=
 match p with
 | .gB as=>(as[lQ]?).map fun a=>(.aR a,ans,[])
 | _=>none
variable{v:Value}
theorem awF{P:Program}{lQ:Nat}
  (hp:cT (Sat w ω τ) p v) (h:Mr p lQ ans=some (r,cq,obs)):∃z,(Instr.extract v lQ).run P w=.ok z w/\cT (Sat w ω τ) r z:=by
 unfold Mr at h;split at h
 ·rename_i as;rw[b5]at h;obtain⟨aR,h1,h⟩:=h;simp only[bH]at h;obtain⟨rfl,_,_⟩:=h;obtain⟨vs,rfl,aP,bD⟩:=hp;obtain⟨u,U,aA⟩:=bD _ _ h1;exact⟨u,by simp[Instr.extract,U],aA⟩
 cases h
def L6(P:Program)(t:TypeId)(p:aH)(f:Nat)(ans:List cb):kN:=
 match P.underlying t with
 | some (.struct eI)=>
  match eI[f]? with
  | some fd=>
   match xG P fd.type,P.info? fd.type,p with
   | some agg,some i,.aR (.agg ls)=>(tn agg i.size ls fd.offset).map fun r=>(r,ans,[])
   | _,_,_=>none
  | none=>none
 | _=>none
theorem awG{f:Nat}
  (hp:cT (Sat w ω τ) p v) (h:L6 P t p f ans=some (r,cq,obs)):∃z,(Instr.field t v f).run P w=.ok z w/\cT (Sat w ω τ) r z:=by
 unfold L6 at h;split at h
 ·rename_i eI hu;split at h
  ·rename_i fd br;split at h
   ·rename_i agg i ls e1 e2;rw[b5]at h;obtain⟨ob,h1,h⟩:=h;simp only[bH]at h;obtain⟨rfl,_,_⟩:=h;obtain⟨vs,rfl,aP,bD⟩:=hp;unfold tn at h1;cases agg with
    | true=>
     simp only[fU]at h1;split at h1
     ·rename_i hle;simp only[aX]at h1;subst h1;refine⟨.agg (vs.extract fd.offset (fd.offset+i.size)),by simp[Instr.field,run_underlying hu,br,asAgg,part,AB e1,sizeOf,typeInfo,e2],_,rfl,by simp;omega,fun j l aj=>?_⟩;grind
     cases h1
    | false=>
     simp only[oh,mr,b5]at h1;obtain⟨l,aj,rfl⟩:=h1;obtain⟨u,h1,U⟩:=bD _ l aj;exact⟨u,by simp_all[Instr.field,run_underlying,asAgg,part,AB],U⟩
   cases h
  cases h
 cases h
def L7(op:UnOp)(p:aH)(ans:List cb):kN:=
 match op,p.leaf with
 | .not,some (.bR c)=>some (.one (.bR (!c)),ans,[])
 | .not,some (.v (.bool c))=>some (.one (.v (.bool (!c))),ans,[])
 | .neg,some (.v (.int k n))=>arith k (0-n) ans
 | _,_=>none
theorem awH{op:UnOp}
  (hp:cT (Sat w ω τ) p v) (h:L7 op p ans=some (r,cq,obs)) (aW:c8 obs):∃z,(Op.unary op v).run P w=.ok z w/\cT (Sat w ω τ) r z:=by
 unfold L7 at h;split at h
 ·rename_i c e;simp only[aX,bH]at h;obtain⟨rfl,_,_⟩:=h;have:v=.bool c:=aH.dX e hp;subst this;exact⟨_,rfl,rfl⟩
 ·rename_i c e;simp only[aX,bH]at h;obtain⟨rfl,_,_⟩:=h;have:v=.bool c:=aH.dX e hp;subst this;exact⟨_,rfl,rfl⟩
 ·rename_i k n e;have:v=.int k n:=aH.dX e hp;subst this;exact⟨_,rfl,AA h aW⟩
 cases h
def c7(c a b:aH)(ans:List cb):kN:=
 match c.leaf with
 | some (.v (.bool true))=>some (a,ans,[])
 | some (.v (.bool false))=>some (b,ans,[])
 | some (.bR c)=>
  match ans with
  | .qa true::r=>some (a,r,[c=true])
  | .qa false::r=>some (b,r,[c=false])
  | _=>none
 | _=>none
variable{u:Value}
theorem awI{c a b:aH}{x:Value}
  (al:cT (Sat w ω τ) c u) (ae:cT (Sat w ω τ) a x) (aq:cT (Sat w ω τ) b y) (h:c7 c a b ans=some (r,cq,obs)) (aW:c8 obs):
  ∃z,(do pure (.value (if <-asBool u then x else y)):Sem Next).run P w=.ok (.value z) w/\cT (Sat w ω τ) r z:=by
 unfold c7 at h;split at h
 ·rename_i e;simp only[aX,bH]at h;obtain⟨rfl,_,_⟩:=h;have:u=.bool true:=aH.dX e al;subst this;exact⟨x,rfl,ae⟩
 ·rename_i e;simp only[aX,bH]at h;obtain⟨rfl,_,_⟩:=h;have:u=.bool false:=aH.dX e al;subst this;exact⟨y,rfl,aq⟩
 ·rename_i kS e;have:u=.bool kS:=aH.dX e al;subst this;split at h
  ·simp only[aX,bH]at h;obtain⟨rfl,_,rfl⟩:=h;have xj:kS=true:=aW.1;subst xj;exact⟨x,rfl,ae⟩
  ·simp only[aX,bH]at h;obtain⟨rfl,_,rfl⟩:=h;have xj:kS=false:=aW.1;subst xj;exact⟨y,rfl,aq⟩
  cases h
 cases h
def AE:List (List D)->Option (List Int)
 | []=>some []
 | [.v (.int .u8 n)]::r=>(AE r).map (n::·)
 | _=>none
theorem TG:∀{es:List (List D)} {xs:List Int},AE es=some xs->xs.length=es.length/\∀i,i<xs.length->dd es i 0=some (.v (.int .u8 (xs.getD i 0)))/\∀e,es[i]?=some e->e.length=1
 | [],xs,h=>by
  simp_all[AE,aX]
 | e::r,xs,h=>by
  unfold AE at h;split at h
  ·grind
  ·rename_i n ob he;obtain⟨rfl,rfl⟩:=aBZ he;rw[b5]at h;obtain⟨ys,h1,rfl⟩:=h;obtain⟨U,aA⟩:=TG h1;refine⟨by simp[U],fun i hi=>?_⟩;cases i with
   | zero=>exact⟨rfl,fun e he=>by grind⟩
   | succ i=>
    simp only[fO,Nat.add_lt_add_iff_right]at hi;grind[dd]
  cases h
theorem cell_of_heap{w:World}{b:Nat}{arr:Array Value}{ty:TypeId}{cM:Nat×Nat}(aq:w.heap[b]?=some (.cells arr ty cM))(h:arr[off]?=some v):w.cell? ⟨b,off,none⟩=some v:=by
 unfold World.cell?;simp[aq,h]
def aG.ZX:aG->Option (List (List D))
 | .J _ 1 es=>some es
 | _=>none
def L8(P:Program)(src dst:TypeId)(p:aH)(ans:List cb):kN:=
 match P.underlying src,P.underlying dst,p.int with
 | some _,some (.int k),some (_,n)=>arith k n ans
 | some (.slice e),some .string,none=>
  match P.underlying e,p.leaf.bind aG.ZX,ans with
  | some (.int .u8),some es,.pF (.aR (.one (.v (.string s))))::r=>some (.one (.v (.string s)),r,[(AE es).map strOfNums=some s])
  | _,_,_=>none
 | _,_,_=>none
theorem awJ{src dst:TypeId}
  (hp:cT (Sat w ω τ) p v) (h:L8 P src dst p ans=some (r,cq,obs)) (aW:c8 obs):∃z,(convert src dst v).run P w=.ok z w/\cT (Sat w ω τ) r z:=by
 unfold L8 at h;split at h
 ·rename_i d k CE n e1 e2 cx;rw[aH.px cx hp];exact⟨_,by simp_all[convert,run_underlying,Conv.intToInt],AA h aW⟩
 ·rename_i e e1 e2 cx;split at h
  ·rename_i es s ob eD iS;simp only[aX,bH]at h;obtain⟨rfl,_,rfl⟩:=h;have nj:(AE es).map strOfNums=some s:=aW.1;rw[b5]at nj;obtain⟨xs,h1,rfl⟩:=nj;obtain⟨U,aA⟩:=TG h1;rw[nM]at iS;obtain⟨l,nf,tS⟩:=iS;have aj:=aH.dX nf hp;unfold aG.ZX at tS;split at tS
   ·rename_i t cy;simp only[aX]at tS;subst tS;obtain⟨aB,_⟩:=aj;refine⟨.string (strOfNums xs),?_,rfl⟩;cases aB with
    | nil R k a=>
     have:xs=[]:=List.length_eq_zero_iff.1 (by grind);subst this;cases a with
     | none=>exact run_convert_bytes_nil w src e e1 eD 0 0 dst e2
     | some a=>
      rw[run_convert_bytes_string w src dst e _ 0 0 e1 eD e2];exact run_bytesToString w a 0 0 [] (run_loadCells_list w a [] (fun j v a8=>by simp at a8))
    | row R k _ b off cap arr ty cM us aq ef al ai hk hu aF=>
     refine run_convert_bytes_arg w src e e1 eD b off cy.length cap xs U (fun i hi=>?_) dst e2;obtain⟨aI,_⟩:=aA i (by omega);have a':=hu i 0 _ aI;have bu:=aF i 0 _ aI;generalize us i 0=u at a' bu;cases bu;rw[Nat.mul_one,o7]at a';grind[cell_of_heap]
   cases tS
  cases h
 cases h
def L9(P:Program)(t:TypeId)(p q:aH)(ans:List cb):kN:=
 match P.underlying t,p.leaf,q.int with
 | some .string,some (.v (.string s)),some (_,n)=>
  match ans with
  | .num m::r=>some (.one (.v (.int .u8 m)),r,[0<=n,(s[n.toNat]?).map (fun b=>((b.toNat:Nat):Int))=some m])
  | _=>none
 | _,_,_=>none
variable{q:aH}
theorem awK
  (hp:cT (Sat w ω τ) p u) (aC:cT (Sat w ω τ) q v) (h:L9 P t p q ans=some (r,cq,obs)) (aW:c8 obs):∃z,(Instr.index t u v).run P w=.ok z w/\cT (Sat w ω τ) r z:=by
 unfold L9 at h;split at h
 ·rename_i s CE n e1 e2 cx;split at h
  ·rename_i m ii;simp only[aX,bH]at h;obtain⟨rfl,_,rfl⟩:=h;obtain⟨bE,h1,_⟩:=aW;have:u=.string s:=aH.dX e2 hp;subst this;rw[aH.px cx aC];rw[b5]at h1;obtain⟨b,aq,hm⟩:=h1;exact⟨.int .u8 m,by simp_all[Instr.index,asIntOf,run_underlying],rfl⟩
  cases h
 cases h
def Ma(p q:aH)(ans:List cb):kN:=
 match p.int,q.int with
 | some (k,a),some (_,b)=>some (.one (.v (.int k (if b<a then b else a))),ans,[])
 | _,_=>none
def Mb(p q:aH)(ans:List cb):kN:=
 match p.int,q.int with
 | some (k,a),some (_,b)=>some (.one (.v (.int k (if b>a then b else a))),ans,[])
 | _,_=>none
theorem awL{P:Program}{ts:Array TypeId}{ty:TypeId}
  (hp:cT (Sat w ω τ) p u) (aC:cT (Sat w ω τ) q v) (h:Ma p q ans=some (r,cq,obs)):∃z,(Builtin.min_ ts ty #[u,v]).run P w=.ok z w/\cT (Sat w ω τ) r z:=by
 unfold Ma at h;split at h
 ·rename_i k a CE b e1 e2;simp only[aX,bH]at h;obtain⟨rfl,_,_⟩:=h;rw[aH.px e1 hp,aH.px e2 aC];exact⟨_,by simp[Builtin.min_,Builtin.min2],rfl⟩
 cases h
theorem awM{P:Program}{ts:Array TypeId}{ty:TypeId}
  (hp:cT (Sat w ω τ) p u) (aC:cT (Sat w ω τ) q v) (h:Mb p q ans=some (r,cq,obs)):∃z,(Builtin.max_ ts ty #[u,v]).run P w=.ok z w/\cT (Sat w ω τ) r z:=by
 unfold Mb at h;split at h
 ·rename_i k a CE b e1 e2;simp only[aX,bH]at h;obtain⟨rfl,_,_⟩:=h;rw[aH.px e1 hp,aH.px e2 aC];exact⟨_,by simp[Builtin.max_,Builtin.max2],rfl⟩
 cases h
def TH(p:aH)(ans:List cb):kN:=
 match p.leaf with
 | some (.ptr id off)=>some (.one (.ptr id off),ans,[])
 | some (.ep t k es i j)=>some (.one (.ep t k es i j),ans,[])
 | some (.jd ds off)=>some (.one (.jd ds off),ans,[])
 | some (.aS t i j k es (.at_ x y))=>some (.one (.aS t i j k es (.at_ x y)),ans,[])
 | _=>none
def Ti(p:aH):Option Nat:=
 match p.leaf with
 | some (.ptr id 0)=>some id
 | _=>none
def RK(p:aH):Option D:=
 match p.leaf with
 | some (.jd ds 0)=>some (.ptr ds)
 | some (.v x)=>if x.oneCell' then some (.v x) else none
 | _=>none
def GR(st:aD)(fn:Fn)(first captured:List Operand)(ans:List cb):kN:=
 match fn,first with
 | .func g,[]=>
  match (captured.map st.bp).mapM Ti with
  | some ids=>some (.one (.hr g ids),ans,[])
  | none=>
   match (captured.map st.bp).mapM RK with
   | some ds=>some (.one (.fd (.cl g ds)),ans,[])
   | none=>none
 | _,_=>none
theorem Mc{α β:Type}{f:α->Option β}:∀{xs:List α} {ys:List β},xs.mapM f=some ys->ys.length=xs.length/\∀(i:Nat) (y:β),ys[i]?=some y->∃x,xs[i]?=some x/\f x=some y
 | [],ys,h=>by grind
 | x::xs,ys,h=>by
  rw[Bu]at h;cases e:f x with
  | none=>simp[e]at h
  | some y=>
   cases e2:xs.mapM f with
   | none=>grind
   | some zs=>
    simp[e,e2]at h;subst h;obtain⟨h1,U⟩:=Mc e2;grind
theorem awN{P:Program}{fn:Fn}{first captured:Array Operand}
  (aZ:cD w0 st a w ω τ) (h:GR st fn first.toList captured.toList ans=some (r,cq,obs)):
  ∃z,(Instr.makeFunc fn (first.map a.eval) (captured.map a.eval)).run P w=.ok z w/\cT (Sat w ω τ) r z:=by
 unfold GR at h;split at h
 ·rename_i g aCY;have br:first=#[]:=by
   grind
  subst br;refine⟨.func (.func g) #[] (captured.map a.eval),by simp[Instr.makeFunc],?_⟩;have sA:∀(i:Nat) (x:aH),(captured.toList.map st.bp)[i]?=some x->∃v,(captured.map a.eval)[i]?=some v/\cT (Sat w ω τ) x v:=by
   intro i x aa;rw[eg,b5]at aa;obtain⟨o,aW,rfl⟩:=aa;refine⟨a.eval o,?_,aZ.bp o⟩;grind
  split at h
  ·rename_i ids ads;simp only[aX,bH]at h;obtain⟨rfl,_,_⟩:=h;obtain⟨aP,ar⟩:=Mc ads;have hex:∀i,i<ids.length->∃b id,ids[i]?=some id/\(captured.map a.eval)[i]?=some (ptrTo b)/\ω b=.box id:=by
    intro i hi;obtain⟨x,aa,kB⟩:=ar i ids[i] (by simp[hi]);obtain⟨v,bD,ai⟩:=sA i x aa;unfold Ti at kB;split at kB
    ·rename_i id aj;simp only[aX]at kB;obtain⟨b,aq,rfl⟩:=aH.dX aj ai;exact⟨b,id,by grind,bD,aq⟩
    cases kB
   have dN:(captured.map a.eval).size=ids.length:=by grind
   let bs:=(List.range ids.length).map fun i=>(match (captured.map a.eval)[i]? with | some (.pointer (some p))=>p.block | _=>0)
   refine⟨bs,?_,by simp[bs],fun i id hD=>?_⟩
   ·congr 1
    apply Array.ext
    ·grind
    grind[id,aX,ptrTo]
   grind[gX,ptrTo]
  split at h
  ·rename_i ds e6;simp only[aX,bH]at h;obtain⟨rfl,_,_⟩:=h;obtain⟨aP,ar⟩:=Mc e6;refine bZ.cl _ g ds (captured.map a.eval) (fun j=>(captured.map a.eval).getD j undef) (by grind) (fun j d aF=>?_) (fun j d aF=>?_)
   ·obtain⟨x,aa,_⟩:=ar j d aF;obtain⟨v,bD,_⟩:=sA j x aa;rw[bD];simp only[eW,bD,l0]
   obtain⟨x,aa,kB⟩:=ar j d aF;obtain⟨v,bD,ai⟩:=sA j x aa;have e:(captured.map a.eval).getD j undef=v:=by simp only[eW,bD,l0]
   rw[e];unfold RK at kB;split at kB
   ·rename_i tR aj;simp only[aX]at kB;subst kB;obtain⟨b,rfl,aB⟩:=aH.dX aj ai;exact aB.frame fun b q aq aC=>⟨aC,rfl⟩
   ·rename_i y aj;split at kB
    ·rename_i adX;simp only[aX]at kB;subst kB;have:v=y:=aH.dX aj ai;subst this;exact .v _ _ adX
    cases kB
   cases kB
  cases h
 cases h
def GU(P:Program)(st:aD)(b:Builtin)(args:List Operand)(ts:List TypeId)(ans:List cb):kN:=
 match b,args,ts with
 | .len,[x],[t]=>Mn P t (st.bp x) ans
 | .min,[x,y],_=>Ma (st.bp x) (st.bp y) ans
 | .max,[x,y],_=>Mb (st.bp x) (st.bp y) ans
 | _,_,_=>none
def rQ(P:Program)(st:aD)(op:Op)(ans:List cb):kN:=
 match op with
 | .move x | .assign x=>some (st.bp x,ans,[])
 | .pick c a b=>c7 (st.bp c) (st.bp a) (st.bp b) ans
 | .load t x=>GM P st t (st.bp x) ans
 | .nilCheck x=>TH (st.bp x) ans
 | .binOp op t x y _=>Mj P op t x y (st.bp x) (st.bp y) ans
 | .unOp op _ x=>L7 op (st.bp x) ans
 | .convert s d x=>L8 P s d (st.bp x) ans
 | .slice t x c5 hi jR=>GN P st t (st.bp x) c5 hi jR ans
 | .fieldAddr s x f=>Ml P s (st.bp x) f ans
 | .field t x f=>L6 P t (st.bp x) f ans
 | .indexAddr t x i=>Mm P t (st.bp x) (st.bp i) ans
 | .index t x i=>L9 P t (st.bp x) (st.bp i) ans
 | .extract x i=>Mr (st.bp x) i ans
 | .build t parts=>GO P st t parts.toList ans
 | .call ⟨.builtin b,args,ts⟩=>GU P st b args.toList ts.toList ans
 | .makeFunc fn first captured=>GR st fn first.toList captured.toList ans
 | _=>none
theorem j1{aM:World}{s:Sem Value}{z:Value}(h:s.run P w=.ok z aM):(do pure (.value (<-s)):Sem Next).run P w=.ok (.value z) aM:=by
 simp_all
theorem awO{b:Builtin}{args:Array Operand}{ts:Array TypeId}{ty:TypeId}{consts:Array Bool}
  (aZ:cD w0 st a w ω τ) (h:GU P st b args.toList ts.toList ans=some (r,cq,obs)):
  ∃z,(builtin b ts ty consts (args.map a.eval)).run P w=.ok (.value z) w/\cT (Sat w ω τ) r z:=by
 obtain⟨args⟩:=args;obtain⟨ts⟩:=ts;unfold GU at h;split at h
 ·rename_i x t e1 e2;simp only at e1 e2;subst e1 e2;obtain⟨z,h1,U⟩:=axc (ty:=ty) (aZ.bp x) h;refine⟨z,j1 (s:=Builtin.len_ #[t] ty (Array.map a.eval #[x])) ?_,U⟩;grind
 ·rename_i x y e1;simp only at e1;subst e1;obtain⟨z,h1,U⟩:=awL (P:=P) (ts:=⟨ts⟩) (ty:=ty) (aZ.bp x) (aZ.bp y) h;refine⟨z,j1 (s:=Builtin.min_ ⟨ts⟩ ty (Array.map a.eval #[x,y])) ?_,U⟩;grind
 ·rename_i x y e1;simp only at e1;subst e1;obtain⟨z,h1,U⟩:=awM (P:=P) (ts:=⟨ts⟩) (ty:=ty) (aZ.bp x) (aZ.bp y) h;refine⟨z,j1 (s:=Builtin.max_ ⟨ts⟩ ty (Array.map a.eval #[x,y])) ?_,U⟩;grind
 cases h
theorem Md{o:Oper}
  (aZ:cD w0 st a w ω τ) (h:rQ P st o.op ans=some (r,cq,obs)) (aW:c8 obs):
  ∃z,(execOp a.eval o).run P w=.ok (.value z) w/\cT (Sat w ω τ) r z:=by
 obtain⟨dst,op,type,pos,after,guard⟩:=o;simp only at h;unfold rQ at h;split at h
 ·rename_i x;simp only[aX,bH]at h;obtain⟨rfl,_,_⟩:=h;exact⟨a.eval x,rfl,aZ.bp x⟩
 ·rename_i x;simp only[aX,bH]at h;obtain⟨rfl,_,_⟩:=h;exact⟨a.eval x,rfl,aZ.bp x⟩
 ·rename_i c x y;exact awI (aZ.bp c) (aZ.bp x) (aZ.bp y) h aW
 ·rename_i t x;obtain⟨z,h1,U⟩:=axb aZ (aZ.bp x) h aW;exact⟨z,j1 h1,U⟩
 ·rename_i x;unfold TH at h;split at h
  ·rename_i id off e;simp only[aX,bH]at h;obtain⟨rfl,_,_⟩:=h;have ai:=aH.dX e (aZ.bp x);obtain⟨b,aq,aa⟩:=ai;exact⟨_,by simp_all[execOp],b,aq,rfl⟩
  ·rename_i t k es i j e;simp only[aX,bH]at h;obtain⟨rfl,_,_⟩:=h;have ai:=aH.dX e (aZ.bp x);have df:=ai;obtain⟨b,off,cap,aa,h1⟩:=ai;refine⟨_,by simp only[execOp,aa];rfl,?_⟩;rw[<-aa];exact df
  ·rename_i ds off e;simp only[aX,bH]at h;obtain⟨rfl,_,_⟩:=h;have ai:=aH.dX e (aZ.bp x);have df:=ai;obtain⟨b,aa,h1⟩:=ai;refine⟨_,by simp only[execOp,aa];rfl,?_⟩;rw[<-aa];exact df
  ·rename_i t i j k es aBC Rn e;simp only[aX,bH]at h;obtain⟨rfl,_,_⟩:=h;have ai:=aH.dX e (aZ.bp x);have df:=ai;obtain⟨fC,⟨b,off,cap,_,aa,_⟩,_⟩:=ai;refine⟨_,by simp only[execOp,aa];rfl,?_⟩;rw[<-aa];exact df
  cases h
 ·rename_i aeZ t x y sd;obtain⟨z,h1,U⟩:=aw7 (aZ.bp x) (aZ.bp y) h aW;exact⟨z,j1 h1,U⟩
 ·rename_i aeZ t x;obtain⟨z,h1,U⟩:=awH (aZ.bp x) h aW;exact⟨z,j1 h1,U⟩
 ·rename_i s d x;obtain⟨z,h1,U⟩:=awJ (aZ.bp x) h aW;exact⟨z,j1 h1,U⟩
 ·rename_i t x c5 hi jR;obtain⟨z,h1,U⟩:=axd aZ (aZ.bp x) h aW;exact⟨z,j1 h1,U⟩
 ·rename_i s x f;obtain⟨z,h1,U⟩:=aw8 (aZ.bp x) h;exact⟨z,j1 h1,U⟩
 ·rename_i t x f;obtain⟨z,h1,U⟩:=awG (aZ.bp x) h;exact⟨z,j1 h1,U⟩
 ·rename_i t x i;obtain⟨z,h1,U⟩:=aw9 (aZ.bp x) (aZ.bp i) h aW;exact⟨z,j1 h1,U⟩
 ·rename_i t x i;obtain⟨z,h1,U⟩:=awK (aZ.bp x) (aZ.bp i) h aW;exact⟨z,j1 h1,U⟩
 ·rename_i x i;obtain⟨z,h1,U⟩:=awF (P:=P) (aZ.bp x) h;exact⟨z,j1 h1,U⟩
 ·rename_i t parts;obtain⟨z,h1,U⟩:=awE aZ h;exact⟨z,j1 h1,U⟩
 ·rename_i b args ts;obtain⟨z,h1,U⟩:=awO (ty:=type) (consts:=args.map fun | .const _=>true | _=>false) aZ h;grind[execOp,resolve,Sem.run_bind,Sem.run_pure,Result.andThen_ok,invoke]
 ·rename_i fn first captured
  obtain⟨z,h1,U⟩:=awN (P:=P) aZ h;exact⟨z,j1 h1,U⟩
 cases h
