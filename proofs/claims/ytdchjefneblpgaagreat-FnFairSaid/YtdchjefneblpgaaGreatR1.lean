import Derived.WalkKit
import Derived.WalkSpells
import Derived.WalkLawsBesides
import Derived.KernelRfl
set_option linter.unusedVariables false
set_option linter.unusedSimpArgs false
namespace Go.Sx
open Go.RowKit
universe u v w x
theorem aa:True:=⟨⟩
theorem aX:type_of% @Option.some.injEq.{u}:=@Option.some.injEq.{u}
theorem ct:type_of% @List.length_map.{u,v}:=@List.length_map.{u,v}
theorem b9:type_of% @Option.map_eq_some_iff.{u,v}:=@Option.map_eq_some_iff.{u,v}
theorem bK:type_of% @Prod.mk.injEq.{u,v}:=@Prod.mk.injEq.{u,v}
theorem cR:type_of% @Bool.eq_false_or_eq_true:=@Bool.eq_false_or_eq_true
theorem mG:type_of% @decide_eq_false_iff_not:=@decide_eq_false_iff_not
theorem gI:type_of% @List.mem_cons_of_mem.{u}:=@List.mem_cons_of_mem.{u}
theorem et:type_of% @List.length_nil.{u}:=@List.length_nil.{u}
theorem ck:type_of% @decide_eq_true_eq:=@decide_eq_true_eq
theorem cw:type_of% @Bool.and_eq_true:=@Bool.and_eq_true
theorem gk:type_of% @List.getElem?_eq_some_iff.{u}:=@List.getElem?_eq_some_iff.{u}
theorem e7:type_of% @Array.getD_eq_getD_getElem?.{u}:=@Array.getD_eq_getD_getElem?.{u}
theorem hU:type_of% @List.mem_cons_self.{u}:=@List.mem_cons_self.{u}
theorem hc:type_of% @List.length_set.{u}:=@List.length_set.{u}
theorem bw:type_of% @if_neg.{u}:=@if_neg.{u}
theorem bn:type_of% @if_pos.{u}:=@if_pos.{u}
theorem gQ:type_of% @List.length_cons.{u}:=@List.length_cons.{u}
theorem dK:type_of% @List.getElem?_map.{u,v}:=@List.getElem?_map.{u,v}
theorem oL:type_of% @decide_eq_false:=@decide_eq_false
theorem iD:type_of% @List.getElem?_eq_getElem.{u}:=@List.getElem?_eq_getElem.{u}
theorem dV:type_of% @Nat.zero_add:=@Nat.zero_add
theorem gb:type_of% @List.mem_of_getElem?.{u}:=@List.mem_of_getElem?.{u}
theorem gJ:type_of% @Option.some.inj.{u}:=@Option.some.inj.{u}
theorem gl:type_of% @Bool.or_eq_false_iff:=@Bool.or_eq_false_iff
theorem kf:type_of% @Array.getElem?_eq_some_iff.{u}:=@Array.getElem?_eq_some_iff.{u}
theorem lJ:type_of% @List.getElem?_drop.{u}:=@List.getElem?_drop.{u}
theorem im:type_of% @Nat.mul_le_mul_right:=@Nat.mul_le_mul_right
theorem kS:type_of% @List.take_length.{u}:=@List.take_length.{u}
theorem nm:type_of% @Array.getElem?_eq_getElem.{u}:=@Array.getElem?_eq_getElem.{u}
theorem ka:type_of% @beq_iff_eq.{u}:=@beq_iff_eq.{u}
theorem kb:type_of% @List.getElem?_take.{u}:=@List.getElem?_take.{u}
theorem aB2:type_of% @List.cons.inj.{u}:=@List.cons.inj.{u}
theorem mD:type_of% @Array.getElem?_toList.{u}:=@Array.getElem?_toList.{u}
theorem hD:type_of% @List.mem_append_left.{u}:=@List.mem_append_left.{u}
theorem iC:type_of% @List.mem_append_right.{u}:=@List.mem_append_right.{u}
theorem kc:type_of% @Array.getElem?_append.{u}:=@Array.getElem?_append.{u}
theorem eH:type_of% @List.mem_cons.{u}:=@List.mem_cons.{u}
theorem gA:type_of% @List.all_eq_true.{u}:=@List.all_eq_true.{u}
theorem lK:type_of% @List.getD_eq_getElem?_getD.{u}:=@List.getD_eq_getElem?_getD.{u}
theorem fg:type_of% @Nat.le_refl:=@Nat.le_refl
theorem ft:type_of% @List.any_eq_false.{u}:=@List.any_eq_false.{u}
theorem uF:type_of% @Bool.eq_false_iff:=@Bool.eq_false_iff
theorem hT:type_of% @Nat.add_mul:=@Nat.add_mul
theorem hb:type_of% @Bool.not_eq_true':=@Bool.not_eq_true'
theorem qE:type_of% @List.getElem?_append.{u}:=@List.getElem?_append.{u}
theorem gi:type_of% @List.map_append.{u,v}:=@List.map_append.{u,v}
theorem lL:type_of% @Option.getD_some.{u}:=@Option.getD_some.{u}
theorem lM:type_of% @List.map_congr_left.{u,v}:=@List.map_congr_left.{u,v}
theorem kd:type_of% @Bool.not_eq_false':=@Bool.not_eq_false'
theorem pO:type_of% @List.getElem?_toArray.{u}:=@List.getElem?_toArray.{u}
theorem iU:type_of% @Bool.not_true:=@Bool.not_true
theorem io:type_of% @List.append_nil.{u}:=@List.append_nil.{u}
theorem hs:type_of% @List.length_append.{u}:=@List.length_append.{u}
theorem pP:type_of% @List.size_toArray.{u}:=@List.size_toArray.{u}
theorem pQ:type_of% @List.getElem?_set.{u}:=@List.getElem?_set.{u}
theorem kU:type_of% @Int.toNat_natCast:=@Int.toNat_natCast
theorem pR:type_of% @List.getElem?_cons_succ.{u}:=@List.getElem?_cons_succ.{u}
theorem mE:type_of% @List.getElem?_cons_zero.{u}:=@List.getElem?_cons_zero.{u}
theorem nn:type_of% @Option.bind_eq_some_iff.{u,v}:=@Option.bind_eq_some_iff.{u,v}
theorem uG:type_of% @List.findIdx?_eq_some_iff_getElem.{u}:=@List.findIdx?_eq_some_iff_getElem.{u}
theorem r2:type_of% @Option.isSome_iff_exists.{u}:=@Option.isSome_iff_exists.{u}
theorem pS:type_of% @List.mem_iff_getElem?.{u}:=@List.mem_iff_getElem?.{u}
theorem ke:type_of% @Bool.false_or:=@Bool.false_or
theorem qF:type_of% @List.set_set.{u}:=@List.set_set.{u}
theorem qG:type_of% @Option.bind_some.{u,v}:=@Option.bind_some.{u,v}
theorem nR:type_of% @Bool.false_eq_true:=@Bool.false_eq_true
theorem lg:type_of% @decide_eq_true:=@decide_eq_true
theorem abj:type_of% @Int.le_trans:=@Int.le_trans
theorem l5:type_of% @List.mem_flatMap.{u,v}:=@List.mem_flatMap.{u,v}
theorem wo:type_of% @List.getElem?_append_right.{u}:=@List.getElem?_append_right.{u}
theorem pT:type_of% @List.length_filter_le.{u}:=@List.length_filter_le.{u}
theorem hE:type_of% @List.map_set.{u,v}:=@List.map_set.{u,v}
theorem lN:type_of% @List.map_cons.{u,v}:=@List.map_cons.{u,v}
theorem tc:type_of% @Option.map_some.{u,v}:=@Option.map_some.{u,v}
theorem pU:type_of% @List.getElem_mem.{u}:=@List.getElem_mem.{u}
theorem nS:type_of% @List.length_take.{u}:=@List.length_take.{u}
theorem ia:type_of% @List.mem_append.{u}:=@List.mem_append.{u}
theorem nT:type_of% @List.append_assoc.{u}:=@List.append_assoc.{u}
theorem gj:type_of% @if_true.{u}:=@if_true.{u}
theorem oH:type_of% @Bool.not_false:=@Bool.not_false
theorem uH:type_of% @Array.size_append.{u}:=@Array.size_append.{u}
theorem qH:type_of% @List.take_add_one.{u}:=@List.take_add_one.{u}
theorem iq:type_of% @List.mem_or_eq_of_mem_set.{u}:=@List.mem_or_eq_of_mem_set.{u}
theorem AR:type_of% @List.getElem?_append_left.{u}:=@List.getElem?_append_left.{u}
theorem td:type_of% @List.mem_of_mem_take.{u}:=@List.mem_of_mem_take.{u}
theorem pV:type_of% @Bool.or_eq_true:=@Bool.or_eq_true
theorem oI:type_of% @Nat.add_zero:=@Nat.add_zero
theorem yz:type_of% @List.take_of_length_le.{u}:=@List.take_of_length_le.{u}
theorem oJ:type_of% @Bool.true_and:=@Bool.true_and
theorem lh:type_of% @List.mem_map.{u,v}:=@List.mem_map.{u,v}
theorem wq:type_of% @List.mem_of_mem_drop.{u}:=@List.mem_of_mem_drop.{u}
theorem Eo:type_of% @List.getElem?_replicate.{u}:=@List.getElem?_replicate.{u}
theorem qI:type_of% @Nat.lt_or_ge:=@Nat.lt_or_ge
theorem AS:type_of% @beq_eq_false_iff_ne.{u}:=@beq_eq_false_iff_ne.{u}
theorem te:type_of% @List.cons.injEq.{u}:=@List.cons.injEq.{u}
theorem IM:type_of% @List.findIdx?_eq_none_iff.{u}:=@List.findIdx?_eq_none_iff.{u}
theorem wu:type_of% @Bool.not_eq_true:=@Bool.not_eq_true
theorem pW:type_of% @List.not_mem_nil.{u}:=@List.not_mem_nil.{u}
theorem yA:type_of% @List.eq_nil_of_length_eq_zero.{u}:=@List.eq_nil_of_length_eq_zero.{u}
theorem abk:type_of% @List.take_append_of_le_length.{u}:=@List.take_append_of_le_length.{u}
theorem QB:type_of% @Array.length_toList.{u}:=@Array.length_toList.{u}
theorem wv:type_of% @beq_self_eq_true.{u}:=@beq_self_eq_true.{u}
theorem AT:type_of% @Nat.lt_of_lt_of_le:=@Nat.lt_of_lt_of_le
theorem IN:type_of% @Option.isSome_eq_false_iff.{u}:=@Option.isSome_eq_false_iff.{u}
theorem Ep:type_of% @List.take_append_drop.{u}:=@List.take_append_drop.{u}
theorem l6:type_of% @ne_eq.{u}:=@ne_eq.{u}
theorem IP:type_of% @Option.isNone_iff_eq_none.{u}:=@Option.isNone_iff_eq_none.{u}
theorem mF:type_of% @Nat.le_trans:=@Nat.le_trans
theorem tf:type_of% @List.map_id.{u}:=@List.map_id.{u}
theorem Er:type_of% @List.any_cons.{u}:=@List.any_cons.{u}
theorem AU:type_of% @List.mapM_cons.{u,v,w}:=@List.mapM_cons.{u,v,w}
theorem l7:type_of% @if_false.{u}:=@if_false.{u}
theorem oK:type_of% @List.any_eq_true.{u}:=@List.any_eq_true.{u}
theorem yB:type_of% @List.drop_zero.{u}:=@List.drop_zero.{u}
theorem aEf:type_of% @Int.natCast_zero:=@Int.natCast_zero
theorem yC:type_of% @List.flatMap_nil.{u,v}:=@List.flatMap_nil.{u,v}
theorem IQ:type_of% @Array.getElem?_eq_none.{u}:=@Array.getElem?_eq_none.{u}
theorem aB3:type_of% @Array.getElem?_map.{u,v}:=@Array.getElem?_map.{u,v}
theorem yD:type_of% @Option.toList_some.{u}:=@Option.toList_some.{u}
theorem yE:type_of% @List.range_zero:=@List.range_zero
theorem qJ:type_of% @List.map_take.{u,v}:=@List.map_take.{u,v}
theorem uI:type_of% @Bool.and_true:=@Bool.and_true
theorem ww:type_of% @List.length_range:=@List.length_range
theorem IS:type_of% @Nat.mod_eq_of_lt:=@Nat.mod_eq_of_lt
theorem IT:type_of% @Nat.add_assoc:=@Nat.add_assoc
theorem wx:type_of% @List.sum_cons.{u}:=@List.sum_cons.{u}
inductive D where
 | v (x:Value)
 | J (k:Nat) (es:List (List D))
 | ptr (ds:List D)
 | cl (g:FuncId) (bj:List D)
inductive dr where
 | bM
 | box (id:Nat)
 | tok (t:Nat) (q:List (Nat×Nat))
abbrev Own:=Nat->dr
def df(es:List (List D))(i j:Nat):Option D:=(es[i]?).bind (·[j]?)
inductive b4 (w:World) (ω:Own):(List (Nat×Nat)->dr->Prop)->D->Value->Prop
 | v (R:List (Nat×Nat)->dr->Prop) (x:Value) (h1:x.oneCell'=true):b4 w ω R (.v x) x
 | nil (R:List (Nat×Nat)->dr->Prop) (k:Nat) (a:Option Addr):b4 w ω R (.J k []) (.slice a 0 0)
 | row (R:List (Nat×Nat)->dr->Prop) (k:Nat) (es:List (List D)) (b off cap:Nat) (arr:Array Value) (ty:TypeId) (cZ:Nat×Nat) (us:Nat->Nat->Value)
   (aw:w.heap[b]?=some (.cells arr ty cZ)) (ed:R [] (ω b)) (ak:es.length<=cap) (ao:off+cap*k<=arr.size) (hk:∀e∈es,e.length=k)
   (hu:∀i j d,df es i j=some d->arr[off+i*k+j]?=some (us i j))
   (aE:∀i j d,df es i j=some d->b4 w ω (fun q=>R ((i,j)::q)) d (us i j)):
   b4 w ω R (.J k es) (.slice (some ⟨b,off,none⟩) es.length cap)
 | ptr (R:List (Nat×Nat)->dr->Prop) (ds:List D) (b:Nat) (arr:Array Value) (ty:TypeId) (cZ:Nat×Nat) (us:Nat->Value)
   (aw:w.heap[b]?=some (.cells arr ty cZ)) (ed:R [] (ω b)) (ao:arr.size=ds.length)
   (hu:∀j d,ds[j]?=some d->arr[j]?=some (us j)) (aE:∀j d,ds[j]?=some d->b4 w ω (fun q=>R ((0,j)::q)) d (us j)):
   b4 w ω R (.ptr ds) (.pointer (some ⟨b,0,none⟩))
 | cl (R:List (Nat×Nat)->dr->Prop) (g:FuncId) (bj:List D) (cs:Array Value) (us:Nat->Value) (ao:cs.size=bj.length)
   (hu:∀j d,bj[j]?=some d->cs[j]?=some (us j)) (aE:∀j d,bj[j]?=some d->b4 w ω (fun q=>R ((0,j)::q)) d (us j)):
   b4 w ω R (.cl g bj) (.func (.func g) #[] cs)
variable{w aP:World}{ω:Own}
theorem b4.frame{bf:Own}{R:List (Nat×Nat)->dr->Prop}{d:D}{v:Value}(h:b4 w ω R d v):
  ∀{jr:List (Nat×Nat)->dr->Prop},(∀b q,b<w.heap.size->R q (ω b)->jr q (bf b)/\aP.heap[b]?=w.heap[b]?)->b4 aP bf jr d v:=by
 induction h with
 | v R x h1=>intro jr _;exact .v jr x h1
 | nil R k a=>intro jr _;exact .nil jr k a
 | row R k es b off cap arr ty cZ us aw ed ak ao hk hu aE eg=>
  intro jr bF;have bS:b<w.heap.size:=by
   rcases qI b w.heap.size with h | h
   ·exact h
   simp[IQ h]at aw
  obtain⟨h1,U⟩:=bF b [] bS ed;exact .row jr k es b off cap arr ty cZ us (U.trans aw) h1 ak ao hk hu (fun i j d eN=>eg i j d eN (fun b q al aH=>bF b ((i,j)::q) al aH))
 | ptr R ds b arr ty cZ us aw ed ao hu aE eg=>
  intro jr bF;have bS:b<w.heap.size:=by
   rcases qI b w.heap.size with h | h
   ·exact h
   simp[IQ h]at aw
  obtain⟨h1,U⟩:=bF b [] bS ed;exact .ptr jr ds b arr ty cZ us (U.trans aw) h1 ao hu (fun j d eN=>eg j d eN (fun b q al aH=>bF b ((0,j)::q) al aH))
 | cl R g bj cs us ao hu aE eg=>
  intro jr bF;exact .cl jr g bj cs us ao hu (fun j d eN=>eg j d eN (fun b q al aH=>bF b ((0,j)::q) al aH))
inductive Tag where
 | free
 | own (t:Nat)
 | ro (t:Nat)
def Tag.R:Tag->List (Nat×Nat)->dr->Prop
 | .free,_,o=>o=.bM
 | .own t,q,o=>o=.tok t q
 | .ro t,_,o=>o=.bM\/∃q,o=.tok t q
def Tag.ei(τ:Nat->Nat×Value):Tag->Nat×Value->Prop
 | .own t,y=>τ t=y
 | _,_=>True
def dj:Nat:=1000000000
inductive fj where
 | cp
 | v (x:Value)
 | J (t:Tag) (k:Nat) (es:List (List D))
inductive wG where
 | here
 | mJ
 | at_ (x y:Nat)
def wG.rel(k n:Nat):wG->Value->Value->Prop
 | .at_ x y,u,v=>∃b off cap,u=.slice (some ⟨b,off,none⟩) n cap/\v=.pointer (some ⟨b,off+x*k+y,none⟩)/\x<n
 | _,u,v=>v=u
def wG.home:wG->Bool
 | .mJ=>false
 | _=>true
inductive aF where
 | cp
 | v (x:Value)
 | bg (c:Bool)
 | J (t:Tag) (k:Nat) (es:List (List D))
 | ptr (id off:Nat)
 | ep (t:Tag) (k:Nat) (es:List (List D)) (i j:Nat)
 | hQ (ds:List D) (off:Nat)
 | fd (d:D)
 | hg (g:FuncId) (ids:List Nat)
 | aN (t i j k:Nat) (es:List (List D)) (m:wG)
 | fD (t:Nat) (vs:List fj)
 | dA (t k:Nat) (es:List (List D))
def ptrTo(b:Nat):Value:=.pointer (some ⟨b,0,none⟩)
def r4(w:World)(ω:Own)(τ:Nat->Nat×Value):fj->Value->Prop
 | .cp,_=>True
 | .v x,y=>y=x
 | .J t k es,y=>b4 w ω t.R (.J k es) y/\t.ei τ (k,y)
def vm(w:World)(ω:Own)(τ:Nat->Nat×Value)(t i j:Nat)(u:Value):Prop:=
 ∃(kT b off len cap:Nat) (arr:Array Value) (ty:TypeId) (cZ:Nat×Nat),τ t=(kT,.slice (some ⟨b,off,none⟩) len cap)/\ω b=.tok t []/\w.heap[b]?=some (.cells arr ty cZ)/\arr[off+i*kT+j]?=some u
def Sat(w:World)(ω:Own)(τ:Nat->Nat×Value):aF->Value->Prop
 | .cp,_=>True
 | .v x,y=>y=x
 | .bg c,y=>y=.bool c
 | .J t k es,y=>b4 w ω t.R (.J k es) y/\t.ei τ (k,y)
 | .ptr id off,y=>∃b,ω b=.box id/\y=.pointer (some ⟨b,off,none⟩)
 | .ep t k es i j,y=>∃b off cap,y=.pointer (some ⟨b,off+i*k+j,none⟩)/\i<es.length/\
   b4 w ω t.R (.J k es) (.slice (some ⟨b,off,none⟩) es.length cap)/\t.ei τ (k,.slice (some ⟨b,off,none⟩) es.length cap)
 | .hQ ds off,y=>∃b,y=.pointer (some ⟨b,off,none⟩)/\b4 w ω Tag.free.R (.ptr ds) (ptrTo b)
 | .fd d,y=>b4 w ω Tag.free.R d y
 | .hg g ids,y=>∃bs:List Nat,y=.func (.func g) #[] (bs.map ptrTo).toArray/\bs.length=ids.length/\∀(i:Nat) (id:Nat),ids[i]?=some id->∃b,bs[i]?=some b/\ω b=.box id
 | .dA t k es,y=>b4 w ω Tag.free.R (.J k es) y/\(dj<=t->τ t=(k,y))
 | .aN t i j k es m,y=>∃u,m.rel k es.length u y/\b4 w ω (fun q o=>o=.tok t ((i,j)::q)) (.J k es) u/\(m.home=true->vm w ω τ t i j u)
 | .fD t vs,y=>∃(b:Nat) (ty:TypeId) (arr:Array Value),y=ptrTo b/\ω b=.tok t []/\w.heap[b]?=some (.cells arr ty (0,0))/\arr.size=vs.length/\∀(j:Nat) (c:fj),vs[j]?=some c->∃u,arr[j]?=some u/\r4 w ω τ c u
inductive bl where
 | one (l:aF)
 | agg (ls:List aF)
inductive aI where
 | aG (a:bl)
 | gx (as:List bl)
abbrev aI.one(l:aF):aI:=.aG (.one l)
abbrev aI.agg(ls:List aF):aI:=.aG (.agg ls)
abbrev aI.cp:aI:=.aG (.one .cp)
def k0(S:aF->Value->Prop)(ls:List aF)(vs:Array Value):Prop:=
 vs.size=ls.length/\∀(i:Nat) (l:aF),ls[i]?=some l->∃u,vs[i]?=some u/\S l u
def kZ(S:aF->Value->Prop):bl->Value->Prop
 | .one l,y=>S l y
 | .agg ls,y=>∃vs,y=.agg vs/\k0 S ls vs
def cV(S:aF->Value->Prop):aI->Value->Prop
 | .aG a,y=>kZ S a y
 | .gx as,y=>∃vs:Array Value,y=.tuple vs/\vs.size=as.length/\∀(i:Nat) (a:bl),as[i]?=some a->∃u,vs[i]?=some u/\kZ S a u
structure aC where
 env:List aI
 boxes:List (Nat×List aF)
def dI(id:Nat):List (Nat×List aF)->Option (List aF)
 | []=>none
 | (i,ls)::r=>if i=id then some ls else dI id r
def bl.map(f:aF->aF):bl->bl
 | .one l=>.one (f l)
 | .agg ls=>.agg (ls.map f)
def aI.map(f:aF->aF):aI->aI
 | .aG a=>.aG (a.map f)
 | .gx as=>.gx (as.map (bl.map f))
def aC.map(f:aF->aF)(s:aC):aC:=⟨s.env.map (aI.map f),s.boxes.map fun x=>(x.1,x.2.map f)⟩
variable{S:aF->Value->Prop}
theorem k0.map{ll:aF->Value->Prop}{f:aF->aF}(h:∀l v,S l v->ll (f l) v){ls:List aF}{vs:Array Value}(ao:k0 S ls vs):k0 ll (ls.map f) vs:=by
 refine⟨by simpa using ao.1,fun i l al=>?_⟩;rw[dK,b9]at al;obtain⟨eF,bO,rfl⟩:=al;obtain⟨u,h1,U⟩:=ao.2 i eF bO;exact⟨u,h1,h _ _ U⟩
theorem kZ.map{ll:aF->Value->Prop}{f:aF->aF}(h:∀l v,S l v->ll (f l) v):∀{a:bl} {y:Value},kZ S a y->kZ ll (a.map f) y
 | .one l,y,ao=>h _ _ ao
 | .agg ls,y,⟨vs,e,ao⟩=>⟨vs,e,ao.map h⟩
theorem cV.map{ll:aF->Value->Prop}{f:aF->aF}(h:∀l v,S l v->ll (f l) v):∀{p:aI} {y:Value},cV S p y->cV ll (p.map f) y
 | .aG a,y,ao=>show kZ ll (a.map f) y from kZ.map h (show kZ S a y from ao)
 | .gx as,y,⟨vs,e,aZ,ao⟩=>⟨vs,e,by simpa using aZ,fun i a ai=>by
   rw[dK,b9]at ai;obtain⟨a0,bO,rfl⟩:=ai;obtain⟨u,h1,U⟩:=ao i a0 bO;exact⟨u,h1,kZ.map h U⟩⟩
theorem tZ(f:aF->aF)(id:Nat):∀bs:List (Nat×List aF),dI id (bs.map fun x=>(x.1,x.2.map f))=(dI id bs).map (·.map f)
 | []=>rfl
 | (i,ls)::r=>by
  simp only[lN,dI];split
  ·rfl
  exact tZ f id r
structure eR where
 w:World
 G:Nat->Prop
 H:Nat->Nat×Value
def eR.Fw(B:eR)(b:Nat):Prop:=B.w.heap.size<=b\/B.G b
def LW:Bool:=true
structure hf (n:Nat) (w aP:World):Prop where
 below:Below n w aP
 drawn:LW=true->w.drawn<=aP.drawn
variable{n:Nat}
theorem hf.size(h:hf n w aP):w.heap.size<=aP.heap.size:=h.below.size
theorem hf.block(h:hf n w aP):∀k,k<n->aP.heap[k]?=w.heap[k]?:=h.below.block
theorem hf.refl(n:Nat)(w:World):hf n w w:=⟨Below.refl _ _,fun _=>fg _⟩
theorem hf.drew(h:hf n w aP):hf n w aP.drew:=⟨h.below.drew,fun ao=>Nat.le_succ_of_le (h.drawn ao)⟩
theorem hf.alloc(h:hf n w aP)(aZ:n<=aP.heap.size)(o:Obj):hf n w (aP.alloc o):=⟨h.below.alloc aZ o,h.drawn⟩
def DO:List (Nat×List Int):=[]
def qN(w:World):Prop:=∀x∈DO,∃ty cZ,w.heap[x.1]?=some (.cells (x.2.map (Value.int .u64)).toArray ty cZ)
theorem qN.lt(h:qN w){x:Nat×List Int}(af:x∈DO):x.1<w.heap.size:=by
 obtain⟨ty,cZ,e⟩:=h x af;rcases qI x.1 w.heap.size with h | h
 ·exact h
 simp[IQ h]at e
def Tidy(w:World)(ω:Own):Prop:=qN w/\∀x∈DO,ω x.1=.bM
structure hd (B:eR) (w:World):Prop where
 os:w.os=B.w.os
 tape:w.tape=B.w.tape
 output:w.output=B.w.output
 size:B.w.heap.size<=w.heap.size
 block:∀k,k<B.w.heap.size->¬B.G k->w.heap[k]?=B.w.heap[k]?
 drawn:LW=true->B.w.drawn<=w.drawn
 laid:qN w
 free:∀x∈Go.Sx.DO,¬B.Fw x.1
theorem qN.next(h:qN w)(k:hf w.heap.size w aP):qN aP:=fun x af=>by
 rw[k.below.block x.1 (h.lt af)];exact h x af
theorem hd.next{B:eR}(h:hd B w)(k:hf w.heap.size w aP):hd B aP:=
 ⟨k.below.os.trans h.os,k.below.tape.trans h.tape,k.below.output.trans h.output,mF h.size k.below.size,fun i hi ax=>(k.below.block i (AT hi h.size)).trans (h.block i hi ax),fun ao=>mF (h.drawn ao) (k.drawn ao),h.laid.next k,h.free⟩
def eR.of(w:World):eR:=⟨w,fun _=>False,fun _=>(0,undef)⟩
theorem hd.refl(B:eR)(h:qN B.w)(ax:∀x∈DO,¬B.G x.1):hd B B.w:=⟨rfl,rfl,rfl,fg _,fun _ _ _=>rfl,fun _=>fg _,h,fun x af hm=>by
 rcases hm with hm | hm
 ·exact absurd (h.lt af) (by omega)
 exact ax x af hm⟩
theorem hd.start{H:Nat->Nat×Value}(h:Tidy w ω):hd ⟨w,fun b=>ω b≠.bM,H⟩ w:=hd.refl ⟨w,fun b=>ω b≠.bM,H⟩ h.1 fun x af hm=>hm (h.2 x af)
theorem hd.below(h:hd (eR.of w) aP):hf w.heap.size w aP:=⟨⟨h.os,h.tape,h.output,h.size,fun k hk=>h.block k hk (fun h=>h)⟩,h.drawn⟩
theorem hd.setRow{B:eR}(h:hd B w){b:Nat}(aw:B.Fw b)(arr:Array Value):hd B (w.setRow b arr):=
 ⟨h.os,h.tape,h.output,by simpa using h.size,fun k hk ax=>by
  have:k≠b:=by
   rintro rfl;rcases aw with aw | aw
   ·omega
   exact ax aw
  rw[setRow_other w b k arr this];exact h.block k hk ax,h.drawn,fun x af=>by
  have:x.1≠b:=fun e=>h.free x af (e▸aw)
  rw[setRow_other w b x.1 arr this];exact h.laid x af,h.free⟩
def oM(w0:eR)(w:World)(ω:Own):Prop:=∀b,ω b≠.bM->w0.Fw b/\∃arr ty,w.heap[b]?=some (.cells arr ty (0,0))
def uJ(w:World)(ω:Own)(τ:Nat->Nat×Value)(id:Nat)(ls:List aF):Prop:=
 ∃b arr ty,ω b=.box id/\(∀dD,ω dD=.box id->dD=b)/\w.heap[b]?=some (.cells arr ty (0,0))/\k0 (Sat w ω τ) ls arr
structure cK (w0:eR) (st:aC) (a:Act) (w:World) (ω:Own) (τ:Nat->Nat×Value):Prop where
 defers:a.defers=[]
 size:a.tmps.size=st.env.length
 below:hd w0 w
 owned:oM w0 w ω
 fixed:∀t,dj<=t->τ t=w0.H t
 pinned:∀id b,dj<=id->ω b=.box id->(w0.H id).1=b
 env:∀(i:Nat) (p:aI),st.env[i]?=some p->∃v,a.tmps[i]?=some v/\cV (Sat w ω τ) p v
 boxes:∀id ls,dI id st.boxes=some ls->uJ w ω τ id ls
def Rel(w0:eR)(st:aC)(a:Act)(w:World):Prop:=∃ω τ,cK w0 st a w ω τ
structure wz (B:eR) (w:World):Prop where
 os:w.os=B.w.os
 tape:w.tape=B.w.tape
 output:w.output=B.w.output
 size:B.w.heap.size<=w.heap.size
 block:∀k,k<B.w.heap.size->¬B.G k->w.heap[k]?=B.w.heap[k]?
 drawn:LW=true->B.w.drawn<=w.drawn
theorem wz.full{H:Nat->Nat×Value}(h:wz ⟨w,fun b=>ω b≠.bM,H⟩ aP)(bG:Tidy w ω):hd ⟨w,fun b=>ω b≠.bM,H⟩ aP:=
 ⟨h.os,h.tape,h.output,h.size,h.block,h.drawn,fun x af=>by
  rw[h.block x.1 (bG.1.lt af) fun aZ=>aZ (bG.2 x af)];exact bG.1 x af,(hd.start (H:=H) bG).free⟩
variable{w0:eR}
theorem cK.tidy{st:aC}{a:Act}{bf:Own}{τ:Nat->Nat×Value}(h:cK w0 st a w ω τ)(dt:∀b,ω b=.bM->bf b=.bM):Tidy w bf:=
 ⟨h.below.laid,fun x af=>dt _ (Classical.byContradiction fun aZ=>h.below.free x af (h.owned _ aZ).1)⟩
theorem oM.lt(h:oM w0 w ω){b:Nat}(aw:ω b≠.bM):b<w.heap.size:=by
 obtain⟨_,arr,ty,e⟩:=h b aw;rcases qI b w.heap.size with h | h
 ·exact h
 simp[IQ h]at e
theorem oM.fresh(h:oM w0 w ω){b:Nat}(aw:w.heap.size<=b):ω b=.bM:=by
 cases e:ω b with
 | bM=>rfl
 | box id=>have:=h.lt (b:=b) (by simp[e]);omega
 | tok t q=>have:=h.lt (b:=b) (by simp[e]);omega
end Go.Sx
namespace Go.Sx
open Go.RowKit
def fj.cM(g:Tag->Option Tag):fj->fj
 | .J t k es=>match g t with | some du=>.J du k es | none=>.cp
 | c=>c
def aF.cM(g:Tag->Option Tag)(p:Nat->Bool):aF->aF
 | .J t k es=>match g t with | some du=>.J du k es | none=>.cp
 | .ep t k es i j=>match g t with | some du=>.ep du k es i j | none=>.cp
 | .ptr id off=>if p id then .ptr id off else .cp
 | .hg f ids=>if ids.all p then .hg f ids else .cp
 | .aN t i j k es m=>match g (.own t) with | some (.own du)=>if du=t then .aN t i j k es m else .cp | _=>.cp
 | .fD t vs=>match g (.own t) with | some (.own du)=>if du=t then .fD t (vs.map (fj.cM g)) else .cp | _=>.cp
 | l=>l
structure mI (w:World) (ω:Own) (τ:Nat->Nat×Value) (aP:World) (bf:Own) (c0:Nat->Nat×Value) (g:Tag->Option Tag) (p:Nat->Bool):Prop where
 rep:∀t du b q,g t=some du->b<w.heap.size->t.R q (ω b)->du.R q (bf b)/\aP.heap[b]?=w.heap[b]?
 ei:∀t du y,g t=some du->t.ei τ y->du.ei c0 y
 box:∀id b,p id=true->ω b=.box id->bf b=.box id
 free:g .free=some .free
 fix:∀t,dj<=t->c0 t=τ t
variable{w aP:World}{ω bf:Own}{τ c0:Nat->Nat×Value}{g:Tag->Option Tag}
theorem Ge(h:∀c u,r4 w ω τ c u->r4 aP bf c0 (fj.cM g c) u){arr:Array Value}{vs:List fj}
  (aZ:arr.size=vs.length) (bI:∀(j:Nat) (c:fj),vs[j]?=some c->∃u,arr[j]?=some u/\r4 w ω τ c u):
  arr.size=(vs.map (fj.cM g)).length/\∀(j:Nat) (c:fj),(vs.map (fj.cM g))[j]?=some c->∃u,arr[j]?=some u/\r4 aP bf c0 c u:=by
 refine⟨by simpa using aZ,fun j c ak=>?_⟩;rw[dK,b9]at ak;obtain⟨c5,bO,rfl⟩:=ak;obtain⟨u,h1,U⟩:=bI j c5 bO;exact⟨u,h1,h c5 u U⟩
theorem mI.nE{p:Nat->Bool}(h:mI w ω τ aP bf c0 g p)(c:fj)(u:Value)(ao:r4 w ω τ c u):r4 aP bf c0 (fj.cM g c) u:=by
 cases c with
 | cp=>exact trivial
 | v x=>exact ao
 | J t k es=>
  simp only[fj.cM];cases ax:g t with
  | none=>exact trivial
  | some du=>exact⟨ao.1.frame fun b q aw aH=>h.rep t du b q ax aw aH,h.ei t du _ ax ao.2⟩
theorem mI.sat{g:Tag->Option Tag}{p:Nat->Bool}(h:mI w ω τ aP bf c0 g p):
  ∀(l:aF) (v:Value),Sat w ω τ l v->Sat aP bf c0 (l.cM g p) v:=by
 intro l v ao;cases l with
 | cp=>exact trivial
 | v x=>exact ao
 | bg c=>exact ao
 | J t k es=>
  simp only[aF.cM];cases ax:g t with
  | none=>exact trivial
  | some du=>exact⟨ao.1.frame fun b q aw aH=>h.rep t du b q ax aw aH,h.ei t du _ ax ao.2⟩
 | ptr id off=>
  simp only[aF.cM];split
  ·obtain⟨b,aw,e⟩:=ao;exact⟨b,h.box id b ‹_› aw,e⟩
  exact trivial
 | hg f ids=>
  simp only[aF.cM];split
  ·rename_i hp;obtain⟨bs,e,aZ,hi⟩:=ao;refine⟨bs,e,aZ,fun i id hx=>?_⟩;obtain⟨b,h1,U⟩:=hi i id hx;exact⟨b,h1,h.box id b (gA.1 hp id (gb hx)) U⟩
  exact trivial
 | hQ ds off=>
  obtain⟨b,e,aD⟩:=ao;exact⟨b,e,aD.frame fun b q aw aH=>h.rep .free .free b q h.free aw aH⟩
 | fd d=>exact b4.frame ao fun b q aw aH=>h.rep .free .free b q h.free aw aH
 | dA t k es=>exact⟨ao.1.frame fun b q aw aH=>h.rep .free .free b q h.free aw aH,fun bG=>(h.fix t bG).trans (ao.2 bG)⟩
 | aN t i j k es m=>
  simp only[aF.cM];split
  ·rename_i du ax;split
   ·rename_i bG;subst bG;obtain⟨u,hu,h1,hm⟩:=ao;refine⟨u,hu,h1.frame fun c q ak aH=>h.rep _ _ c _ ax ak aH,fun bN=>?_⟩;obtain⟨kT,b,off,len,cap,arr,ty,cZ,U,a',aA,aJ⟩:=hm bN;have bS:b<w.heap.size:=(kf.1 aA).1;have hk:=h.rep _ _ b [] ax bS a';exact⟨kT,b,off,len,cap,arr,ty,cZ,h.ei _ _ _ ax U,hk.1,hk.2.trans aA,aJ⟩
   exact trivial
  exact trivial
 | fD t vs=>
  simp only[aF.cM];split
  ·rename_i du ax;split
   ·rename_i bG;subst bG;obtain⟨b,ty,arr,e,a',aA,aZ,bI⟩:=ao;have bS:b<w.heap.size:=(kf.1 aA).1;have hk:=h.rep _ _ b [] ax bS a';exact⟨b,ty,arr,e,hk.1,hk.2.trans aA,Ge (h.nE) aZ bI⟩
   exact trivial
  exact trivial
 | ep t k es i j=>
  simp only[aF.cM];cases ax:g t with
  | none=>exact trivial
  | some du=>
   obtain⟨b,off,cap,e,hi,aD,bN⟩:=ao;exact⟨b,off,cap,e,hi,aD.frame fun b q aw aH=>h.rep t du b q ax aw aH,h.ei t du _ ax bN⟩
variable{a:Act}
theorem abP{d:Nat}{v:Value}{i:Nat}:(a.put (some d) v).tmps[i]?=if d=i/\i<a.tmps.size then some v else a.tmps[i]?:=by
 simp only[Act.put,Array.getElem?_setIfInBounds];by_cases h:d=i
 ·subst h;by_cases U:d<a.tmps.size
  ·simp[U]
  simp[U]
 simp[h]
variable{w0:eR}{st:aC}
theorem cK.put(h:cK w0 st a w ω τ){d:Nat}{p:aI}{v:Value}(ao:cV (Sat w ω τ) p v):
  cK w0 ⟨st.env.set d p,st.boxes⟩ (a.put (some d) v) w ω τ where
 defers:=h.defers
 size:=by simp[Act.put,h.size]
 below:=h.below
 owned:=h.owned
 fixed:=h.fixed
 pinned:=h.pinned
 boxes:=h.boxes
 env:=by
  intro i q aH;rw[pQ]at aH;rw[abP];by_cases aE:d=i
  ·subst aE;simp only[gj]at aH;split at aH
   ·rename_i bS;have e:=gJ aH;subst e;exact⟨v,by rw[bn ⟨rfl,by rw[h.size];exact bS⟩],ao⟩
   cases aH
  rw[bw aE]at aH;rw[bw (by simp[aE])];exact h.env i q aH
theorem cK.Je{p:Nat->Bool}
  (h:cK w0 st a w ω τ) (e:mI w ω τ aP bf c0 g p) (se:hd w0 aP) (rf:oM w0 aP bf) {bs:List (Nat×List aF)}
  (tB:∀id ls,dI id bs=some ls->uJ aP bf c0 id ls) (wY:∀id b,dj<=id->bf b=.box id->ω b=.box id) (u6:∀t,dj<=t->c0 t=τ t:=by intros;rfl):cK w0 ⟨st.env.map (aI.map (aF.cM g p)),bs⟩ a aP bf c0 where
 defers:=h.defers
 size:=by simp[h.size]
 below:=se
 owned:=rf
 fixed:=fun t bG=>(u6 t bG).trans (h.fixed t bG)
 pinned:=fun id b hi aw=>h.pinned id b hi (wY id b hi aw)
 boxes:=tB
 env:=by
  intro i q aH;rw[dK,b9]at aH;obtain⟨gE,bO,rfl⟩:=aH;obtain⟨v,h1,U⟩:=h.env i gE bO;exact⟨v,h1,cV.map e.sat U⟩
theorem ot(w:World)(o:Obj):(w.alloc o).heap[w.heap.size]?=some o:=by
 show (w.heap.push o)[_]?=_;simp
theorem xl(w:World)(o:Obj){i:Nat}(h:i<w.heap.size):(w.alloc o).heap[i]?=w.heap[i]?:=Below.heap_alloc w o i h
def qp(id:Nat):List (Nat×List aF)->List (Nat×List aF)
 | []=>[]
 | (i,ls)::r=>if i=id then qp id r else (i,ls)::qp id r
theorem LX(id:Nat):∀bs,dI id (qp id bs)=none
 | []=>rfl
 | (i,ls)::r=>by
  simp only[qp];split
  ·exact LX id r
  simp only[dI];rw[bw ‹_›];exact LX id r
theorem zI{id iK:Nat}(h:iK≠id):∀bs,dI iK (qp id bs)=dI iK bs
 | []=>rfl
 | (i,ls)::r=>by
  simp only[qp,dI];by_cases h1:i=id
  ·rw[bn h1,bw (by omega)];exact zI h r
  rw[bw h1];simp only[dI];split
  ·rfl
  exact zI h r
def sA:Tag->Option Tag:=some
def ko(id:Nat):Nat->Bool:=fun i=>decide (i≠id)
def aC.vj(st:aC)(id:Nat)(ls:List aF):aC:=
 let f:=aF.cM sA (ko id)
 ⟨st.env.map (aI.map f),(id,ls.map f)::(qp id st.boxes).map fun x=>(x.1,x.2.map f)⟩
theorem cK.vj(h:cK w0 st a w ω τ)(id:Nat)(hx:id<dj){ls:List aF}{arr:Array Value}(ty:TypeId)
  (ao:k0 (Sat w ω τ) ls arr):
  ∃bf,cK w0 (st.vj id ls) a (w.alloc (.cells arr ty)) bf τ/\bf w.heap.size=.box id:=by
 let bf:Own:=fun b=>if b=w.heap.size then .box id else match ω b with | .box i=>if i=id then .bM else .box i | o=>o
 have ho:bf w.heap.size=.box id:=by simp[bf]
 have hold:∀b,b<w.heap.size->bf b=(match ω b with | .box i=>if i=id then .bM else .box i | o=>o):=by
  intro b aw;simp only[bf];rw[bw (by omega)]
 have ju:∀b,b≠w.heap.size->bf b=(match ω b with | .box i=>if i=id then .bM else .box i | o=>o):=by
  intro b aw;simp only[bf];rw[bw aw]
 have bq:mI w ω τ (w.alloc (.cells arr ty)) bf τ sA (ko id):=by
  refine⟨?_,?_,?_,rfl,fun _ _=>rfl⟩
  ·intro t du b q ax aw aH;simp only[sA,aX]at ax;subst ax;refine⟨?_,xl _ _ aw⟩;rw[hold b aw];cases t with
   | free=>simp only[Tag.R]at aH ⊢;rw[aH]
   | own s=>simp only[Tag.R]at aH ⊢;rw[aH]
   | ro s=>
    simp only[Tag.R]at aH ⊢;rcases aH with aH | ⟨ec,aH⟩
    ·rw[aH];exact .inl rfl
    rw[aH];exact .inr ⟨ec,rfl⟩
  ·intro t du y ax bD;simp only[sA,aX]at ax;subst ax;exact bD
  intro i b hp aw;have bS:=h.owned.lt (b:=b) (by simp[aw]);rw[hold b bS,aw];simp only[ko,ck]at hp;simp[hp]
 have se:hd w0 (w.alloc (.cells arr ty)):=h.below.next ((hf.refl _ _).alloc (fg _) _);have rf:oM w0 (w.alloc (.cells arr ty)) bf:=by
  intro b aw;by_cases aZ:b=w.heap.size
  ·subst aZ;exact⟨.inl h.below.size,arr,ty,ot _ _⟩
  rw[ju b aZ]at aw;have U:ω b≠.bM:=by intro e;rw[e]at aw;exact aw rfl
  obtain⟨aA,cm,rX,e⟩:=h.owned b U;exact⟨aA,cm,rX,(xl _ _ (h.owned.lt U)).trans e⟩
 refine⟨bf,?_,ho⟩;refine h.Je bq se rf ?_ (fun i b hi aw=>?_)
 case refine_2=>
  by_cases aZ:b=w.heap.size
  ·subst aZ;rw[ho]at aw;simp only[dr.box.injEq]at aw;omega
  rw[ju b aZ]at aw;cases e:ω b with
  | bM=>simp[e]at aw
  | tok t q=>simp[e]at aw
  | box j=>
   simp only[e]at aw;split at aw
   ·cases aw
   exact aw
 intro i fQ al;simp only[dI]at al;split at al
 ·rename_i hi;subst hi;have e:=gJ al;subst e;refine⟨w.heap.size,arr,ty,ho,?_,ot _ _,ao.map bq.sat⟩;intro dD ey;by_cases aZ:dD=w.heap.size
  ·exact aZ
  rw[ju dD aZ]at ey;cases e:ω dD with
  | bM=>simp[e]at ey
  | tok t q=>simp[e]at ey
  | box j=>
   simp only[e]at ey;split at ey
   ·cases ey
   rename_i cX;simp only[dr.box.injEq]at ey;exact absurd ey cX
 rename_i hi;rw[tZ,b9]at al;obtain⟨jY,bO,rfl⟩:=al;have cX:i≠id:=fun e=>hi e.symm
 rw[zI cX]at bO;obtain⟨b,cm,rX,aw,hu,bN,e0⟩:=h.boxes i jY bO;have bS:=h.owned.lt (b:=b) (by simp[aw]);refine⟨b,cm,rX,bq.box i b (by simp[ko,cX]) aw,?_,(xl _ _ bS).trans bN,e0.map bq.sat⟩;intro dD ey;by_cases aZ:dD=w.heap.size
 ·subst aZ;rw[ho]at ey;simp only[dr.box.injEq]at ey;exact absurd ey.symm cX
 rw[ju dD aZ]at ey;refine hu dD ?_;cases e:ω dD with
 | bM=>simp[e]at ey
 | tok t q=>simp[e]at ey
 | box j=>
  simp only[e]at ey;split at ey
  ·cases ey
  exact ey
end Go.Sx
namespace Go.Sx
open Go.RowKit
inductive cP where
 | one (d:D)
 | agg (ds:List D)
inductive aY where
 | vals (rs:List cP)
 | iM (src:List (Option Nat)) (ds:List D)
abbrev aY.new (ds : List D) : aY := .iM [] ds
inductive hV where
 | normal
 | exit (id:Nat)
 | ret
inductive cd where
 | own
 | sub
 | rV (w':List (List (Option (Option (List (List D)))))) (src:Nat) (ds:List D) (rs:List cP)
 | res (rs:List cP)
 | dN (w':List (Option (List D))) (r:aY)
 | loop (Fx:List (Nat×Nat×Nat)) (e3 boxes:List Nat) (e:hV) (st:aC)
 | pZ (b:Bool)
 | el (ds:List D)
 | wr
 | eq (c:Bool)
 | num (n:Int)
 | pq (p:aI)
 | jl (st:aC)
def cQ:List Prop->Prop
 | []=>True
 | p::r=>p/\cQ r
theorem cQ.append:∀{a b:List Prop},cQ (a++b)->cQ a/\cQ b
 | [],_,h=>⟨aa,h⟩
 | _::_,_,h=>⟨⟨h.1,(cQ.append h.2).1⟩,(cQ.append h.2).2⟩
abbrev ku:=Option (aI×List cd×List Prop)
def EL:Value->aI
 | .agg cs=>.agg (cs.toList.map .v)
 | v=>.one (.v v)
def aC.bq(st:aC):Operand->aI
 | .tmp t=>st.env.getD t .cp
 | .const v=>EL v
 | .func f=>.one (.fd (.cl f []))
 | _=>.cp
theorem aw2(w:World)(ω:Own)(τ:Nat->Nat×Value)(v:Value):cV (Sat w ω τ) (EL v) v:=by
 unfold EL;split
 ·rename_i cs;refine⟨cs,rfl,by simp,fun i l al=>?_⟩;rw[dK,b9]at al;obtain⟨u,hu,rfl⟩:=al;exact⟨u,by simpa using hu,rfl⟩
 exact rfl
variable{w:World}{ω:Own}{τ:Nat->Nat×Value}
theorem cK.bq{w0:eR}{st:aC}{a:Act}(h:cK w0 st a w ω τ)(x:Operand):cV (Sat w ω τ) (st.bq x) (a.eval x):=by
 cases x with
 | tmp t=>
  simp only[aC.bq,Act.eval];cases e:st.env[t]? with
  | none=>
   rw[lK,e];exact trivial
  | some p=>
   obtain⟨v,bI,ao⟩:=h.env t p e;rw[lK,e];simpa[e7,bI]using ao
 | const v=>exact aw2 w ω τ v
 | global g=>exact trivial
 | func f=>exact b4.cl _ f [] #[] (fun _=>undef) rfl (fun j d aE=>by simp at aE) (fun j d aE=>by simp at aE)
def aF.val:aF->Option Value
 | .v x=>some x
 | .bg c=>some (.bool c)
 | _=>none
variable{y:Value}
theorem aF.Zz{l:aF}{x:Value}(h:l.val=some x)(ao:Sat w ω τ l y):y=x:=by
 cases l<;>simp[aF.val]at h
 ·subst h;exact ao
 subst h;exact ao
def aI.leaf:aI->Option aF
 | .aG (.one l)=>some l
 | _=>none
theorem aI.dS{S:aF->Value->Prop}{p:aI}{l:aF}(h:p.leaf=some l)(ao:cV S p y):S l y:=by
 cases p with
 | gx as=>cases h
 | aG a=>
  cases a with
  | agg ls=>cases h
  | one gV=>simp only[aI.leaf,aX]at h;subst h;exact ao
def aI.int(p:aI):Option (IntKind×Int):=
 match p.leaf with
 | some (.v (.int k n))=>some (k,n)
 | _=>none
variable{p:aI}{k:IntKind}
theorem aI.o9{n:Int}(h:p.int=some (k,n))(ao:cV (Sat w ω τ) p y):y=.int k n:=by
 unfold aI.int at h;split at h
 ·rename_i ch ad7 e;simp only[aX,bK]at h;obtain⟨rfl,rfl⟩:=h;exact aI.dS e ao
 cases h
def aI.vals:aI->Option (List Value)
 | .aG (.agg ls)=>ls.mapM aF.val
 | _=>none
theorem S1{w:World}{ω:Own}{τ:Nat->Nat×Value}:∀{ls:List aF} {xs:List Value},ls.mapM aF.val=some xs->∀{vs:List Value},vs.length=ls.length->(∀(i:Nat) (l:aF),ls[i]?=some l->∃u,vs[i]?=some u/\Sat w ω τ l u)->vs=xs
 | [],xs,h,vs,aZ,_=>by
  simp at h;subst h;exact yA aZ
 | l::ls,xs,h,vs,aZ,ao=>by
  rw[AU]at h;cases e:l.val with
  | none=>simp[e]at h
  | some x=>
   cases e2:ls.mapM aF.val with
   | none=>simp[e,e2]at h
   | some ys=>
    simp[e,e2]at h;subst h;cases vs with
    | nil=>simp at aZ
    | cons v vs=>
     obtain⟨u,hu,e0⟩:=ao 0 l rfl;simp at hu;subst hu;rw[aF.Zz e e0]
     congr 1
     exact S1 e2 (by simpa using aZ) (fun i gV al=>by have:=ao (i+1) gV (by simpa using al);simpa using this)
theorem aI.aBE{xs:List Value}(h:p.vals=some xs)(ao:cV (Sat w ω τ) p y):y=.agg xs.toArray:=by
 cases p with
 | gx as=>cases h
 | aG a=>
  cases a with
  | one l=>cases h
  | agg ls=>
   obtain⟨vs,rfl,aZ,bI⟩:=ao;have:=S1 (w:=w) (ω:=ω) (τ:=τ) h (vs:=vs.toList) (by simpa using aZ) (fun i l al=>by obtain⟨u,h1,U⟩:=bI i l al;exact⟨u,by simpa using h1,U⟩);rw[<-this]
def aL(k:IntKind)(e:Int):Prop:=
 match k with
 | .i64=>-9223372036854775808<=e/\e<=9223372036854775807
 | k=>k.wrap e=e
theorem aL.wrap{e:Int}(h:aL k e):k.wrap e=e:=by
 cases k<;>first | exact h | (simp only[aL]at h;rw[IntKind.wrap_i64];omega)
def arith(k:IntKind)(e:Int)(ans:List cd):ku:=
 match ans with
 | .wr::r=>some (.one (.v (.int k (k.wrap e))),r,[])
 | _=>some (.one (.v (.int k e)),ans,[aL k e])
variable{ans cu:List cd}{obs:List Prop}
theorem zJ{e:Int}(h:arith k e ans=some (p,cu,obs))(a7:cQ obs):cV (Sat w ω τ) p (.int k (k.wrap e)):=by
 unfold arith at h;split at h
 ·simp only[aX,bK]at h;obtain⟨rfl,_,_⟩:=h;exact rfl
 simp only[aX,bK]at h;obtain⟨rfl,_,rfl⟩:=h;rw[a7.1.wrap];exact rfl
def m'(P:Program)(op:BinOp)(t:TypeId)(x y:Operand)(u v c:Value):Prop:=
 ∀w:World,((do eqGuard op t x y u v;binOp op t u v:Sem Value)).run P w=.ok c w
def LY(op:BinOp)(k:IntKind)(x y:Int)(ans:List cd):ku:=
 match op with
 | .add=>arith k (x+y) ans
 | .sub=>arith k (x-y) ans
 | .mul=>arith k (x*y) ans
 | .quo=>(arith k (x.tdiv y) ans).map fun r=>(r.1,r.2.1,(y≠0)::r.2.2)
 | .rem=>some (.one (.v (.int k (x.tmod y))),ans,[y≠0])
 | .eql=>some (.one (.bg (x==y)),ans,[])
 | .neq=>some (.one (.bg (x != y)),ans,[])
 | .lss=>some (.one (.bg (decide (x<y))),ans,[])
 | .leq=>some (.one (.bg (decide (x<=y))),ans,[])
 | .gtr=>some (.one (.bg (decide (x>y))),ans,[])
 | .geq=>some (.one (.bg (decide (x>=y))),ans,[])
 | _=>none
variable{P:Program}{op:BinOp}
theorem aw3{x y:Int}(t:TypeId)(aeg aeh:Operand)
  (h:LY op k x y ans=some (p,cu,obs)) (a7:cQ obs):
  ∃v,((do eqGuard op t aeg aeh (.int k x) (.int k y);binOp op t (.int k x) (.int k y):Sem Value)).run P w=.ok v w/\cV (Sat w ω τ) p v:=by
 rw[eqGuard_at_int];simp only[Sem.run_bind,Sem.run_pure,Result.andThen_ok];cases op<;>simp only[LY,aX,bK,reduceCtorEq]at h
 case add=>exact⟨_,by rw[binOp_add];rfl,zJ h a7⟩
 case sub=>exact⟨_,by rw[binOp_sub];rfl,zJ h a7⟩
 case mul=>exact⟨_,by rw[binOp_mul];rfl,zJ h a7⟩
 case quo=>
  rw[b9]at h;obtain⟨⟨ry,cO,rq⟩,h1,U⟩:=h;simp only[bK]at U;obtain⟨rfl,rfl,rfl⟩:=U;refine⟨_,?_,zJ h1 a7.2⟩;rw[binOp_quo];simp[Op.intDiv,a7.1]
 case rem=>
  obtain⟨rfl,_,rfl⟩:=h;refine⟨_,?_,rfl⟩;rw[binOp_rem];simp[Op.intDiv,a7.1]
 case eql=>obtain⟨rfl,_,rfl⟩:=h;exact⟨_,by rw[binOp_eql];rfl,rfl⟩
 case neq=>obtain⟨rfl,_,rfl⟩:=h;exact⟨_,by rw[binOp_neq];rfl,rfl⟩
 case lss=>obtain⟨rfl,_,rfl⟩:=h;exact⟨_,by rw[binOp_lss];rfl,rfl⟩
 case leq=>obtain⟨rfl,_,rfl⟩:=h;exact⟨_,by rw[binOp_leq];rfl,rfl⟩
 case gtr=>obtain⟨rfl,_,rfl⟩:=h;exact⟨_,by rw[binOp_gtr];rfl,rfl⟩
 case geq=>obtain⟨rfl,_,rfl⟩:=h;exact⟨_,by rw[binOp_geq];rfl,rfl⟩
def aI.value(p:aI):Option Value:=
 match p with
 | .aG (.one l)=>l.val
 | p=>p.vals.map fun xs=>.agg xs.toArray
theorem aI.AM{x:Value}(h:p.value=some x)(ao:cV (Sat w ω τ) p y):y=x:=by
 unfold aI.value at h;split at h
 ·exact aF.Zz h ao
 rw[b9]at h;obtain⟨xs,h1,rfl⟩:=h;exact aI.aBE h1 ao
def xm(P:Program)(t:TypeId):Option Bool:=
 match P.underlying t with
 | some (.struct _) | some (.array _ _)=>some true
 | some _=>some false
 | none=>none
variable{t:TypeId}
theorem zK{b:Bool}(h:xm P t=some b)(w:World):(isAgg t).run P w=.ok b w:=by
 unfold xm at h;unfold isAgg;split at h
 ·rename_i hu;simp only[aX]at h;subst h;simp[run_underlying hu]
 ·rename_i hu;simp only[aX]at h;subst h;simp[run_underlying hu]
 ·rename_i d h1 U hu;simp only[aX]at h;subst h;rw[Sem.run_bind,run_underlying hu];cases d<;>first | rfl | (exact absurd rfl (h1 _)) | (exact absurd rfl (U _ _))
 cases h
def FB(P:Program)(t:TypeId)(cs:Array Value)(off:Nat):Option Value:=
 match xm P t,P.info? t with
 | some true,some i=>some (.agg (cs.extract off (off+i.size)))
 | some false,_=>cs[off]?
 | _,_=>none
variable{v:Value}
theorem S2{cs:Array Value}{off:Nat}(h:FB P t cs off=some v)(w:World):(part t cs off).run P w=.ok v w:=by
 unfold FB at h;split at h
 ·rename_i i e1 e2;simp only[aX]at h;subst h;simp[part,zK e1,sizeOf,typeInfo,e2]
 ·rename_i e1;simp[part,zK e1,h]
 cases h
def A9(P:Program)(f:TypeId->Value->Value->Option Bool)(xs ys:Array Value):List Field->Option Bool
 | []=>some true
 | fd::r=>
  if fd.name = "_" then none else
  match FB P fd.type xs fd.offset,FB P fd.type ys fd.offset with
  | some a,some b=>
   match f fd.type a b with
   | some c=>
    match r with
    | []=>some c
    | r=>(A9 P f xs ys r).map fun kz=>c&&kz
   | none=>none
  | _,_=>none
def yS(P:Program):Nat->TypeId->Value->Value->Option Bool
 | 0,_,_,_=>none
 | m+1,t,x,y=>
  match P.underlying t,x,y with
  | some .bool,.bool a,.bool b=>some (a==b)
  | some (.int _),.int k a,.int ch b=>if k=ch then some (a==b) else none
  | some .string,.string a,.string b=>some (a.toList==b.toList)
  | some (.struct eS),.agg xs,.agg ys=>if P.stoodInHeld t then none else A9 P (yS P m) xs ys eS.toList
  | _,_,_=>none
theorem S3{d:Nat}{f:TypeId->Value->Value->Option Bool}(bF:∀t x y c,f t x y=some c->∀w,(Op.equalIn d t x y).run P w=.ok c w){xs ys:Array Value}:
  ∀{eS:List Field} {c:Bool},A9 P f xs ys eS=some c->∀w,(Op.eqFields d xs ys eS).run P w=.ok c w
 | [],c,h,w=>by simp only[A9,aX]at h;subst h;simp[Op.eqFields]
 | fd::r,c,h,w=>by
  simp only[A9]at h;split at h
  ·cases h
  rename_i aZ;split at h
  ·rename_i a b e1 e2;split at h
   ·rename_i c1 cj;simp only [Op.eqFields, bn (show fd.name ≠ "_" from aZ), Sem.run_bind, S2 e1, S2 e2, Result.andThen_ok, bF _ _ _ _ cj, Sem.run_ite];split at h
    ·simp only[aX]at h;subst h;cases c1<;>simp[Op.eqFields]
    ·rw[b9]at h;obtain⟨c2,h1,rfl⟩:=h;have:=S3 bF h1 w;cases c1<;>simp[this]
   cases h
  cases h
theorem S4:∀{m:Nat} {t:TypeId} {x y:Value} {c:Bool},yS P m t x y=some c->∀(d:Nat) (w:World),(Op.equalIn (d+m) t x y).run P w=.ok c w
 | 0,_,_,_,_,h,_,_=>by cases h
 | m+1,t,x,y,c,h,d,w=>by
  rw[show d+(m+1)=(d+m)+1 from rfl];simp only[yS]at h;split at h
  ·rename_i a b e;simp only[aX]at h;subst h;exact run_equalIn_bool w _ t a b e
  ·rename_i ch k a bt b e;split at h
   ·rename_i hk;subst hk;simp only[aX]at h;subst h;exact run_equalIn_int w _ t k ch a b e
   cases h
  ·rename_i a b e;simp only[aX]at h;subst h;exact run_equalIn_string w _ t a b e
  ·rename_i eS xs ys e;split at h
   ·cases h
   rename_i ao;have Rj:P.fieldsOf t=eS:=by simp[Program.fieldsOf,e]
   rw[run_equalIn_struct w _ t xs ys (by rw[Rj];exact e) (by simpa using ao),Rj];exact S3 (fun t x y c h w=>S4 h d w) h w
  cases h
def Jc(P:Program)(op:BinOp)(t:TypeId)(u v:Value):Option Bool:=
 match op,u,v with
 | .eql,.agg xs,.agg ys=>if P.eqGuardType P.depth t then none else yS P 20 t (.agg xs) (.agg ys)
 | .neq,.agg xs,.agg ys=>if P.eqGuardType P.depth t then none else (yS P 20 t (.agg xs) (.agg ys)).map fun c=>!c
 | .eql,.bool a,.bool b=>match P.underlying t with | some .bool=>some (a==b) | _=>none
 | .neq,.bool a,.bool b=>match P.underlying t with | some .bool=>some (!(a==b)) | _=>none
 | .eql,.string a,.string b=>match P.underlying t with | some .string=>some (a.toList==b.toList) | _=>none
 | .neq,.string a,.string b=>match P.underlying t with | some .string=>some (!(a.toList==b.toList)) | _=>none
 | _,_,_=>none
theorem aw4{x y:Operand}{u:Value}{c:Bool}(h:Jc P op t u v=some c):m' P op t x y u v (.bool c):=by
 intro w;have fv:∀{x y:Value} {c:Bool},yS P 20 t x y=some c->(Op.equalIn 10000 t x y).run P w=.ok c w:=fun h=>S4 h 9980 w
 unfold Jc at h;split at h
 ·rename_i xs ys;split at h
  ·cases h
  rename_i ax;simp[run_eqGuard_agg w .eql t x y xs ys (by simpa using ax),run_eql_struct,fv h]
 ·rename_i xs ys;split at h
  ·cases h
  rename_i ax;rw[b9]at h;obtain⟨kz,h1,rfl⟩:=h;simp[run_eqGuard_agg w .neq t x y xs ys (by simpa using ax),run_neq_struct,fv h1]
 ·rename_i a b;split at h
  ·rename_i e;simp only[aX]at h;subst h;simp[eqGuard,binOp,run_equal_bool w t a b e]
  cases h
 ·rename_i a b;split at h
  ·rename_i e;simp only[aX]at h;subst h;simp[eqGuard,binOp,run_equal_bool w t a b e]
  cases h
 ·rename_i a b;split at h
  ·simp only[aX]at h;subst h;simp[eqGuard,binOp,Op.stringOp,beq_toListBytes]
  cases h
 ·rename_i a b;split at h
  ·simp only[aX]at h;subst h;simp[eqGuard,binOp,Op.stringOp,beq_toListBytes]
  cases h
 cases h
def LZ(P:Program)(op:BinOp)(t:TypeId)(x y:Operand)(p q:aI)(ans:List cd):ku:=
 match p.int,q.int with
 | some (k,a),some (ch,b)=>
  match (if k=ch then LY op k a b ans else none) with
  | some r=>some r
  | none=>
   match ans with
   | .pq (.aG (.one (.v c)))::r=>some (.one (.v c),r,[m' P op t x y (.int k a) (.int ch b) c])
   | _=>none
 | _,_=>
  match (match p.value,q.value with | some u,some v=>Jc P op t u v | _,_=>none) with
  | some c=>some (.one (.bg c),ans,[])
  | none=>
  match p.value,q.value,ans with
  | some u,some v,.eq c::r=>some (.one (.bg c),r,[m' P op t x y u v (.bool c)])
  | some u,some v,.pq (.aG (.one (.v c)))::r=>some (.one (.v c),r,[m' P op t x y u v c])
  | _,_,_=>none
theorem aw5{x y:Operand}{q r:aI}{u:Value}
  (hp:cV (Sat w ω τ) p u) (aH:cV (Sat w ω τ) q v) (h:LZ P op t x y p q ans=some (r,cu,obs)) (a7:cQ obs):
  ∃z,((do eqGuard op t x y u v;binOp op t u v:Sem Value)).run P w=.ok z w/\cV (Sat w ω τ) r z:=by
 unfold LZ at h;split at h
 ·rename_i k a ch b e1 e2;rw[aI.o9 e1 hp,aI.o9 e2 aH];split at h
  ·rename_i nN cj;simp only[aX]at h;subst h;split at cj
   ·rename_i hk;subst hk;exact aw3 t x y cj a7
   cases cj
  split at h
  ·rename_i c nN _;simp only[aX,bK]at h;obtain⟨rfl,_,rfl⟩:=h;exact⟨_,a7.1 w,rfl⟩
  cases h
 split at h
 ·rename_i c bE;simp only[aX,bK]at h;obtain⟨rfl,_,_⟩:=h;split at bE
  ·rename_i uD kR e1 e2;rw[aI.AM e1 hp,aI.AM e2 aH];exact⟨_,aw4 bE w,rfl⟩
  cases bE
 split at h
 ·rename_i uD kR c nN e1 e2;simp only[aX,bK]at h;obtain⟨rfl,_,rfl⟩:=h;rw[aI.AM e1 hp,aI.AM e2 aH];exact⟨_,a7.1 w,rfl⟩
 ·rename_i uD kR c nN e1 e2;simp only[aX,bK]at h;obtain⟨rfl,_,rfl⟩:=h;rw[aI.AM e1 hp,aI.AM e2 aH];exact⟨_,a7.1 w,rfl⟩
 cases h
end Go.Sx
namespace Go.Sx
open Go.RowKit
def Tag.HS:Tag->Tag
 | .free=>.free
 | .own t=>.ro t
 | .ro t=>.ro t
theorem Tag.Pm{t:Tag}{q ec:List (Nat×Nat)}{o:dr}(h:t.R q o):t.HS.R ec o:=by
 cases t with
 | free=>exact h
 | own s=>exact .inr ⟨q,h⟩
 | ro s=>exact h
variable{τ:Nat->Nat×Value}
theorem Tag.Pn{t:Tag}{y:Nat×Value}:t.HS.ei τ y:=by cases t<;>exact trivial
def D.leaf(t:Tag):D->aF
 | .v (.bool c)=>.bg c
 | .v x=>.v x
 | .J k es=>.J t.HS k es
 | .ptr ds=>match t with | .free=>.hQ ds 0 | _=>.cp
 | .cl g bj=>match t with | .free=>.fd (.cl g bj) | _=>.cp
variable{w:World}{ω:Own}
theorem D.dS{τ:Nat->Nat×Value}{t:Tag}{p:Nat×Nat}{d:D}{u:Value}(h:b4 w ω (fun q=>t.R (p::q)) d u):Sat w ω τ (d.leaf t) u:=by
 cases d with
 | v x=>
  have e:u=x:=by cases h;rfl
  subst e;unfold D.leaf;split
  ·rename_i h;cases h;exact rfl
  ·rename_i h;cases h;exact rfl
  ·grind
  ·grind
  grind
 | J k es=>exact⟨h.frame fun b q aw aH=>⟨Tag.Pm aH,rfl⟩,Tag.Pn⟩
 | ptr ds=>
  cases t with
  | free=>
   have U:b4 w ω Tag.free.R (.ptr ds) u:=h;have aA:=U;cases aA with
   | ptr R ds b arr ty cZ us aw ed ao hu aE=>exact⟨b,rfl,U⟩
  | own s=>exact trivial
  | ro s=>exact trivial
 | cl g bj=>
  cases t with
  | free=>exact h
  | own s=>exact trivial
  | ro s=>exact trivial
def D.R7(t i j:Nat):D->aF
 | .J k es=>.aN t i j k es .here
 | d=>d.leaf (.own t)
def vn(t i:Nat):Nat->List D->List aF
 | _,[]=>[]
 | j,d::ds=>d.R7 t i j::vn t i (j+1) ds
theorem S5(t i:Nat):∀(ds:List D) (j x:Nat),(vn t i j ds)[x]?=(ds[x]?).map (D.R7 t i (j+x))
 | [],_,_=>by simp[vn]
 | d::ds,j,0=>by simp[vn]
 | d::ds,j,x+1=>by
  simp only[vn,pR,S5 t i ds (j+1) x];rw[show j+1+x=j+(x+1) by omega]
theorem S6(t i:Nat):∀(ds:List D) (j:Nat),(vn t i j ds).length=ds.length
 | [],_=>rfl
 | d::ds,j=>by simp[vn,S6 t i ds (j+1)]
def L0(P:Program)(s:TypeId)(f:Nat):Option Nat:=
 match P.underlying s with
 | some (.struct eS)=>
  match eS[f]? with
  | some fd=>
   match P.info? fd.type with
   | some i=>if i.size=0 then none else some fd.offset
   | none=>none
  | none=>none
 | _=>none
theorem rK(b off n:Nat):(⟨b,off,none⟩:Addr).add n=⟨b,off+n,none⟩:=by
 simp_all[Addr.add]
variable{P:Program}{off:Nat}
theorem Gf{s:TypeId}{f:Nat}(h:L0 P s f=some off)(w:World)(b o:Nat):
  (Instr.fieldAt s (.pointer (some ⟨b,o,none⟩)) f).run P w=.ok (.pointer (some ⟨b,o+off,none⟩)) w:=by
 unfold L0 at h;split at h
 ·rename_i eS hu;split at h
  ·rename_i fd bF;split at h
   ·rename_i i hi;split at h
    ·cases h
    rename_i bd;simp only[aX]at h;subst h;simp[Instr.fieldAt,run_underlying hu,bF,Instr.sureAddr,fieldPlace,sizeOf,typeInfo,hi,bd,rK]
   cases h
  cases h
 cases h
def L1(P:Program)(s:TypeId)(p:aI)(f:Nat)(ans:List cd):ku:=
 match L0 P s f,p.leaf with
 | some off,some (.ptr id o)=>some (.one (.ptr id (o+off)),ans,[])
 | some off,some (.ep t k es i j)=>some (.one (.ep t k es i (j+off)),ans,[])
 | some off,some (.hQ ds o)=>some (.one (.hQ ds (o+off)),ans,[])
 | some off,some (.aN t i j k es (.at_ x y))=>some (.one (.aN t i j k es (.at_ x (y+off))),ans,[])
 | _,_=>none
variable{p r:aI}{v:Value}{ans cu:List cd}{obs:List Prop}
theorem aw6{s:TypeId}{f:Nat}
  (hp:cV (Sat w ω τ) p v) (h:L1 P s p f ans=some (r,cu,obs)):
  ∃z,(Instr.fieldAt s v f).run P w=.ok z w/\cV (Sat w ω τ) r z:=by
 unfold L1 at h;split at h
 ·rename_i off id o e1 e2;simp only[aX,bK]at h;obtain⟨rfl,_,rfl⟩:=h;obtain⟨b,aw,rfl⟩:=aI.dS e2 hp;exact⟨_,Gf e1 w b o,b,aw,rfl⟩
 ·rename_i off t k es i j e1 e2;simp only[aX,bK]at h;obtain⟨rfl,_,rfl⟩:=h;obtain⟨b,o,cap,rfl,hi,aD,bN⟩:=aI.dS e2 hp;exact⟨_,Gf e1 w b _,b,o,cap,by grind,hi,aD,bN⟩
 ·rename_i off ds o e1 e2;simp only[aX,bK]at h;obtain⟨rfl,_,rfl⟩:=h;obtain⟨b,rfl,aD⟩:=aI.dS e2 hp;exact⟨_,Gf e1 w b o,b,rfl,aD⟩
 ·rename_i off t i j k es x y e1 e2;simp only[aX,bK]at h;obtain⟨rfl,_,rfl⟩:=h;obtain⟨u,⟨b,o,cap,rfl,rfl,af⟩,aD,hm⟩:=aI.dS e2 hp;exact⟨_,Gf e1 w b _,_,⟨b,o,cap,rfl,by grind,af⟩,aD,fun _=>hm rfl⟩
 cases h
def rA(P:Program)(t:TypeId):Option (TypeId×Nat):=
 match P.underlying t with
 | some (.slice e)=>(P.info? e).map fun i=>(e,i.size)
 | _=>none
variable{t:TypeId}
theorem xn{e:TypeId}{k:Nat}(h:rA P t=some (e,k)):P.underlying t=some (.slice e)/\∃i,P.info? e=some i/\i.size=k:=by
 unfold rA at h;split at h
 ·rename_i e' hu;rw[b9]at h;grind
 cases h
def aF.flat:aF->aF
 | .dA _ k es=>.J .free k es
 | l=>l
def aI.lz(p:aI):Option aF:=p.leaf.map aF.flat
variable{y:Value}{l:aF}
theorem aI.w8(h:p.lz=some l)(ao:cV (Sat w ω τ) p y):Sat w ω τ l y:=by
 unfold aI.lz at h;rw[b9]at h;obtain⟨eF,bO,rfl⟩:=h;have:=aI.dS bO ao;unfold aF.flat;split
 ·exact⟨this.1,aa⟩
 exact this
def L2(P:Program)(t:TypeId)(p q:aI)(ans:List cd):ku:=
 match rA P t,p.lz,q.int with
 | some (_,k),some (.J tag ch es),some (_,n)=>if k=ch then some (.one (.ep tag ch es n.toNat 0),ans,[0<=n,n<(es.length:Int)]) else none
 | some (_,k),some (.aN s i j ch es .here),some (_,n)=>if k=ch then some (.one (.aN s i j ch es (.at_ n.toNat 0)),ans,[0<=n,n<(es.length:Int)]) else none
 | _,_,_=>none
theorem aw7{q:aI}{u:Value}
  (hp:cV (Sat w ω τ) p u) (aH:cV (Sat w ω τ) q v) (h:L2 P t p q ans=some (r,cu,obs)) (a7:cQ obs):
  ∃z,(Instr.indexAt t u v).run P w=.ok z w/\cV (Sat w ω τ) r z:=by
 unfold L2 at h;split at h
 ·rename_i e k tag ch es B2 n e1 e2 cj;split at h
  ·rename_i hk;subst hk;simp only[aX,bK]at h;obtain⟨rfl,_,rfl⟩:=h;obtain⟨hu,i,hi,bd⟩:=xn e1;obtain⟨aD,bN⟩:=aI.w8 e2 hp;rw[aI.o9 cj aH];have bO:0<=n:=a7.1;have h1:n<(es.length:Int):=a7.2.1;cases aD with
   | nil=>grind
   | row R k es b off cap arr ty cZ us aw ed ak ao hk kl aE=>
    refine⟨.pointer (some ⟨b,off+n.toNat*k+0,none⟩),?_,b,off,cap,rfl,by omega,.row _ k es b off cap arr ty cZ us aw ed ak ao hk kl aE,bN⟩;simp[Instr.indexAt,run_underlying hu,asIntOf,bO,h1,sizeOf,typeInfo,hi,bd,rK]
  cases h
 ·rename_i e k s yp DN ch es B2 n e1 e2 cj;split at h
  ·rename_i hk;subst hk;simp only[aX,bK]at h;obtain⟨rfl,_,rfl⟩:=h;obtain⟨hu,i,hi,bd⟩:=xn e1;obtain⟨fH,rfl,aD,hm⟩:=aI.w8 e2 hp;rw[aI.o9 cj aH];have bO:0<=n:=a7.1;have h1:n<(es.length:Int):=a7.2.1;cases aD with
   | nil=>grind
   | row R k es b off cap arr ty cZ us aw ed ak ao hk kl aE=>
    refine⟨.pointer (some ⟨b,off+n.toNat*k+0,none⟩),?_,_,⟨b,off,cap,rfl,rfl,by omega⟩,.row _ k es b off cap arr ty cZ us aw ed ak ao hk kl aE,hm⟩;simp[Instr.indexAt,run_underlying hu,asIntOf,bO,h1,sizeOf,typeInfo,hi,bd,rK]
  cases h
 cases h
theorem aw8{P:Program}{b n:Nat}{arr:Array Value}{ty:TypeId}{cZ:Nat×Nat}(aw:w.heap[b]?=some (.cells arr ty cZ))(aZ:off+n<=arr.size):
  (loadCells ⟨b,off,none⟩ n).run P w=.ok (arr.extract off (off+n)) w:=by
 have al:((arr.extract off (off+n)).toList).length=n:=by simp;omega
 have:=run_loadCells_list (P:=P) w ⟨b,off,none⟩ (arr.extract off (off+n)).toList (fun j v bI=>by
  rw[rK,cell_of_row w b (off+j) arr ty cZ aw];grind)
 rw[al,Array.toArray_toList]at this;exact this
def sL(agg:Bool)(n:Nat)(ls:List aF)(off:Nat):Option aI:=
 if agg then (if off+n<=ls.length then some (.agg ((ls.drop off).take n)) else none)
 else (ls[off]?).map fun l=>.one l
theorem zL{P:Program}{ω:Own}{τ:Nat->Nat×Value}{agg:Bool}{i:TypeInfo}{ls:List aF}(ai:xm P t=some agg)(hi:P.info? t=some i)
  (h:sL agg i.size ls off=some p) {b base:Nat} {arr:Array Value} {ty:TypeId} {cZ:Nat×Nat} (aw:w.heap[b]?=some (.cells arr ty cZ)) (dM:base+ls.length<=arr.size)
  (ao:∀(j:Nat) (l:aF),ls[j]?=some l->∃u,arr[base+j]?=some u/\Sat w ω τ l u):
  ∃z,(loadVar t ⟨b,base+off,none⟩).run P w=.ok z w/\cV (Sat w ω τ) p z:=by
 unfold sL at h;cases agg with
 | true=>
  simp only[gj]at h;split at h
  ·rename_i hle;simp only[aX]at h;subst h;refine⟨.agg (arr.extract (base+off) (base+off+i.size)),?_,?_⟩
   ·simp[loadVar,zK ai,sizeOf,typeInfo,hi,aw8 (P:=P) aw (show base+off+i.size<=arr.size by omega)]
   refine⟨_,rfl,by simp;omega,fun j l al=>?_⟩;grind
  cases h
 | false=>
  simp only[nR,l7,b9]at h;obtain⟨l,al,rfl⟩:=h;obtain⟨u,h1,U⟩:=ao _ l al;refine⟨u,?_,U⟩;simp[loadVar,zK ai,cell_of_row w b (base+off) arr ty cZ aw,h1]
def Gg(P:Program)(st:aC)(t:TypeId)(p:aI)(ans:List cd):ku:=
 match xm P t,P.info? t,p.leaf with
 | some agg,some i,some (.ptr id off)=>
  match dI id st.boxes with
  | some ls=>(sL agg i.size ls off).map fun r=>(r,ans,[])
  | none=>none
 | some agg,some i,some (.ep tag k es x j)=>
  match ans with
  | .el ds::r=>if ds.length=k then (sL agg i.size (ds.map (D.leaf tag)) j).map fun v=>(v,r,[es[x]?=some ds]) else none
  | .sub::.el ds::r=>
   match tag with
   | .own t=>if ds.length=k then (sL agg i.size (vn t x 0 ds) j).map fun v=>(v,r,[es[x]?=some ds]) else none
   | _=>none
  | _=>none
 | some agg,some i,some (.hQ ds off)=>(sL agg i.size (ds.map (D.leaf .free)) off).map fun r=>(r,ans,[])
 | some agg,some i,some (.aN s _ _ k es (.at_ x y))=>
  match ans with
  | .el ds::r=>if ds.length=k then (sL agg i.size (ds.map (D.leaf (.ro s))) y).map fun v=>(v,r,[es[x]?=some ds]) else none
  | _=>none
 | _,_,_=>none
variable{w0:eR}{a:Act}{st:aC}
theorem aw9
  (a6:cK w0 st a w ω τ) (hp:cV (Sat w ω τ) p v) (h:Gg P st t p ans=some (r,cu,obs)) (a7:cQ obs):
  ∃z,(Instr.loadAt t v).run P w=.ok z w/\cV (Sat w ω τ) r z:=by
 unfold Gg at h;split at h
 ·rename_i agg i id off e1 e2 cj;split at h
  ·rename_i ls dk;rw[b9]at h;obtain⟨nN,h1,h⟩:=h;simp only[bK]at h;obtain⟨rfl,rfl,rfl⟩:=h;obtain⟨b,aw,rfl⟩:=aI.dS cj hp;obtain⟨dD,arr,ty,ey,Fl,JV,dM,e0⟩:=a6.boxes id ls dk;have:=Fl b aw;subst this;have:=zL (P:=P) e1 e2 h1 JV (base:=0) (by omega) (fun j l al=>by simpa using e0 j l al);grind[Instr.loadAt,Instr.sureAddr]
  cases h
 ·rename_i agg i tag k es x j e1 e2 cj;split at h
  ·rename_i ds h9;split at h
   ·rename_i hlen;rw[b9]at h;obtain⟨nN,h1,h⟩:=h;simp only[bK]at h;obtain⟨rfl,rfl,rfl⟩:=h;have fc:es[x]?=some ds:=a7.1;obtain⟨b,off,cap,rfl,hi,aD,bN⟩:=aI.dS cj hp;cases aD with
    | nil=>simp at hi
    | row R k es b off cap arr ty cZ us aw ed ak ao hk hu aE=>
     have Rr:x*k+k<=cap*k:=by
      have:(x+1)*k<=cap*k:=im k (by omega);grind
     have:=zL (P:=P) (τ:=τ) (ω:=ω) e1 e2 h1 aw (base:=off+x*k) (by grind) (fun jW l al=>by
      rw[dK,b9]at al;obtain⟨d,U,rfl⟩:=al;have ak:df es x jW=some d:=by grind[df]
      exact⟨us x jW,hu x jW d ak,D.dS (aE x jW d ak)⟩)
     grind[Instr.loadAt,Instr.sureAddr]
   cases h
  ·rename_i ds h9;split at h
   ·rename_i t;split at h
    ·rename_i hlen;rw[b9]at h;obtain⟨nN,h1,h⟩:=h;simp only[bK]at h;obtain⟨rfl,rfl,rfl⟩:=h;have fc:es[x]?=some ds:=a7.1;obtain⟨b,off,cap,rfl,hi,aD,bN⟩:=aI.dS cj hp;cases aD with
     | nil=>simp at hi
     | row R k es b off cap arr ty cZ us aw ed ak ao hk hu aE=>
      have Rr:x*k+k<=cap*k:=by
       have:(x+1)*k<=cap*k:=im k (by omega);grind
      have:=zL (P:=P) (τ:=τ) (ω:=ω) e1 e2 h1 aw (base:=off+x*k) (by grind[S6]) (fun jW l al=>by
       rw[S5,b9]at al;obtain⟨d,U,rfl⟩:=al;rw[dV];have ak:df es x jW=some d:=by grind[df]
       have u2:=aE x jW d ak;refine⟨us x jW,hu x jW d ak,?_⟩;cases d with
       | J bt bX=>exact⟨_,rfl,u2,fun _=>⟨k,b,off,es.length,cap,arr,ty,cZ,bN,ed,aw,hu x jW _ ak⟩⟩
       | v z=>exact D.dS (t:=.own t) (p:=(x,jW)) u2
       | ptr ds=>exact D.dS (t:=.own t) (p:=(x,jW)) u2
       | cl g cs=>exact D.dS (t:=.own t) (p:=(x,jW)) u2)
      grind[Instr.loadAt,Instr.sureAddr]
    cases h
   cases h
  cases h
 ·rename_i agg i ds off e1 e2 cj;rw[b9]at h;obtain⟨nN,h1,h⟩:=h;simp only[bK]at h;obtain⟨rfl,rfl,rfl⟩:=h;obtain⟨b,rfl,aD⟩:=aI.dS cj hp;have e8:b4 w ω Tag.free.R (.ptr ds) (.pointer (some ⟨b,0,none⟩)):=aD;cases e8 with
  | ptr R ds b arr ty cZ us aw ed ao hu aE=>
   have:=zL (P:=P) (τ:=τ) (ω:=ω) e1 e2 h1 aw (base:=0) (by simp;omega) (fun jW l al=>by
    rw[dK,b9]at al;obtain⟨d,U,rfl⟩:=al;exact⟨us jW,by grind,D.dS (p:=(0,jW)) (aE jW d U)⟩)
   grind[Instr.loadAt,Instr.sureAddr]
 ·rename_i agg i s yp DN k es x y e1 e2 cj;split at h
  ·rename_i ds h9;split at h
   ·rename_i hlen;rw[b9]at h;obtain⟨nN,h1,h⟩:=h;simp only[bK]at h;obtain⟨rfl,rfl,rfl⟩:=h;have fc:es[x]?=some ds:=a7.1;obtain⟨fH,⟨b,off,cap,rfl,rfl,hi⟩,aD,hm⟩:=aI.dS cj hp;cases aD with
    | nil=>simp at hi
    | row R k es b off cap arr ty cZ us aw ed ak ao hk hu aE=>
     have Rr:x*k+k<=cap*k:=by
      have:(x+1)*k<=cap*k:=im k (by omega);grind
     have:=zL (P:=P) (τ:=τ) (ω:=ω) e1 e2 h1 aw (base:=off+x*k) (by grind) (fun jW l al=>by
      rw[dK,b9]at al;obtain⟨d,U,rfl⟩:=al;have ak:df es x jW=some d:=by grind[df]
      refine⟨us x jW,hu x jW d ak,D.dS (t:=.ro s) (p:=(x,jW)) ((aE x jW d ak).frame fun b q _ aH=>⟨.inr ⟨_,aH⟩,rfl⟩)⟩)
     grind[Instr.loadAt,Instr.sureAddr]
   cases h
  cases h
 cases h
def Lt(P:Program)(t:TypeId)(p:aI)(ans:List cd):ku:=
 match P.underlying t,p.lz with
 | some (.slice _),some (.J _ _ es)=>some (.one (.v (.int .i64 es.length)),ans,[])
 | some (.slice _),some (.v (.slice _ n _))=>some (.one (.v (.int .i64 n)),ans,[])
 | some (.slice _),some (.aN _ _ _ _ es .here)=>some (.one (.v (.int .i64 es.length)),ans,[])
 | some (.slice _),some (.aN _ _ _ _ es .mJ)=>some (.one (.v (.int .i64 es.length)),ans,[])
 | some .string,some (.v (.string s))=>some (.one (.v (.int .i64 s.size)),ans,[])
 | _,_=>none
theorem b4.len{R:List (Nat×Nat)->dr->Prop}{k:Nat}{es:List (List D)}(h:b4 w ω R (.J k es) y):∃b c,y=.slice b es.length c:=by
 cases h with
 | nil=>simp_all
 | row R k es b off cap arr ty cZ us aw ed ak ao hk hu aE=>grind
theorem axa{ty:TypeId}
  (hp:cV (Sat w ω τ) p v) (h:Lt P t p ans=some (r,cu,obs)):
  ∃z,(Builtin.len_ #[t] ty #[v]).run P w=.ok z w/\cV (Sat w ω τ) r z:=by
 unfold Lt at h;split at h
 ·rename_i e HX k es e1 e2;simp only[aX,bK]at h;obtain⟨rfl,_,rfl⟩:=h;obtain⟨aD,_⟩:=aI.w8 e2 hp;obtain⟨b,c,rfl⟩:=aD.len;exact⟨_,by simp[Builtin.len_,run_underlying e1];rfl,rfl⟩
 ·rename_i e b n c e1 e2;simp only[aX,bK]at h;obtain⟨rfl,_,rfl⟩:=h;have:v=.slice b n c:=aI.w8 e2 hp;subst this;exact⟨_,by simp[Builtin.len_,run_underlying e1];rfl,rfl⟩
 ·rename_i e s yp DN k es e1 e2;simp only[aX,bK]at h;obtain⟨rfl,_,rfl⟩:=h;obtain⟨fH,rfl,aD,_⟩:=aI.w8 e2 hp;obtain⟨b,c,rfl⟩:=aD.len;exact⟨_,by simp[Builtin.len_,run_underlying e1];rfl,rfl⟩
 ·rename_i e s yp DN k es e1 e2;simp only[aX,bK]at h;obtain⟨rfl,_,rfl⟩:=h;obtain⟨fH,rfl,aD,_⟩:=aI.w8 e2 hp;obtain⟨b,c,rfl⟩:=aD.len;exact⟨_,by simp[Builtin.len_,run_underlying e1];rfl,rfl⟩
 ·rename_i s e1 e2;simp only[aX,bK]at h;obtain⟨rfl,_,rfl⟩:=h;have:v=.string s:=aI.w8 e2 hp;subst this;exact⟨_,by simp[Builtin.len_,run_underlying e1];rfl,rfl⟩
 cases h
theorem S7{es:List (List D)}{l n i j:Nat}{d:D}(h:df ((es.drop l).take n) i j=some d):i<n/\df es (l+i) j=some d:=by
 grind[df]
theorem b4.sub{R jr:List (Nat×Nat)->dr->Prop}{k:Nat}{es:List (List D)}{b cap:Nat}(h:b4 w ω R (.J k es) (.slice (some ⟨b,off,none⟩) es.length cap))
  {l m:Nat} (al:l<=m) (hm:m<=es.length) (EW:∀o,R [] o->jr [] o) (aCN:∀i j q o,l<=i->R ((i,j)::q) o->jr ((i-l,j)::q) o):
  b4 w ω jr (.J k ((es.drop l).take (m-l))) (sliced (some ⟨b,off,none⟩) l m cap k):=by
 cases h with
 | nil=>
  grind[sliced,b4.nil]
 | row R k es b off cap arr ty cZ us aw ed ak ao hk hu aE=>
  have hlen:((es.drop l).take (m-l)).length=m-l:=by simp;omega
  have hmul:l*k+(cap-l)*k=cap*k:=by rw[<-hT];grind
  have key:∀rq:Nat,(cap=l\/rq=off+l*k)->rq+(cap-l)*k<=arr.size->
    b4 w ω jr (.J k ((es.drop l).take (m-l))) (.slice (some ⟨b,rq,none⟩) (m-l) (cap-l)):=by
   intro rq a7 dM;have bd:cap=l->m-l=0:=fun e=>by omega
   have aD:=b4.row (w:=w) (ω:=ω) jr k ((es.drop l).take (m-l)) b rq (cap-l) arr ty cZ (fun i j=>us (l+i) j) aw (EW _ ed) (by omega) dM
    (fun e he=>hk e (wq (td he)))
    (fun i j d q3=>by
     obtain⟨hi,Q'⟩:=S7 q3;grind)
    (fun i j d q3=>by
     obtain⟨hi,Q'⟩:=S7 q3;refine (aE (l+i) j d Q').frame fun b q _ aH=>⟨?_,rfl⟩
     grind)
   grind
  unfold sliced;split
  ·grind
  simp only[tc,rK];grind
def aF.view:aF->aF
 | .aN t _ _ k es .here=>.J (.ro t) k es
 | .aN t _ _ k es .mJ=>.J (.ro t) k es
 | .dA _ k es=>.J .free k es
 | l=>l
theorem aF.Pq(ao:Sat w ω τ l y):Sat w ω τ l.view y:=by
 unfold aF.view;split
 ·obtain⟨fH,rfl,aD,_⟩:=ao;exact⟨aD.frame fun b q _ aH=>⟨.inr ⟨_,aH⟩,rfl⟩,aa⟩
 ·obtain⟨fH,rfl,aD,_⟩:=ao;exact⟨aD.frame fun b q _ aH=>⟨.inr ⟨_,aH⟩,rfl⟩,aa⟩
 ·exact⟨ao.1,aa⟩
 exact ao
theorem aI.Pq(h:p.leaf.map aF.view=some l)(ao:cV (Sat w ω τ) p y):Sat w ω τ l y:=by
 rw[b9]at h;obtain⟨eF,bO,rfl⟩:=h;grind[aF.Pq,aI.dS]
def mV(st:aC):Option Operand->Option (Option Int)
 | none=>some none
 | some x=>((st.bq x).int).map fun p=>some p.2
def Gh(P:Program)(st:aC)(t:TypeId)(p:aI)(c7 hi jy:Option Operand)(ans:List cd):ku:=
 match rA P t,p.leaf.map aF.view,jy with
 | some (_,k),some (.J tag ch es),none=>
  if k=ch then
   match mV st c7,mV st hi with
   | some l,some h=>some (.one (.J tag.HS k ((es.drop (l.getD 0).toNat).take ((h.getD es.length).toNat-(l.getD 0).toNat))),ans,[0<=l.getD 0,l.getD 0<=h.getD es.length,h.getD es.length<=es.length])
   | _,_=>none
  else none
 | _,_,_=>none
theorem Co{len cap:Nat}{c7 hi:Option Value}{l h:Int}(al:c7=none/\l=0\/∃k,c7=some (.int k l))(bN:hi=none/\h=len\/∃k,hi=some (.int k h))
  (bO:0<=l) (h1:l<=h) (U:h<=cap):(Instr.sliceBounds true len cap c7 hi none).run P w=.ok (l.toNat,h.toNat,cap) w:=by
 have aCu:(h.toNat:Int)=h:=Int.toNat_of_nonneg (by omega);have aA:0<=h:=by omega
 rcases al with⟨rfl,rfl⟩ | ⟨k,rfl⟩<;>rcases bN with⟨rfl,rfl⟩ | ⟨ch,rfl⟩<;>
  simp_all[Instr.sliceBounds,run_sliceBound]
theorem Cp(a6:cK w0 st a w ω τ){x:Option Operand}{r:Option Int}(h:mV st x=some r):
  (x.map a.eval=none/\r=none)\/∃k n,x.map a.eval=some (.int k n)/\r=some n:=by
 cases x with
 | none=>simp_all[mV]
 | some x=>
  simp only[mV,b9]at h;obtain⟨⟨k,n⟩,h1,U⟩:=h;exact .inr ⟨k,n,by simp[aI.o9 h1 (a6.bq x)],U.symm⟩
theorem axb{c7 hi jy:Option Operand}
  (a6:cK w0 st a w ω τ) (hp:cV (Sat w ω τ) p v) (h:Gh P st t p c7 hi jy ans=some (r,cu,obs)) (a7:cQ obs):
  ∃z,(Instr.sliceAt t v (c7.map a.eval) (hi.map a.eval) (jy.map a.eval)).run P w=.ok z w/\cV (Sat w ω τ) r z:=by
 unfold Gh at h;split at h
 ·rename_i e k tag ch es e1 e2;split at h
  ·rename_i hk;subst hk;split at h
   ·rename_i l bN cj d';simp only[aX,bK]at h;obtain⟨rfl,_,rfl⟩:=h;obtain⟨hu,i,qb,bd⟩:=xn e1;obtain⟨aD,_⟩:=aI.Pq e2 hp;obtain⟨cC,cg,cL,_⟩:=a7;have aA:=Cp a6 cj;have aJ:=Cp a6 d';have mQ:(c7.map a.eval=none/\l.getD 0=0)\/∃k,c7.map a.eval=some (.int k (l.getD 0)):=by
     grind
    have si:(hi.map a.eval=none/\bN.getD es.length=es.length)\/∃k,hi.map a.eval=some (.int k (bN.getD es.length)):=by
     grind
    cases aD with
    | nil _ _ a0=>
     simp only[et] at*;have bE:l.getD 0=0:=by omega
     have abH:bN.getD ((0:Nat):Int)=0:=by omega
     refine⟨.slice a0 0 0,?_,?_⟩
     ·simp only[Instr.sliceAt,Sem.run_bind,run_underlying hu,Result.andThen_ok,Instr.slice,Option.map_none];rw[Co mQ si cC cg cL];simp_all[sizeOf,typeInfo]
     refine⟨?_,Tag.Pn⟩;simp only[List.drop_nil,List.take_nil];exact .nil _ _ _
    | row R k es b off cap arr ty cZ us aw ed ak ao hk kl aE=>
     refine⟨sliced (some ⟨b,off,none⟩) (l.getD 0).toNat (bN.getD es.length).toNat cap k,?_,?_,Tag.Pn⟩
     ·simp only[Instr.sliceAt,Sem.run_bind,run_underlying hu,Result.andThen_ok,Instr.slice,Option.map_none];rw[Co mQ si cC cg (by omega)];simp_all[sizeOf,typeInfo,sliced]
     exact b4.sub (.row _ k es b off cap arr ty cZ us aw ed ak ao hk kl aE) (by omega) (by omega) (fun o h=>Tag.Pm h) (fun i j q o _ h=>Tag.Pm h)
   cases h
  cases h
 cases h
end Go.Sx
namespace Go.Sx
open Go.RowKit
def aF.ok:aF->Bool
 | .cp=>false
 | .v x=>x.oneCell'
 | _=>true
variable{w:World}{ω:Own}{y:Value}
theorem b4.qo{R:List (Nat×Nat)->dr->Prop}{d:D}(h:b4 w ω R d y):y.oneCell'=true:=by
 cases h with
 | v R x h1=>exact h1
 | nil=>rfl
 | row=>rfl
 | ptr=>rfl
 | cl=>rfl
variable{τ:Nat->Nat×Value}
theorem aF.Sh{l:aF}(h:l.ok=true)(ao:Sat w ω τ l y):y.oneCell'=true:=by
 cases l with
 | cp=>cases h
 | v x=>have:y=x:=ao;subst this;exact h
 | bg c=>have:y=.bool c:=ao;subst this;rfl
 | J t k es=>exact ao.1.qo
 | ptr id off=>obtain⟨b,_,rfl⟩:=ao;rfl
 | ep t k es i j=>obtain⟨b,off,cap,rfl,_⟩:=ao;rfl
 | hQ ds off=>obtain⟨b,rfl,_⟩:=ao;rfl
 | fd d=>exact b4.qo ao
 | dA t k es=>exact ao.1.qo
 | hg g ids=>obtain⟨bs,rfl,_⟩:=ao;rfl
 | aN t i j k es m=>
  obtain⟨u,hu,aD,_⟩:=ao;cases m with
  | at_ x y=>obtain⟨b,off,cap,_,rfl,_⟩:=hu;rfl
  | here=>have:y=u:=hu;subst this;exact aD.qo
  | mJ=>have:y=u:=hu;subst this;exact aD.qo
 | fD t vs=>obtain⟨b,ty,arr,rfl,_⟩:=ao;rfl
theorem Cq(h:y.oneCell'=true):y.cells=#[y]:=by
 cases y<;>first | rfl | grind[Value.oneCell']
def aI.leaves:aI->Option (List aF)
 | .aG (.one l)=>if l.ok then some [l] else none
 | .aG (.agg ls)=>if ls.all aF.ok then some ls else none
 | _=>none
variable{p:aI}{ls:List aF}
theorem aI.zt(h:p.leaves=some ls)(ao:cV (Sat w ω τ) p y):
  k0 (Sat w ω τ) ls y.cells/\∀u∈y.cells.toList,u.oneCell'=true:=by
 unfold aI.leaves at h;split at h
 ·rename_i l;split at h
  ·rename_i bW;simp only[aX]at h;subst h;have h1:=aF.Sh bW ao;rw[Cq h1];refine⟨⟨rfl,fun i gV al=>?_⟩,by grind⟩;cases i with
   | zero=>simp at al;subst al;exact⟨y,rfl,ao⟩
   | succ i=>simp at al
  cases h
 ·rename_i fQ;split at h
  ·rename_i bW;simp only[aX]at h;subst h;obtain⟨vs,rfl,aZ,bI⟩:=ao;refine⟨⟨aZ,bI⟩,fun u hu=>?_⟩;obtain⟨i,hi⟩:=pS.1 hu;have bS:i<fQ.length:=by
    grind[Value.cells]
   obtain⟨uD,h1,U⟩:=bI i fQ[i] (by simp);have e:u=uD:=by
    have:(Value.agg vs).cells.toList[i]?=vs[i]?:=by simp[Value.cells]
    grind
   grind[aF.Sh,pU]
  cases h
 cases h
theorem S8(off:Nat):∀(vs:List Value) (k:Nat) (cells:Array Value) (i:Nat),off+k+vs.length<=cells.size->
  ((vs.zipIdx k).foldl (fun cs (x:Value×Nat)=>cs.setIfInBounds (off+x.2) x.1) cells)[i]?=if off+k<=i/\i<off+k+vs.length then vs[i-(off+k)]? else cells[i]?
 | [],k,cells,i,_=>by simp;grind
 | v::vs,k,cells,i,h=>by
  simp only[List.zipIdx_cons,List.foldl_cons,gQ]at h ⊢;rw[S8 off vs (k+1) _ i (by simp;omega),Array.getElem?_setIfInBounds];grind
theorem S9(off:Nat):∀(l:List (Value×Nat)) (cells:Array Value),(l.foldl (fun cs (x:Value×Nat)=>cs.setIfInBounds (off+x.2) x.1) cells).size=cells.size
 | [],_=>rfl
 | x::l,cells=>by simp_all[List.foldl_cons,S9]
def uN(ls:List aF)(off:Nat)(xs:List aF):List aF:=ls.take off++(xs++ls.drop (off+xs.length))
variable{off:Nat}
theorem S'{xs:List aF}{i:Nat}(h:off+xs.length<=ls.length):(uN ls off xs)[i]?=if off<=i/\i<off+xs.length then xs[i-off]? else ls[i]?:=by
 unfold uN;grind
theorem Lu{xs:List aF}(h:off+xs.length<=ls.length):(uN ls off xs).length=ls.length:=by
 grind[uN]
def sa(place:Nat->Option (Nat×Nat))(ls:List aF):List (Nat×aI)->Option (List aF)
 | []=>some ls
 | (i,p)::rest=>
  match place i,p.leaves with
  | some (off,size),some xs=>if xs.length=size/\off+size<=ls.length then sa place (uN ls off xs) rest else none
  | _,_=>none
theorem Lv{place:Nat->Option (Nat×Nat)}:∀{parts:List (Nat×aI)} {vals:List (Nat×Value)} {ls r:List aF} {cells:Array Value},
  parts.length=vals.length->(∀(j:Nat) i p,parts[j]?=some (i,p)->∃v,vals[j]?=some (i,v)/\cV (Sat w ω τ) p v)->sa place ls parts=some r->k0 (Sat w ω τ) ls cells->
  ∃out,Instr.fill place cells vals=some out/\k0 (Sat w ω τ) r out
 | [],vals,ls,r,cells,aZ,_,h,ao=>by
  have:vals=[]:=yA (by grind);subst this;simp only[sa,aX]at h;subst h;exact⟨cells,rfl,ao⟩
 | (i,p)::parts,vals,ls,r,cells,aZ,hp,h,ao=>by
  obtain⟨v,bI,e0⟩:=hp 0 i p rfl;cases vals with
  | nil=>simp at bI
  | cons x vals=>
   simp only[mE,aX]at bI;subst bI;simp only[sa]at h;split at h
   ·rename_i off size xs e1 e2;split at h
    ·rename_i ak;obtain⟨mP,me⟩:=ak;obtain⟨⟨dM,zn⟩,_⟩:=aI.zt e2 e0;have zk:v.cells.size=size:=by omega
     have ob:off+v.cells.size<=cells.size:=by have:=ao.1;omega
     have ho:k0 (Sat w ω τ) (uN ls off xs) (v.cells.zipIdx.foldl (fun cs (c,j)=>cs.setIfInBounds (off+j) c) cells):=by
      have e:v.cells.zipIdx.foldl (fun cs (c,j)=>cs.setIfInBounds (off+j) c) cells=(v.cells.toList.zipIdx 0).foldl (fun cs (x:Value×Nat)=>cs.setIfInBounds (off+x.2) x.1) cells:=by
       rw[<-Array.foldl_toList];simp
      rw[e];refine⟨by rw[S9,Lu (by omega)];exact ao.1,fun j l al=>?_⟩;rw[S' (by omega)]at al;rw[S8 off _ 0 _ _ (by simp;omega)];simp only[QB,oI];by_cases bk:off<=j/\j<off+xs.length
      ·grind
      rw[bw bk]at al;rw[bw (by omega)];exact ao.2 _ _ al
     obtain⟨out,h1,U⟩:=Lv (parts:=parts) (vals:=vals) (by grind) (fun j f' ry bk=>by have:=hp (j+1) f' ry (by grind);grind) h ho;simp_all[Instr.fill,bw]
    cases h
   cases h
def Lw(P:Program)(t:TypeId)(f:Nat):Option (Nat×Nat):=
 match P.underlying t with
 | some (.struct eS)=>
  match eS[f]? with
  | some fd=>(P.info? fd.type).map fun i=>(fd.offset,i.size)
  | none=>none
 | _=>none
def Gi(P:Program)(st:aC)(t:TypeId)(parts:List (Nat×Operand))(ans:List cd):ku:=
 match P.underlying t,P.info? t with
 | some (.struct eS),some i=>
  match i.zero with
  | some z=>
   if eS.toList.all fun f=>(P.info? f.type).isSome then
    (sa (Lw P t) (z.cells.toList.map .v) (parts.map fun x=>(x.1,st.bq x.2))).map fun ls=>(.agg ls,ans,[])
   else none
  | none=>none
 | _,_=>none
theorem Ta{P:Program}(w:World):∀(eS:List Field),(∀f∈eS,(P.info? f.type).isSome=true)->
  (eS.mapM fun f=>(do pure (f.offset,<-sizeOf f.type):Sem (Nat×Nat))).run P w=.ok (eS.map fun f=>(f.offset,((P.info? f.type).map (·.size)).getD 0)) w
 | [],_=>by simp
 | f::eS,h=>by
  obtain⟨i,hi⟩:=r2.1 (h f (by simp));have eg:=Ta (P:=P) w eS (fun g ax=>h g (by simp[ax]));simp only[AU,Sem.run_bind,sizeOf,typeInfo,run_program,Result.andThen_ok,hi,Sem.run_pure,lN,tc,lL];simp_all[Sem.run_bind,sizeOf,typeInfo,Sem.run_pure]
theorem Gj{P:Program}{α β:Type}(f:α->Sem β)(xs:Array α)(w:World)(r:List β)(h:(xs.toList.mapM f).run P w=.ok r w):(xs.mapM f).run P w=.ok r.toArray w:=by
 rw[<-Array.toArray_toList (xs:=xs),List.mapM_toArray];simp_all
variable{P:Program}{w0:eR}{a:Act}{st:aC}{t:TypeId}{r:aI}{ans cu:List cd}{obs:List Prop}
theorem axc{parts:Array (Nat×Operand)}
  (a6:cK w0 st a w ω τ) (h:Gi P st t parts.toList ans=some (r,cu,obs)):
  ∃z,(Instr.build t (parts.map fun (i,x)=>(i,a.eval x))).run P w=.ok z w/\cV (Sat w ω τ) r z:=by
 unfold Gi at h;split at h
 ·rename_i eS i hu hi;split at h
  ·rename_i z bd;split at h
   ·rename_i iY;rw[b9]at h;obtain⟨ls,h1,h⟩:=h;simp only[bK]at h;obtain⟨rfl,_,_⟩:=h;have Fq:k0 (Sat w ω τ) (z.cells.toList.map .v) z.cells:=by
     refine⟨by simp,fun j l al=>?_⟩;rw[dK,b9]at al;obtain⟨u,hu,rfl⟩:=al;exact⟨u,by grind,rfl⟩
    obtain⟨out,U,aA⟩:=Lv (vals:=parts.toList.map fun x=>(x.1,a.eval x.2)) (by simp) (fun j f' p bk=>by
     rw[dK,b9]at bk;obtain⟨⟨i2,x⟩,af,e⟩:=bk;simp only[bK]at e;obtain⟨rfl,rfl⟩:=e;exact⟨a.eval x,by grind,a6.bq x⟩) h1 Fq
    have hm:=Gj (P:=P) (fun f:Field=>(do pure (f.offset,<-sizeOf f.type):Sem (Nat×Nat))) eS w _ (Ta (P:=P) w eS.toList (fun f bF=>gA.1 iY f bF));have qe:(fun x=>(eS.toList.map fun f=>(f.offset,((P.info? f.type).map (·.size)).getD 0)).toArray[x]?)=Lw P t:=by
     funext x;simp only[pO,dK,mD,Lw,hu];cases af:eS[x]? with
     | none=>rfl
     | some fd=>
      have:(P.info? fd.type).isSome=true:=gA.1 iY fd (by grind);obtain⟨f',qb⟩:=r2.1 this;simp[qb]
    refine⟨.agg out,?_,out,rfl,aA⟩;simp only[Instr.build,Sem.run_bind,zeroValue,typeInfo,run_program,Result.andThen_ok,hi,Sem.run_pure,bd,run_underlying hu,hm,qe];simp_all
   cases h
  cases h
 cases h
def Lx(p:aI)(lx:Nat)(ans:List cd):ku:=
 match p with
 | .gx as=>(as[lx]?).map fun a=>(.aG a,ans,[])
 | _=>none
variable{v:Value}
theorem axd{P:Program}{lx:Nat}
  (hp:cV (Sat w ω τ) p v) (h:Lx p lx ans=some (r,cu,obs)):∃z,(Instr.extract v lx).run P w=.ok z w/\cV (Sat w ω τ) r z:=by
 unfold Lx at h;split at h
 ·rename_i as;rw[b9]at h;obtain⟨aG,h1,h⟩:=h;simp only[bK]at h;obtain⟨rfl,_,_⟩:=h;obtain⟨vs,rfl,aZ,bI⟩:=hp;obtain⟨u,U,aA⟩:=bI _ _ h1;exact⟨u,by simp[Instr.extract,U],aA⟩
 cases h
def Ly(P:Program)(t:TypeId)(p:aI)(f:Nat)(ans:List cd):ku:=
 match P.underlying t with
 | some (.struct eS)=>
  match eS[f]? with
  | some fd=>
   match xm P fd.type,P.info? fd.type,p with
   | some agg,some i,.aG (.agg ls)=>(sL agg i.size ls fd.offset).map fun r=>(r,ans,[])
   | _,_,_=>none
  | none=>none
 | _=>none
theorem axe{f:Nat}
  (hp:cV (Sat w ω τ) p v) (h:Ly P t p f ans=some (r,cu,obs)):∃z,(Instr.field t v f).run P w=.ok z w/\cV (Sat w ω τ) r z:=by
 unfold Ly at h;split at h
 ·rename_i eS hu;split at h
  ·rename_i fd bF;split at h
   ·rename_i agg i ls e1 e2;rw[b9]at h;obtain⟨nN,h1,h⟩:=h;simp only[bK]at h;obtain⟨rfl,_,_⟩:=h;obtain⟨vs,rfl,aZ,bI⟩:=hp;unfold sL at h1;cases agg with
    | true=>
     simp only[gj]at h1;split at h1
     ·rename_i hle;simp only[aX]at h1;subst h1;refine⟨.agg (vs.extract fd.offset (fd.offset+i.size)),by simp[Instr.field,run_underlying hu,bF,asAgg,part,zK e1,sizeOf,typeInfo,e2],_,rfl,by simp;omega,fun j l al=>?_⟩;grind
     cases h1
    | false=>
     simp only[nR,l7,b9]at h1;obtain⟨l,al,rfl⟩:=h1;obtain⟨u,h1,U⟩:=bI _ l al;exact⟨u,by simp_all[Instr.field,run_underlying,asAgg,part,zK],U⟩
   cases h
  cases h
 cases h
def LA(op:UnOp)(p:aI)(ans:List cd):ku:=
 match op,p.leaf with
 | .not,some (.bg c)=>some (.one (.bg (!c)),ans,[])
 | .not,some (.v (.bool c))=>some (.one (.v (.bool (!c))),ans,[])
 | .neg,some (.v (.int k n))=>arith k (0-n) ans
 | _,_=>none
theorem axf{op:UnOp}
  (hp:cV (Sat w ω τ) p v) (h:LA op p ans=some (r,cu,obs)) (a7:cQ obs):∃z,(Op.unary op v).run P w=.ok z w/\cV (Sat w ω τ) r z:=by
 unfold LA at h;split at h
 ·rename_i c e;simp only[aX,bK]at h;obtain⟨rfl,_,_⟩:=h;have:v=.bool c:=aI.dS e hp;subst this;exact⟨_,rfl,rfl⟩
 ·rename_i c e;simp only[aX,bK]at h;obtain⟨rfl,_,_⟩:=h;have:v=.bool c:=aI.dS e hp;subst this;exact⟨_,rfl,rfl⟩
 ·rename_i k n e;have:v=.int k n:=aI.dS e hp;subst this;exact⟨_,rfl,zJ h a7⟩
 cases h
def cY(c a b:aI)(ans:List cd):ku:=
 match c.leaf with
 | some (.v (.bool true))=>some (a,ans,[])
 | some (.v (.bool false))=>some (b,ans,[])
 | some (.bg c)=>
  match ans with
  | .pZ true::r=>some (a,r,[c=true])
  | .pZ false::r=>some (b,r,[c=false])
  | _=>none
 | _=>none
variable{u:Value}
theorem axg{c a b:aI}{x:Value}
  (ak:cV (Sat w ω τ) c u) (ai:cV (Sat w ω τ) a x) (aw:cV (Sat w ω τ) b y) (h:cY c a b ans=some (r,cu,obs)) (a7:cQ obs):
  ∃z,(do pure (.value (if <-asBool u then x else y)):Sem Next).run P w=.ok (.value z) w/\cV (Sat w ω τ) r z:=by
 unfold cY at h;split at h
 ·rename_i e;simp only[aX,bK]at h;obtain⟨rfl,_,_⟩:=h;have:u=.bool true:=aI.dS e ak;subst this;exact⟨x,rfl,ai⟩
 ·rename_i e;simp only[aX,bK]at h;obtain⟨rfl,_,_⟩:=h;have:u=.bool false:=aI.dS e ak;subst this;exact⟨y,rfl,aw⟩
 ·rename_i kz e;have:u=.bool kz:=aI.dS e ak;subst this;split at h
  ·simp only[aX,bK]at h;obtain⟨rfl,_,rfl⟩:=h;have q3:kz=true:=a7.1;subst q3;exact⟨x,rfl,ai⟩
  ·simp only[aX,bK]at h;obtain⟨rfl,_,rfl⟩:=h;have q3:kz=false:=a7.1;subst q3;exact⟨y,rfl,aw⟩
  cases h
 cases h
def zM:List (List D)->Option (List Int)
 | []=>some []
 | [.v (.int .u8 n)]::r=>(zM r).map (n::·)
 | _=>none
theorem Tb:∀{es:List (List D)} {xs:List Int},zM es=some xs->xs.length=es.length/\∀i,i<xs.length->df es i 0=some (.v (.int .u8 (xs.getD i 0)))/\∀e,es[i]?=some e->e.length=1
 | [],xs,h=>by
  simp_all[zM,aX]
 | e::r,xs,h=>by
  unfold zM at h;split at h
  ·grind
  ·rename_i n nN he;obtain⟨rfl,rfl⟩:=aB2 he;rw[b9]at h;obtain⟨ys,h1,rfl⟩:=h;obtain⟨U,aA⟩:=Tb h1;refine⟨by simp[U],fun i hi=>?_⟩;cases i with
   | zero=>exact⟨rfl,fun e he=>by grind⟩
   | succ i=>
    simp only[gQ,Nat.add_lt_add_iff_right]at hi;grind[df]
  cases h
theorem cell_of_heap{w:World}{b:Nat}{arr:Array Value}{ty:TypeId}{cZ:Nat×Nat}(aw:w.heap[b]?=some (.cells arr ty cZ))(h:arr[off]?=some v):w.cell? ⟨b,off,none⟩=some v:=by
 unfold World.cell?;simp[aw,h]
def aF.Zr:aF->Option (List (List D))
 | .J _ 1 es=>some es
 | _=>none
def LB(P:Program)(src dst:TypeId)(p:aI)(ans:List cd):ku:=
 match P.underlying src,P.underlying dst,p.int with
 | some _,some (.int k),some (_,n)=>arith k n ans
 | some (.slice e),some .string,none=>
  match P.underlying e,p.leaf.bind aF.Zr,ans with
  | some (.int .u8),some es,.pq (.aG (.one (.v (.string s))))::r=>some (.one (.v (.string s)),r,[(zM es).map strOfNums=some s])
  | _,_,_=>none
 | _,_,_=>none
theorem axh{src dst:TypeId}
  (hp:cV (Sat w ω τ) p v) (h:LB P src dst p ans=some (r,cu,obs)) (a7:cQ obs):∃z,(convert src dst v).run P w=.ok z w/\cV (Sat w ω τ) r z:=by
 unfold LB at h;split at h
 ·rename_i d k B2 n e1 e2 cj;rw[aI.o9 cj hp];exact⟨_,by simp_all[convert,run_underlying,Conv.intToInt],zJ h a7⟩
 ·rename_i e e1 e2 cj;split at h
  ·rename_i es s nN d' hj;simp only[aX,bK]at h;obtain⟨rfl,_,rfl⟩:=h;have mR:(zM es).map strOfNums=some s:=a7.1;rw[b9]at mR;obtain⟨xs,h1,rfl⟩:=mR;obtain⟨U,aA⟩:=Tb h1;rw[nn]at hj;obtain⟨l,k2,p1⟩:=hj;have al:=aI.dS k2 hp;unfold aF.Zr at p1;split at p1
   ·rename_i t cD;simp only[aX]at p1;subst p1;obtain⟨aD,_⟩:=al;refine⟨.string (strOfNums xs),?_,rfl⟩;cases aD with
    | nil R k a=>
     have:xs=[]:=List.length_eq_zero_iff.1 (by grind);subst this;cases a with
     | none=>exact run_convert_bytes_nil w src e e1 d' 0 0 dst e2
     | some a=>
      rw[run_convert_bytes_string w src dst e _ 0 0 e1 d' e2];exact run_bytesToString w a 0 0 [] (run_loadCells_list w a [] (fun j v bk=>by simp at bk))
    | row R k _ b off cap arr ty cZ us aw ed ak ao hk hu aE=>
     refine run_convert_bytes_arg w src e e1 d' b off cD.length cap xs U (fun i hi=>?_) dst e2;obtain⟨aJ,_⟩:=aA i (by omega);have a':=hu i 0 _ aJ;have bu:=aE i 0 _ aJ;generalize us i 0=u at a' bu;cases bu;rw[Nat.mul_one,oI]at a';grind[cell_of_heap]
   cases p1
  cases h
 cases h
def LC(P:Program)(t:TypeId)(p q:aI)(ans:List cd):ku:=
 match P.underlying t,p.leaf,q.int with
 | some .string,some (.v (.string s)),some (_,n)=>
  match ans with
  | .num m::r=>some (.one (.v (.int .u8 m)),r,[0<=n,(s[n.toNat]?).map (fun b=>((b.toNat:Nat):Int))=some m])
  | _=>none
 | _,_,_=>none
variable{q:aI}
theorem awC
  (hp:cV (Sat w ω τ) p u) (aH:cV (Sat w ω τ) q v) (h:LC P t p q ans=some (r,cu,obs)) (a7:cQ obs):∃z,(Instr.index t u v).run P w=.ok z w/\cV (Sat w ω τ) r z:=by
 unfold LC at h;split at h
 ·rename_i s B2 n e1 e2 cj;split at h
  ·rename_i m h9;simp only[aX,bK]at h;obtain⟨rfl,_,rfl⟩:=h;obtain⟨bO,h1,_⟩:=a7;have:u=.string s:=aI.dS e2 hp;subst this;rw[aI.o9 cj aH];rw[b9]at h1;obtain⟨b,aw,hm⟩:=h1;exact⟨.int .u8 m,by simp_all[Instr.index,asIntOf,run_underlying],rfl⟩
  cases h
 cases h
def LD(p q:aI)(ans:List cd):ku:=
 match p.int,q.int with
 | some (k,a),some (_,b)=>some (.one (.v (.int k (if b<a then b else a))),ans,[])
 | _,_=>none
def LF(p q:aI)(ans:List cd):ku:=
 match p.int,q.int with
 | some (k,a),some (_,b)=>some (.one (.v (.int k (if b>a then b else a))),ans,[])
 | _,_=>none
theorem awD{P:Program}{ts:Array TypeId}{ty:TypeId}
  (hp:cV (Sat w ω τ) p u) (aH:cV (Sat w ω τ) q v) (h:LD p q ans=some (r,cu,obs)):∃z,(Builtin.min_ ts ty #[u,v]).run P w=.ok z w/\cV (Sat w ω τ) r z:=by
 unfold LD at h;split at h
 ·rename_i k a B2 b e1 e2;simp only[aX,bK]at h;obtain⟨rfl,_,_⟩:=h;rw[aI.o9 e1 hp,aI.o9 e2 aH];exact⟨_,by simp[Builtin.min_,Builtin.min2],rfl⟩
 cases h
theorem awE{P:Program}{ts:Array TypeId}{ty:TypeId}
  (hp:cV (Sat w ω τ) p u) (aH:cV (Sat w ω τ) q v) (h:LF p q ans=some (r,cu,obs)):∃z,(Builtin.max_ ts ty #[u,v]).run P w=.ok z w/\cV (Sat w ω τ) r z:=by
 unfold LF at h;split at h
 ·rename_i k a B2 b e1 e2;simp only[aX,bK]at h;obtain⟨rfl,_,_⟩:=h;rw[aI.o9 e1 hp,aI.o9 e2 aH];exact⟨_,by simp[Builtin.max_,Builtin.max2],rfl⟩
 cases h
def Tc(p:aI)(ans:List cd):ku:=
 match p.leaf with
 | some (.ptr id off)=>some (.one (.ptr id off),ans,[])
 | some (.ep t k es i j)=>some (.one (.ep t k es i j),ans,[])
 | some (.hQ ds off)=>some (.one (.hQ ds off),ans,[])
 | some (.aN t i j k es (.at_ x y))=>some (.one (.aN t i j k es (.at_ x y)),ans,[])
 | _=>none
def Sk(p:aI):Option Nat:=
 match p.leaf with
 | some (.ptr id 0)=>some id
 | _=>none
def QQ(p:aI):Option D:=
 match p.leaf with
 | some (.hQ ds 0)=>some (.ptr ds)
 | some (.v x)=>if x.oneCell' then some (.v x) else none
 | _=>none
def Gk(st:aC)(fn:Fn)(first captured:List Operand)(ans:List cd):ku:=
 match fn,first with
 | .func g,[]=>
  match (captured.map st.bq).mapM Sk with
  | some ids=>some (.one (.hg g ids),ans,[])
  | none=>
   match (captured.map st.bq).mapM QQ with
   | some ds=>some (.one (.fd (.cl g ds)),ans,[])
   | none=>none
 | _,_=>none
theorem LG{α β:Type}{f:α->Option β}:∀{xs:List α} {ys:List β},xs.mapM f=some ys->ys.length=xs.length/\∀(i:Nat) (y:β),ys[i]?=some y->∃x,xs[i]?=some x/\f x=some y
 | [],ys,h=>by grind
 | x::xs,ys,h=>by
  rw[AU]at h;cases e:f x with
  | none=>simp[e]at h
  | some y=>
   cases e2:xs.mapM f with
   | none=>grind
   | some zs=>
    simp[e,e2]at h;subst h;obtain⟨h1,U⟩:=LG e2;grind
theorem awF{P:Program}{fn:Fn}{first captured:Array Operand}
  (a6:cK w0 st a w ω τ) (h:Gk st fn first.toList captured.toList ans=some (r,cu,obs)):
  ∃z,(Instr.makeFunc fn (first.map a.eval) (captured.map a.eval)).run P w=.ok z w/\cV (Sat w ω τ) r z:=by
 unfold Gk at h;split at h
 ·rename_i g aC5;have bF:first=#[]:=by
   grind
  subst bF;refine⟨.func (.func g) #[] (captured.map a.eval),by simp[Instr.makeFunc],?_⟩;have sh:∀(i:Nat) (x:aI),(captured.toList.map st.bq)[i]?=some x->∃v,(captured.map a.eval)[i]?=some v/\cV (Sat w ω τ) x v:=by
   intro i x af;rw[dK,b9]at af;obtain⟨o,a7,rfl⟩:=af;refine⟨a.eval o,?_,a6.bq o⟩;grind
  split at h
  ·rename_i ids acF;simp only[aX,bK]at h;obtain⟨rfl,_,_⟩:=h;obtain⟨aZ,ax⟩:=LG acF;have hex:∀i,i<ids.length->∃b id,ids[i]?=some id/\(captured.map a.eval)[i]?=some (ptrTo b)/\ω b=.box id:=by
    intro i hi;obtain⟨x,af,km⟩:=ax i ids[i] (by simp[hi]);obtain⟨v,bI,ao⟩:=sh i x af;unfold Sk at km;split at km
    ·rename_i id al;simp only[aX]at km;obtain⟨b,aw,rfl⟩:=aI.dS al ao;exact⟨b,id,by grind,bI,aw⟩
    cases km
   have dM:(captured.map a.eval).size=ids.length:=by grind
   let bs:=(List.range ids.length).map fun i=>(match (captured.map a.eval)[i]? with | some (.pointer (some p))=>p.block | _=>0)
   refine⟨bs,?_,by simp[bs],fun i id hx=>?_⟩
   ·congr 1
    apply Array.ext
    ·grind
    grind[id,aX,ptrTo]
   grind[gJ,ptrTo]
  split at h
  ·rename_i ds fc;simp only[aX,bK]at h;obtain⟨rfl,_,_⟩:=h;obtain⟨aZ,ax⟩:=LG fc;refine b4.cl _ g ds (captured.map a.eval) (fun j=>(captured.map a.eval).getD j undef) (by grind) (fun j d aE=>?_) (fun j d aE=>?_)
   ·obtain⟨x,af,_⟩:=ax j d aE;obtain⟨v,bI,_⟩:=sh j x af;rw[bI];simp only[e7,bI,lL]
   obtain⟨x,af,km⟩:=ax j d aE;obtain⟨v,bI,ao⟩:=sh j x af;have e:(captured.map a.eval).getD j undef=v:=by simp only[e7,bI,lL]
   rw[e];unfold QQ at km;split at km
   ·rename_i tu al;simp only[aX]at km;subst km;obtain⟨b,rfl,aD⟩:=aI.dS al ao;exact aD.frame fun b q aw aH=>⟨aH,rfl⟩
   ·rename_i y al;split at km
    ·rename_i adb;simp only[aX]at km;subst km;have:v=y:=aI.dS al ao;subst this;exact .v _ _ adb
    cases km
   cases km
  cases h
 cases h
def Gl(P:Program)(st:aC)(b:Builtin)(args:List Operand)(ts:List TypeId)(ans:List cd):ku:=
 match b,args,ts with
 | .len,[x],[t]=>Lt P t (st.bq x) ans
 | .min,[x,y],_=>LD (st.bq x) (st.bq y) ans
 | .max,[x,y],_=>LF (st.bq x) (st.bq y) ans
 | _,_,_=>none
def rB(P:Program)(st:aC)(op:Op)(ans:List cd):ku:=
 match op with
 | .move x | .assign x=>some (st.bq x,ans,[])
 | .pick c a b=>cY (st.bq c) (st.bq a) (st.bq b) ans
 | .load t x=>Gg P st t (st.bq x) ans
 | .nilCheck x=>Tc (st.bq x) ans
 | .binOp op t x y _=>LZ P op t x y (st.bq x) (st.bq y) ans
 | .unOp op _ x=>LA op (st.bq x) ans
 | .convert s d x=>LB P s d (st.bq x) ans
 | .slice t x c7 hi jy=>Gh P st t (st.bq x) c7 hi jy ans
 | .fieldAddr s x f=>L1 P s (st.bq x) f ans
 | .field t x f=>Ly P t (st.bq x) f ans
 | .indexAddr t x i=>L2 P t (st.bq x) (st.bq i) ans
 | .index t x i=>LC P t (st.bq x) (st.bq i) ans
 | .extract x i=>Lx (st.bq x) i ans
 | .build t parts=>Gi P st t parts.toList ans
 | .call ⟨.builtin b,args,ts⟩=>Gl P st b args.toList ts.toList ans
 | .makeFunc fn first captured=>Gk st fn first.toList captured.toList ans
 | _=>none
theorem jH{aP:World}{s:Sem Value}{z:Value}(h:s.run P w=.ok z aP):(do pure (.value (<-s)):Sem Next).run P w=.ok (.value z) aP:=by
 simp_all
theorem awG{b:Builtin}{args:Array Operand}{ts:Array TypeId}{ty:TypeId}{consts:Array Bool}
  (a6:cK w0 st a w ω τ) (h:Gl P st b args.toList ts.toList ans=some (r,cu,obs)):
  ∃z,(builtin b ts ty consts (args.map a.eval)).run P w=.ok (.value z) w/\cV (Sat w ω τ) r z:=by
 obtain⟨args⟩:=args;obtain⟨ts⟩:=ts;unfold Gl at h;split at h
 ·rename_i x t e1 e2;simp only at e1 e2;subst e1 e2;obtain⟨z,h1,U⟩:=axa (ty:=ty) (a6.bq x) h;refine⟨z,jH (s:=Builtin.len_ #[t] ty (Array.map a.eval #[x])) ?_,U⟩;grind
 ·rename_i x y e1;simp only at e1;subst e1;obtain⟨z,h1,U⟩:=awD (P:=P) (ts:=⟨ts⟩) (ty:=ty) (a6.bq x) (a6.bq y) h;refine⟨z,jH (s:=Builtin.min_ ⟨ts⟩ ty (Array.map a.eval #[x,y])) ?_,U⟩;grind
 ·rename_i x y e1;simp only at e1;subst e1;obtain⟨z,h1,U⟩:=awE (P:=P) (ts:=⟨ts⟩) (ty:=ty) (a6.bq x) (a6.bq y) h;refine⟨z,jH (s:=Builtin.max_ ⟨ts⟩ ty (Array.map a.eval #[x,y])) ?_,U⟩;grind
 cases h
theorem LH{o:Oper}
  (a6:cK w0 st a w ω τ) (h:rB P st o.op ans=some (r,cu,obs)) (a7:cQ obs):
  ∃z,(execOp a.eval o).run P w=.ok (.value z) w/\cV (Sat w ω τ) r z:=by
 obtain⟨dst,op,type,pos,after,guard⟩:=o;simp only at h;unfold rB at h;split at h
 ·rename_i x;simp only[aX,bK]at h;obtain⟨rfl,_,_⟩:=h;exact⟨a.eval x,rfl,a6.bq x⟩
 ·rename_i x;simp only[aX,bK]at h;obtain⟨rfl,_,_⟩:=h;exact⟨a.eval x,rfl,a6.bq x⟩
 ·rename_i c x y;exact axg (a6.bq c) (a6.bq x) (a6.bq y) h a7
 ·rename_i t x;obtain⟨z,h1,U⟩:=aw9 a6 (a6.bq x) h a7;exact⟨z,jH h1,U⟩
 ·rename_i x;unfold Tc at h;split at h
  ·rename_i id off e;simp only[aX,bK]at h;obtain⟨rfl,_,_⟩:=h;have ao:=aI.dS e (a6.bq x);obtain⟨b,aw,af⟩:=ao;exact⟨_,by simp_all[execOp],b,aw,rfl⟩
  ·rename_i t k es i j e;simp only[aX,bK]at h;obtain⟨rfl,_,_⟩:=h;have ao:=aI.dS e (a6.bq x);have dp:=ao;obtain⟨b,off,cap,af,h1⟩:=ao;refine⟨_,by simp only[execOp,af];rfl,?_⟩;rw[<-af];exact dp
  ·rename_i ds off e;simp only[aX,bK]at h;obtain⟨rfl,_,_⟩:=h;have ao:=aI.dS e (a6.bq x);have dp:=ao;obtain⟨b,af,h1⟩:=ao;refine⟨_,by simp only[execOp,af];rfl,?_⟩;rw[<-af];exact dp
  ·rename_i t i j k es aBH QA e;simp only[aX,bK]at h;obtain⟨rfl,_,_⟩:=h;have ao:=aI.dS e (a6.bq x);have dp:=ao;obtain⟨fH,⟨b,off,cap,_,af,_⟩,_⟩:=ao;refine⟨_,by simp only[execOp,af];rfl,?_⟩;rw[<-af];exact dp
  cases h
 ·rename_i aed t x y rX;obtain⟨z,h1,U⟩:=aw5 (a6.bq x) (a6.bq y) h a7;exact⟨z,jH h1,U⟩
 ·rename_i aed t x;obtain⟨z,h1,U⟩:=axf (a6.bq x) h a7;exact⟨z,jH h1,U⟩
 ·rename_i s d x;obtain⟨z,h1,U⟩:=axh (a6.bq x) h a7;exact⟨z,jH h1,U⟩
 ·rename_i t x c7 hi jy;obtain⟨z,h1,U⟩:=axb a6 (a6.bq x) h a7;exact⟨z,jH h1,U⟩
 ·rename_i s x f;obtain⟨z,h1,U⟩:=aw6 (a6.bq x) h;exact⟨z,jH h1,U⟩
 ·rename_i t x f;obtain⟨z,h1,U⟩:=axe (a6.bq x) h;exact⟨z,jH h1,U⟩
 ·rename_i t x i;obtain⟨z,h1,U⟩:=aw7 (a6.bq x) (a6.bq i) h a7;exact⟨z,jH h1,U⟩
 ·rename_i t x i;obtain⟨z,h1,U⟩:=awC (a6.bq x) (a6.bq i) h a7;exact⟨z,jH h1,U⟩
 ·rename_i x i;obtain⟨z,h1,U⟩:=axd (P:=P) (a6.bq x) h;exact⟨z,jH h1,U⟩
 ·rename_i t parts;obtain⟨z,h1,U⟩:=axc a6 h;exact⟨z,jH h1,U⟩
 ·rename_i b args ts;obtain⟨z,h1,U⟩:=awG (ty:=type) (consts:=args.map fun | .const _=>true | _=>false) a6 h;grind[execOp,resolve,Sem.run_bind,Sem.run_pure,Result.andThen_ok,invoke]
 ·rename_i fn first captured
  obtain⟨z,h1,U⟩:=awF (P:=P) a6 h;exact⟨z,jH h1,U⟩
 cases h
