import Derived.WalkKit
import Derived.WalkSpells
import Derived.WalkLawsBesides
import Derived.KernelRfl
set_option linter.unusedVariables false
set_option linter.unusedSimpArgs false
namespace Go.Sx
open Go.RowKit
universe u v w x
theorem aa:True:=⟨⟩
theorem aZ:type_of% @Option.some.injEq.{u}:=@Option.some.injEq.{u}
theorem b':type_of% @List.length_map.{u,v}:=@List.length_map.{u,v}
theorem ca:type_of% @Option.map_eq_some_iff.{u,v}:=@Option.map_eq_some_iff.{u,v}
theorem bL:type_of% @Prod.mk.injEq.{u,v}:=@Prod.mk.injEq.{u,v}
theorem cU:type_of% @Bool.eq_false_or_eq_true:=@Bool.eq_false_or_eq_true
theorem kK:type_of% @decide_eq_false_iff_not:=@decide_eq_false_iff_not
theorem gE:type_of% @List.mem_cons_of_mem.{u}:=@List.mem_cons_of_mem.{u}
theorem ew:type_of% @List.length_nil.{u}:=@List.length_nil.{u}
theorem cj:type_of% @decide_eq_true_eq:=@decide_eq_true_eq
theorem cu:type_of% @Bool.and_eq_true:=@Bool.and_eq_true
theorem ga:type_of% @List.getElem?_eq_some_iff.{u}:=@List.getElem?_eq_some_iff.{u}
theorem fc:type_of% @Array.getD_eq_getD_getElem?.{u}:=@Array.getD_eq_getD_getElem?.{u}
theorem h2:type_of% @List.mem_cons_self.{u}:=@List.mem_cons_self.{u}
theorem ho:type_of% @List.length_set.{u}:=@List.length_set.{u}
theorem bD:type_of% @if_neg.{u}:=@if_neg.{u}
theorem bq:type_of% @if_pos.{u}:=@if_pos.{u}
theorem gT:type_of% @List.length_cons.{u}:=@List.length_cons.{u}
theorem dI:type_of% @List.getElem?_map.{u,v}:=@List.getElem?_map.{u,v}
theorem o8:type_of% @decide_eq_false:=@decide_eq_false
theorem gU:type_of% @List.getElem?_eq_getElem.{u}:=@List.getElem?_eq_getElem.{u}
theorem dX:type_of% @Nat.zero_add:=@Nat.zero_add
theorem gj:type_of% @List.mem_of_getElem?.{u}:=@List.mem_of_getElem?.{u}
theorem gO:type_of% @Option.some.inj.{u}:=@Option.some.inj.{u}
theorem fC:type_of% @Bool.or_eq_false_iff:=@Bool.or_eq_false_iff
theorem jj:type_of% @Array.getElem?_eq_some_iff.{u}:=@Array.getElem?_eq_some_iff.{u}
theorem lx:type_of% @List.getElem?_drop.{u}:=@List.getElem?_drop.{u}
theorem hI:type_of% @Nat.mul_le_mul_right:=@Nat.mul_le_mul_right
theorem jh:type_of% @List.take_length.{u}:=@List.take_length.{u}
theorem lV:type_of% @Array.getElem?_eq_getElem.{u}:=@Array.getElem?_eq_getElem.{u}
theorem kq:type_of% @beq_iff_eq.{u}:=@beq_iff_eq.{u}
theorem jZ:type_of% @List.getElem?_take.{u}:=@List.getElem?_take.{u}
theorem aEx:type_of% @List.cons.inj.{u}:=@List.cons.inj.{u}
theorem mN:type_of% @Array.getElem?_toList.{u}:=@Array.getElem?_toList.{u}
theorem hJ:type_of% @List.mem_append_left.{u}:=@List.mem_append_left.{u}
theorem iN:type_of% @List.mem_append_right.{u}:=@List.mem_append_right.{u}
theorem ji:type_of% @Array.getElem?_append.{u}:=@Array.getElem?_append.{u}
theorem ev:type_of% @List.mem_cons.{u}:=@List.mem_cons.{u}
theorem gn:type_of% @List.all_eq_true.{u}:=@List.all_eq_true.{u}
theorem ly:type_of% @List.getD_eq_getElem?_getD.{u}:=@List.getD_eq_getElem?_getD.{u}
theorem fi:type_of% @Nat.le_refl:=@Nat.le_refl
theorem fx:type_of% @List.any_eq_false.{u}:=@List.any_eq_false.{u}
theorem wW:type_of% @Bool.eq_false_iff:=@Bool.eq_false_iff
theorem hK:type_of% @Nat.add_mul:=@Nat.add_mul
theorem gp:type_of% @Bool.not_eq_true':=@Bool.not_eq_true'
theorem qY:type_of% @List.getElem?_append.{u}:=@List.getElem?_append.{u}
theorem gi:type_of% @List.map_append.{u,v}:=@List.map_append.{u,v}
theorem lW:type_of% @Option.getD_some.{u}:=@Option.getD_some.{u}
theorem lX:type_of% @List.map_congr_left.{u,v}:=@List.map_congr_left.{u,v}
theorem jC:type_of% @Bool.not_eq_false':=@Bool.not_eq_false'
theorem p6:type_of% @List.getElem?_toArray.{u}:=@List.getElem?_toArray.{u}
theorem hy:type_of% @Bool.not_true:=@Bool.not_true
theorem iO:type_of% @List.append_nil.{u}:=@List.append_nil.{u}
theorem f':type_of% @List.length_append.{u}:=@List.length_append.{u}
theorem o1:type_of% @List.size_toArray.{u}:=@List.size_toArray.{u}
theorem p7:type_of% @List.getElem?_set.{u}:=@List.getElem?_set.{u}
theorem lz:type_of% @Int.toNat_natCast:=@Int.toNat_natCast
theorem p8:type_of% @List.getElem?_cons_succ.{u}:=@List.getElem?_cons_succ.{u}
theorem lY:type_of% @List.getElem?_cons_zero.{u}:=@List.getElem?_cons_zero.{u}
theorem nB:type_of% @Option.bind_eq_some_iff.{u,v}:=@Option.bind_eq_some_iff.{u,v}
theorem u9:type_of% @List.findIdx?_eq_some_iff_getElem.{u}:=@List.findIdx?_eq_some_iff_getElem.{u}
theorem sj:type_of% @Option.isSome_iff_exists.{u}:=@Option.isSome_iff_exists.{u}
theorem ob:type_of% @List.mem_iff_getElem?.{u}:=@List.mem_iff_getElem?.{u}
theorem hn:type_of% @Bool.false_or:=@Bool.false_or
theorem qZ:type_of% @List.set_set.{u}:=@List.set_set.{u}
theorem q0:type_of% @Option.bind_some.{u,v}:=@Option.bind_some.{u,v}
theorem oc:type_of% @Bool.false_eq_true:=@Bool.false_eq_true
theorem k':type_of% @decide_eq_true:=@decide_eq_true
theorem acC:type_of% @Int.le_trans:=@Int.le_trans
theorem lA:type_of% @List.mem_flatMap.{u,v}:=@List.mem_flatMap.{u,v}
theorem wX:type_of% @List.getElem?_append_right.{u}:=@List.getElem?_append_right.{u}
theorem o2:type_of% @List.length_filter_le.{u}:=@List.length_filter_le.{u}
theorem hL:type_of% @List.map_set.{u,v}:=@List.map_set.{u,v}
theorem mg:type_of% @List.map_cons.{u,v}:=@List.map_cons.{u,v}
theorem sk:type_of% @Option.map_some.{u,v}:=@Option.map_some.{u,v}
theorem p9:type_of% @List.getElem_mem.{u}:=@List.getElem_mem.{u}
theorem nC:type_of% @List.length_take.{u}:=@List.length_take.{u}
theorem hM:type_of% @List.mem_append.{u}:=@List.mem_append.{u}
theorem mO:type_of% @List.append_assoc.{u}:=@List.append_assoc.{u}
theorem gy:type_of% @if_true.{u}:=@if_true.{u}
theorem o3:type_of% @Bool.not_false:=@Bool.not_false
theorem u':type_of% @Array.size_append.{u}:=@Array.size_append.{u}
theorem o4:type_of% @List.take_add_one.{u}:=@List.take_add_one.{u}
theorem iD:type_of% @List.mem_or_eq_of_mem_set.{u}:=@List.mem_or_eq_of_mem_set.{u}
theorem Ba:type_of% @List.getElem?_append_left.{u}:=@List.getElem?_append_left.{u}
theorem sl:type_of% @List.mem_of_mem_take.{u}:=@List.mem_of_mem_take.{u}
theorem o5:type_of% @Bool.or_eq_true:=@Bool.or_eq_true
theorem o6:type_of% @Nat.add_zero:=@Nat.add_zero
theorem yS:type_of% @List.take_of_length_le.{u}:=@List.take_of_length_le.{u}
theorem lB:type_of% @Bool.true_and:=@Bool.true_and
theorem kr:type_of% @List.mem_map.{u,v}:=@List.mem_map.{u,v}
theorem wY:type_of% @List.mem_of_mem_drop.{u}:=@List.mem_of_mem_drop.{u}
theorem EO:type_of% @List.getElem?_replicate.{u}:=@List.getElem?_replicate.{u}
theorem q2:type_of% @Nat.lt_or_ge:=@Nat.lt_or_ge
theorem yU:type_of% @beq_eq_false_iff_ne.{u}:=@beq_eq_false_iff_ne.{u}
theorem tD:type_of% @List.cons.injEq.{u}:=@List.cons.injEq.{u}
theorem Jm:type_of% @List.findIdx?_eq_none_iff.{u}:=@List.findIdx?_eq_none_iff.{u}
theorem wZ:type_of% @Bool.not_eq_true:=@Bool.not_eq_true
theorem od:type_of% @List.not_mem_nil.{u}:=@List.not_mem_nil.{u}
theorem yV:type_of% @List.eq_nil_of_length_eq_zero.{u}:=@List.eq_nil_of_length_eq_zero.{u}
theorem acD:type_of% @List.take_append_of_le_length.{u}:=@List.take_append_of_le_length.{u}
theorem Ry:type_of% @Array.length_toList.{u}:=@Array.length_toList.{u}
theorem yW:type_of% @beq_self_eq_true.{u}:=@beq_self_eq_true.{u}
theorem Bb:type_of% @Nat.lt_of_lt_of_le:=@Nat.lt_of_lt_of_le
theorem Jn:type_of% @Option.isSome_eq_false_iff.{u}:=@Option.isSome_eq_false_iff.{u}
theorem yX:type_of% @List.take_append_drop.{u}:=@List.take_append_drop.{u}
theorem lZ:type_of% @ne_eq.{u}:=@ne_eq.{u}
theorem Jo:type_of% @Option.isNone_iff_eq_none.{u}:=@Option.isNone_iff_eq_none.{u}
theorem nD:type_of% @Nat.le_trans:=@Nat.le_trans
theorem tE:type_of% @List.map_id.{u}:=@List.map_id.{u}
theorem EP:type_of% @List.any_cons.{u}:=@List.any_cons.{u}
theorem Bc:type_of% @List.mapM_cons.{u,v,w}:=@List.mapM_cons.{u,v,w}
theorem mh:type_of% @if_false.{u}:=@if_false.{u}
theorem o7:type_of% @List.any_eq_true.{u}:=@List.any_eq_true.{u}
theorem yY:type_of% @List.drop_zero.{u}:=@List.drop_zero.{u}
theorem aGQ:type_of% @Int.natCast_zero:=@Int.natCast_zero
theorem w2:type_of% @List.flatMap_nil.{u,v}:=@List.flatMap_nil.{u,v}
theorem EQ:type_of% @Array.getElem?_eq_none.{u}:=@Array.getElem?_eq_none.{u}
theorem aEy:type_of% @Array.getElem?_map.{u,v}:=@Array.getElem?_map.{u,v}
theorem Bd:type_of% @Option.toList_some.{u}:=@Option.toList_some.{u}
theorem yZ:type_of% @List.range_zero:=@List.range_zero
theorem q3:type_of% @List.map_take.{u,v}:=@List.map_take.{u,v}
theorem va:type_of% @Bool.and_true:=@Bool.and_true
theorem w3:type_of% @List.length_range:=@List.length_range
theorem ER:type_of% @Nat.mod_eq_of_lt:=@Nat.mod_eq_of_lt
theorem ES:type_of% @Nat.add_assoc:=@Nat.add_assoc
theorem w4:type_of% @List.sum_cons.{u}:=@List.sum_cons.{u}
inductive D where
 | v (x:Value)
 | J (k:Nat) (es:List (List D))
 | ptr (ds:List D)
 | cl (g:FuncId) (bk:List D)
inductive dv where
 | bP
 | box (id:Nat)
 | tok (t:Nat) (q:List (Nat×Nat))
abbrev Own:=Nat->dv
def df(es:List (List D))(i j:Nat):Option D:=(es[i]?).bind (·[j]?)
inductive b3 (w:World) (ω:Own):(List (Nat×Nat)->dv->Prop)->D->Value->Prop
 | v (R:List (Nat×Nat)->dv->Prop) (x:Value) (h1:x.oneCell'=true):b3 w ω R (.v x) x
 | nil (R:List (Nat×Nat)->dv->Prop) (k:Nat) (a:Option Addr):b3 w ω R (.J k []) (.slice a 0 0)
 | row (R:List (Nat×Nat)->dv->Prop) (k:Nat) (es:List (List D)) (b off cap:Nat) (arr:Array Value) (ty:TypeId) (cY:Nat×Nat) (us:Nat->Nat->Value)
   (aw:w.heap[b]?=some (.cells arr ty cY)) (ef:R [] (ω b)) (ai:es.length<=cap) (ao:off+cap*k<=arr.size) (hk:∀e∈es,e.length=k)
   (hu:∀i j d,df es i j=some d->arr[off+i*k+j]?=some (us i j))
   (aE:∀i j d,df es i j=some d->b3 w ω (fun q=>R ((i,j)::q)) d (us i j)):
   b3 w ω R (.J k es) (.slice (some ⟨b,off,none⟩) es.length cap)
 | ptr (R:List (Nat×Nat)->dv->Prop) (ds:List D) (b:Nat) (arr:Array Value) (ty:TypeId) (cY:Nat×Nat) (us:Nat->Value)
   (aw:w.heap[b]?=some (.cells arr ty cY)) (ef:R [] (ω b)) (ao:arr.size=ds.length)
   (hu:∀j d,ds[j]?=some d->arr[j]?=some (us j)) (aE:∀j d,ds[j]?=some d->b3 w ω (fun q=>R ((0,j)::q)) d (us j)):
   b3 w ω R (.ptr ds) (.pointer (some ⟨b,0,none⟩))
 | cl (R:List (Nat×Nat)->dv->Prop) (g:FuncId) (bk:List D) (cs:Array Value) (us:Nat->Value) (ao:cs.size=bk.length)
   (hu:∀j d,bk[j]?=some d->cs[j]?=some (us j)) (aE:∀j d,bk[j]?=some d->b3 w ω (fun q=>R ((0,j)::q)) d (us j)):
   b3 w ω R (.cl g bk) (.func (.func g) #[] cs)
variable{w aN:World}{ω:Own}
theorem b3.frame{bh:Own}{R:List (Nat×Nat)->dv->Prop}{d:D}{v:Value}(h:b3 w ω R d v):
  ∀{jE:List (Nat×Nat)->dv->Prop},(∀b q,b<w.heap.size->R q (ω b)->jE q (bh b)/\aN.heap[b]?=w.heap[b]?)->b3 aN bh jE d v:=by
 induction h with
 | v R x h1=>intro jE _;exact .v jE x h1
 | nil R k a=>intro jE _;exact .nil jE k a
 | row R k es b off cap arr ty cY us aw ef ai ao hk hu aE eA=>
  intro jE bI;have bR:b<w.heap.size:=by
   rcases q2 b w.heap.size with h | h
   ·exact h
   simp[EQ h]at aw
  obtain⟨h1,U⟩:=bI b [] bR ef;exact .row jE k es b off cap arr ty cY us (U.trans aw) h1 ai ao hk hu (fun i j d eQ=>eA i j d eQ (fun b q al aH=>bI b ((i,j)::q) al aH))
 | ptr R ds b arr ty cY us aw ef ao hu aE eA=>
  intro jE bI;have bR:b<w.heap.size:=by
   rcases q2 b w.heap.size with h | h
   ·exact h
   simp[EQ h]at aw
  obtain⟨h1,U⟩:=bI b [] bR ef;exact .ptr jE ds b arr ty cY us (U.trans aw) h1 ao hu (fun j d eQ=>eA j d eQ (fun b q al aH=>bI b ((0,j)::q) al aH))
 | cl R g bk cs us ao hu aE eA=>
  intro jE bI;exact .cl jE g bk cs us ao hu (fun j d eQ=>eA j d eQ (fun b q al aH=>bI b ((0,j)::q) al aH))
inductive Tag where
 | free
 | own (t:Nat)
 | ro (t:Nat)
def Tag.R:Tag->List (Nat×Nat)->dv->Prop
 | .free,_,o=>o=.bP
 | .own t,q,o=>o=.tok t q
 | .ro t,_,o=>o=.bP\/∃q,o=.tok t q
def Tag.et(τ:Nat->Nat×Value):Tag->Nat×Value->Prop
 | .own t,y=>τ t=y
 | _,_=>True
def dk:Nat:=1000000000
inductive fq where
 | cp
 | v (x:Value)
 | J (t:Tag) (k:Nat) (es:List (List D))
inductive w7 where
 | here
 | mS
 | at_ (x y:Nat)
def w7.rel(k n:Nat):w7->Value->Value->Prop
 | .at_ x y,u,v=>∃b off cap,u=.slice (some ⟨b,off,none⟩) n cap/\v=.pointer (some ⟨b,off+x*k+y,none⟩)/\x<n
 | _,u,v=>v=u
def w7.home:w7->Bool
 | .mS=>false
 | _=>true
inductive aG where
 | cp
 | v (x:Value)
 | bg (c:Bool)
 | J (t:Tag) (k:Nat) (es:List (List D))
 | ptr (id off:Nat)
 | ep (t:Tag) (k:Nat) (es:List (List D)) (i j:Nat)
 | hY (ds:List D) (off:Nat)
 | fd (d:D)
 | hq (g:FuncId) (ids:List Nat)
 | aR (t i j k:Nat) (es:List (List D)) (m:w7)
 | fP (t:Nat) (vs:List fq)
 | dC (t k:Nat) (es:List (List D))
def ptrTo(b:Nat):Value:=.pointer (some ⟨b,0,none⟩)
def so(w:World)(ω:Own)(τ:Nat->Nat×Value):fq->Value->Prop
 | .cp,_=>True
 | .v x,y=>y=x
 | .J t k es,y=>b3 w ω t.R (.J k es) y/\t.et τ (k,y)
def vM(w:World)(ω:Own)(τ:Nat->Nat×Value)(t i j:Nat)(u:Value):Prop:=
 ∃(kT b off len cap:Nat) (arr:Array Value) (ty:TypeId) (cY:Nat×Nat),τ t=(kT,.slice (some ⟨b,off,none⟩) len cap)/\ω b=.tok t []/\w.heap[b]?=some (.cells arr ty cY)/\arr[off+i*kT+j]?=some u
def Sat(w:World)(ω:Own)(τ:Nat->Nat×Value):aG->Value->Prop
 | .cp,_=>True
 | .v x,y=>y=x
 | .bg c,y=>y=.bool c
 | .J t k es,y=>b3 w ω t.R (.J k es) y/\t.et τ (k,y)
 | .ptr id off,y=>∃b,ω b=.box id/\y=.pointer (some ⟨b,off,none⟩)
 | .ep t k es i j,y=>∃b off cap,y=.pointer (some ⟨b,off+i*k+j,none⟩)/\i<es.length/\
   b3 w ω t.R (.J k es) (.slice (some ⟨b,off,none⟩) es.length cap)/\t.et τ (k,.slice (some ⟨b,off,none⟩) es.length cap)
 | .hY ds off,y=>∃b,y=.pointer (some ⟨b,off,none⟩)/\b3 w ω Tag.free.R (.ptr ds) (ptrTo b)
 | .fd d,y=>b3 w ω Tag.free.R d y
 | .hq g ids,y=>∃bs:List Nat,y=.func (.func g) #[] (bs.map ptrTo).toArray/\bs.length=ids.length/\∀(i:Nat) (id:Nat),ids[i]?=some id->∃b,bs[i]?=some b/\ω b=.box id
 | .dC t k es,y=>b3 w ω Tag.free.R (.J k es) y/\(dk<=t->τ t=(k,y))
 | .aR t i j k es m,y=>∃u,m.rel k es.length u y/\b3 w ω (fun q o=>o=.tok t ((i,j)::q)) (.J k es) u/\(m.home=true->vM w ω τ t i j u)
 | .fP t vs,y=>∃(b:Nat) (ty:TypeId) (arr:Array Value),y=ptrTo b/\ω b=.tok t []/\w.heap[b]?=some (.cells arr ty (0,0))/\arr.size=vs.length/\∀(j:Nat) (c:fq),vs[j]?=some c->∃u,arr[j]?=some u/\so w ω τ c u
inductive bp where
 | one (l:aG)
 | agg (ls:List aG)
inductive aI where
 | aF (a:bp)
 | gx (as:List bp)
abbrev aI.one(l:aG):aI:=.aF (.one l)
abbrev aI.agg(ls:List aG):aI:=.aF (.agg ls)
abbrev aI.cp:aI:=.aF (.one .cp)
def lf(S:aG->Value->Prop)(ls:List aG)(vs:Array Value):Prop:=
 vs.size=ls.length/\∀(i:Nat) (l:aG),ls[i]?=some l->∃u,vs[i]?=some u/\S l u
def lc(S:aG->Value->Prop):bp->Value->Prop
 | .one l,y=>S l y
 | .agg ls,y=>∃vs,y=.agg vs/\lf S ls vs
def cW(S:aG->Value->Prop):aI->Value->Prop
 | .aF a,y=>lc S a y
 | .gx as,y=>∃vs:Array Value,y=.tuple vs/\vs.size=as.length/\∀(i:Nat) (a:bp),as[i]?=some a->∃u,vs[i]?=some u/\lc S a u
structure aD where
 env:List aI
 boxes:List (Nat×List aG)
def dK(id:Nat):List (Nat×List aG)->Option (List aG)
 | []=>none
 | (i,ls)::r=>if i=id then some ls else dK id r
def bp.map(f:aG->aG):bp->bp
 | .one l=>.one (f l)
 | .agg ls=>.agg (ls.map f)
def aI.map(f:aG->aG):aI->aI
 | .aF a=>.aF (a.map f)
 | .gx as=>.gx (as.map (bp.map f))
def aD.map(f:aG->aG)(s:aD):aD:=⟨s.env.map (aI.map f),s.boxes.map fun x=>(x.1,x.2.map f)⟩
variable{S:aG->Value->Prop}
theorem lf.map{lD:aG->Value->Prop}{f:aG->aG}(h:∀l v,S l v->lD (f l) v){ls:List aG}{vs:Array Value}(ao:lf S ls vs):lf lD (ls.map f) vs:=by
 refine⟨by simpa using ao.1,fun i l al=>?_⟩;rw[dI,ca]at al;obtain⟨dn,bJ,rfl⟩:=al;obtain⟨u,h1,U⟩:=ao.2 i dn bJ;exact⟨u,h1,h _ _ U⟩
theorem lc.map{lD:aG->Value->Prop}{f:aG->aG}(h:∀l v,S l v->lD (f l) v):∀{a:bp} {y:Value},lc S a y->lc lD (a.map f) y
 | .one l,y,ao=>h _ _ ao
 | .agg ls,y,⟨vs,e,ao⟩=>⟨vs,e,ao.map h⟩
theorem cW.map{lD:aG->Value->Prop}{f:aG->aG}(h:∀l v,S l v->lD (f l) v):∀{p:aI} {y:Value},cW S p y->cW lD (p.map f) y
 | .aF a,y,ao=>show lc lD (a.map f) y from lc.map h (show lc S a y from ao)
 | .gx as,y,⟨vs,e,aW,ao⟩=>⟨vs,e,by simpa using aW,fun i a ah=>by
   rw[dI,ca]at ah;obtain⟨a0,bJ,rfl⟩:=ah;obtain⟨u,h1,U⟩:=ao i a0 bJ;exact⟨u,h1,lc.map h U⟩⟩
theorem uK(f:aG->aG)(id:Nat):∀bs:List (Nat×List aG),dK id (bs.map fun x=>(x.1,x.2.map f))=(dK id bs).map (·.map f)
 | []=>rfl
 | (i,ls)::r=>by
  simp only[mg,dK];split
  ·rfl
  exact uK f id r
structure eT where
 w:World
 G:Nat->Prop
 H:Nat->Nat×Value
def eT.FZ(B:eT)(b:Nat):Prop:=B.w.heap.size<=b\/B.G b
def Mb:Bool:=true
structure g' (n:Nat) (w aN:World):Prop where
 below:Below n w aN
 drawn:Mb=true->w.drawn<=aN.drawn
variable{n:Nat}
theorem g'.size(h:g' n w aN):w.heap.size<=aN.heap.size:=h.below.size
theorem g'.block(h:g' n w aN):∀k,k<n->aN.heap[k]?=w.heap[k]?:=h.below.block
theorem g'.refl(n:Nat)(w:World):g' n w w:=⟨Below.refl _ _,fun _=>fi _⟩
theorem g'.drew(h:g' n w aN):g' n w aN.drew:=⟨h.below.drew,fun ao=>Nat.le_succ_of_le (h.drawn ao)⟩
theorem g'.alloc(h:g' n w aN)(aW:n<=aN.heap.size)(o:Obj):g' n w (aN.alloc o):=⟨h.below.alloc aW o,h.drawn⟩
def D':List (Nat×List Int):=[]
def qa(w:World):Prop:=∀x∈D',∃ty cY,w.heap[x.1]?=some (.cells (x.2.map (Value.int .u64)).toArray ty cY)
theorem qa.lt(h:qa w){x:Nat×List Int}(ag:x∈D'):x.1<w.heap.size:=by
 obtain⟨ty,cY,e⟩:=h x ag;rcases q2 x.1 w.heap.size with h | h
 ·exact h
 simp[EQ h]at e
def Tidy(w:World)(ω:Own):Prop:=qa w/\∀x∈D',ω x.1=.bP
structure gZ (B:eT) (w:World):Prop where
 os:w.os=B.w.os
 tape:w.tape=B.w.tape
 output:w.output=B.w.output
 size:B.w.heap.size<=w.heap.size
 block:∀k,k<B.w.heap.size->¬B.G k->w.heap[k]?=B.w.heap[k]?
 drawn:Mb=true->B.w.drawn<=w.drawn
 laid:qa w
 free:∀x∈Go.Sx.D',¬B.FZ x.1
theorem qa.next(h:qa w)(k:g' w.heap.size w aN):qa aN:=fun x ag=>by
 rw[k.below.block x.1 (h.lt ag)];exact h x ag
theorem gZ.next{B:eT}(h:gZ B w)(k:g' w.heap.size w aN):gZ B aN:=
 ⟨k.below.os.trans h.os,k.below.tape.trans h.tape,k.below.output.trans h.output,nD h.size k.below.size,fun i hi ay=>(k.below.block i (Bb hi h.size)).trans (h.block i hi ay),fun ao=>nD (h.drawn ao) (k.drawn ao),h.laid.next k,h.free⟩
def eT.of(w:World):eT:=⟨w,fun _=>False,fun _=>(0,undef)⟩
theorem gZ.refl(B:eT)(h:qa B.w)(ay:∀x∈D',¬B.G x.1):gZ B B.w:=⟨rfl,rfl,rfl,fi _,fun _ _ _=>rfl,fun _=>fi _,h,fun x ag hm=>by
 rcases hm with hm | hm
 ·exact absurd (h.lt ag) (by omega)
 exact ay x ag hm⟩
theorem gZ.start{H:Nat->Nat×Value}(h:Tidy w ω):gZ ⟨w,fun b=>ω b≠.bP,H⟩ w:=gZ.refl ⟨w,fun b=>ω b≠.bP,H⟩ h.1 fun x ag hm=>hm (h.2 x ag)
theorem gZ.below(h:gZ (eT.of w) aN):g' w.heap.size w aN:=⟨⟨h.os,h.tape,h.output,h.size,fun k hk=>h.block k hk (fun h=>h)⟩,h.drawn⟩
theorem gZ.setRow{B:eT}(h:gZ B w){b:Nat}(aw:B.FZ b)(arr:Array Value):gZ B (w.setRow b arr):=
 ⟨h.os,h.tape,h.output,by simpa using h.size,fun k hk ay=>by
  have:k≠b:=by
   rintro rfl;rcases aw with aw | aw
   ·omega
   exact ay aw
  rw[setRow_other w b k arr this];exact h.block k hk ay,h.drawn,fun x ag=>by
  have:x.1≠b:=fun e=>h.free x ag (e▸aw)
  rw[setRow_other w b x.1 arr this];exact h.laid x ag,h.free⟩
def pa(w0:eT)(w:World)(ω:Own):Prop:=∀b,ω b≠.bP->w0.FZ b/\∃arr ty,w.heap[b]?=some (.cells arr ty (0,0))
def vd(w:World)(ω:Own)(τ:Nat->Nat×Value)(id:Nat)(ls:List aG):Prop:=
 ∃b arr ty,ω b=.box id/\(∀dE,ω dE=.box id->dE=b)/\w.heap[b]?=some (.cells arr ty (0,0))/\lf (Sat w ω τ) ls arr
structure cM (w0:eT) (st:aD) (a:Act) (w:World) (ω:Own) (τ:Nat->Nat×Value):Prop where
 defers:a.defers=[]
 size:a.tmps.size=st.env.length
 below:gZ w0 w
 owned:pa w0 w ω
 fixed:∀t,dk<=t->τ t=w0.H t
 pinned:∀id b,dk<=id->ω b=.box id->(w0.H id).1=b
 env:∀(i:Nat) (p:aI),st.env[i]?=some p->∃v,a.tmps[i]?=some v/\cW (Sat w ω τ) p v
 boxes:∀id ls,dK id st.boxes=some ls->vd w ω τ id ls
def Rel(w0:eT)(st:aD)(a:Act)(w:World):Prop:=∃ω τ,cM w0 st a w ω τ
structure sm (B:eT) (w:World):Prop where
 os:w.os=B.w.os
 tape:w.tape=B.w.tape
 output:w.output=B.w.output
 size:B.w.heap.size<=w.heap.size
 block:∀k,k<B.w.heap.size->¬B.G k->w.heap[k]?=B.w.heap[k]?
 drawn:Mb=true->B.w.drawn<=w.drawn
theorem sm.full{H:Nat->Nat×Value}(h:sm ⟨w,fun b=>ω b≠.bP,H⟩ aN)(bK:Tidy w ω):gZ ⟨w,fun b=>ω b≠.bP,H⟩ aN:=
 ⟨h.os,h.tape,h.output,h.size,h.block,h.drawn,fun x ag=>by
  rw[h.block x.1 (bK.1.lt ag) fun aW=>aW (bK.2 x ag)];exact bK.1 x ag,(gZ.start (H:=H) bK).free⟩
variable{w0:eT}
theorem cM.tidy{st:aD}{a:Act}{bh:Own}{τ:Nat->Nat×Value}(h:cM w0 st a w ω τ)(di:∀b,ω b=.bP->bh b=.bP):Tidy w bh:=
 ⟨h.below.laid,fun x ag=>di _ (Classical.byContradiction fun aW=>h.below.free x ag (h.owned _ aW).1)⟩
theorem pa.lt(h:pa w0 w ω){b:Nat}(aw:ω b≠.bP):b<w.heap.size:=by
 obtain⟨_,arr,ty,e⟩:=h b aw;rcases q2 b w.heap.size with h | h
 ·exact h
 simp[EQ h]at e
theorem pa.fresh(h:pa w0 w ω){b:Nat}(aw:w.heap.size<=b):ω b=.bP:=by
 cases e:ω b with
 | bP=>rfl
 | box id=>have:=h.lt (b:=b) (by simp[e]);omega
 | tok t q=>have:=h.lt (b:=b) (by simp[e]);omega
end Go.Sx
namespace Go.Sx
open Go.RowKit
def fq.cN(g:Tag->Option Tag):fq->fq
 | .J t k es=>match g t with | some dx=>.J dx k es | none=>.cp
 | c=>c
def aG.cN(g:Tag->Option Tag)(p:Nat->Bool):aG->aG
 | .J t k es=>match g t with | some dx=>.J dx k es | none=>.cp
 | .ep t k es i j=>match g t with | some dx=>.ep dx k es i j | none=>.cp
 | .ptr id off=>if p id then .ptr id off else .cp
 | .hq f ids=>if ids.all p then .hq f ids else .cp
 | .aR t i j k es m=>match g (.own t) with | some (.own dx)=>if dx=t then .aR t i j k es m else .cp | _=>.cp
 | .fP t vs=>match g (.own t) with | some (.own dx)=>if dx=t then .fP t (vs.map (fq.cN g)) else .cp | _=>.cp
 | l=>l
structure mQ (w:World) (ω:Own) (τ:Nat->Nat×Value) (aN:World) (bh:Own) (c3:Nat->Nat×Value) (g:Tag->Option Tag) (p:Nat->Bool):Prop where
 rep:∀t dx b q,g t=some dx->b<w.heap.size->t.R q (ω b)->dx.R q (bh b)/\aN.heap[b]?=w.heap[b]?
 et:∀t dx y,g t=some dx->t.et τ y->dx.et c3 y
 box:∀id b,p id=true->ω b=.box id->bh b=.box id
 free:g .free=some .free
 fix:∀t,dk<=t->c3 t=τ t
variable{w aN:World}{ω bh:Own}{τ c3:Nat->Nat×Value}{g:Tag->Option Tag}
theorem Gf(h:∀c u,so w ω τ c u->so aN bh c3 (fq.cN g c) u){arr:Array Value}{vs:List fq}
  (aW:arr.size=vs.length) (bF:∀(j:Nat) (c:fq),vs[j]?=some c->∃u,arr[j]?=some u/\so w ω τ c u):
  arr.size=(vs.map (fq.cN g)).length/\∀(j:Nat) (c:fq),(vs.map (fq.cN g))[j]?=some c->∃u,arr[j]?=some u/\so aN bh c3 c u:=by
 refine⟨by simpa using aW,fun j c ai=>?_⟩;rw[dI,ca]at ai;obtain⟨c9,bJ,rfl⟩:=ai;obtain⟨u,h1,U⟩:=bF j c9 bJ;exact⟨u,h1,h c9 u U⟩
theorem mQ.jN{p:Nat->Bool}(h:mQ w ω τ aN bh c3 g p)(c:fq)(u:Value)(ao:so w ω τ c u):so aN bh c3 (fq.cN g c) u:=by
 cases c with
 | cp=>exact trivial
 | v x=>exact ao
 | J t k es=>
  simp only[fq.cN];cases ay:g t with
  | none=>exact trivial
  | some dx=>exact⟨ao.1.frame fun b q aw aH=>h.rep t dx b q ay aw aH,h.et t dx _ ay ao.2⟩
theorem mQ.sat{g:Tag->Option Tag}{p:Nat->Bool}(h:mQ w ω τ aN bh c3 g p):
  ∀(l:aG) (v:Value),Sat w ω τ l v->Sat aN bh c3 (l.cN g p) v:=by
 intro l v ao;cases l with
 | cp=>exact trivial
 | v x=>exact ao
 | bg c=>exact ao
 | J t k es=>
  simp only[aG.cN];cases ay:g t with
  | none=>exact trivial
  | some dx=>exact⟨ao.1.frame fun b q aw aH=>h.rep t dx b q ay aw aH,h.et t dx _ ay ao.2⟩
 | ptr id off=>
  simp only[aG.cN];split
  ·obtain⟨b,aw,e⟩:=ao;exact⟨b,h.box id b ‹_› aw,e⟩
  exact trivial
 | hq f ids=>
  simp only[aG.cN];split
  ·rename_i hp;obtain⟨bs,e,aW,hi⟩:=ao;refine⟨bs,e,aW,fun i id hB=>?_⟩;obtain⟨b,h1,U⟩:=hi i id hB;exact⟨b,h1,h.box id b (gn.1 hp id (gj hB)) U⟩
  exact trivial
 | hY ds off=>
  obtain⟨b,e,aC⟩:=ao;exact⟨b,e,aC.frame fun b q aw aH=>h.rep .free .free b q h.free aw aH⟩
 | fd d=>exact b3.frame ao fun b q aw aH=>h.rep .free .free b q h.free aw aH
 | dC t k es=>exact⟨ao.1.frame fun b q aw aH=>h.rep .free .free b q h.free aw aH,fun bK=>(h.fix t bK).trans (ao.2 bK)⟩
 | aR t i j k es m=>
  simp only[aG.cN];split
  ·rename_i dx ay;split
   ·rename_i bK;subst bK;obtain⟨u,hu,h1,hm⟩:=ao;refine⟨u,hu,h1.frame fun c q ai aH=>h.rep _ _ c _ ay ai aH,fun bO=>?_⟩;obtain⟨kT,b,off,len,cap,arr,ty,cY,U,a7,aA,aJ⟩:=hm bO;have bR:b<w.heap.size:=(jj.1 aA).1;have hk:=h.rep _ _ b [] ay bR a7;exact⟨kT,b,off,len,cap,arr,ty,cY,h.et _ _ _ ay U,hk.1,hk.2.trans aA,aJ⟩
   exact trivial
  exact trivial
 | fP t vs=>
  simp only[aG.cN];split
  ·rename_i dx ay;split
   ·rename_i bK;subst bK;obtain⟨b,ty,arr,e,a7,aA,aW,bF⟩:=ao;have bR:b<w.heap.size:=(jj.1 aA).1;have hk:=h.rep _ _ b [] ay bR a7;exact⟨b,ty,arr,e,hk.1,hk.2.trans aA,Gf (h.jN) aW bF⟩
   exact trivial
  exact trivial
 | ep t k es i j=>
  simp only[aG.cN];cases ay:g t with
  | none=>exact trivial
  | some dx=>
   obtain⟨b,off,cap,e,hi,aC,bO⟩:=ao;exact⟨b,off,cap,e,hi,aC.frame fun b q aw aH=>h.rep t dx b q ay aw aH,h.et t dx _ ay bO⟩
variable{a:Act}
theorem ada{d:Nat}{v:Value}{i:Nat}:(a.put (some d) v).tmps[i]?=if d=i/\i<a.tmps.size then some v else a.tmps[i]?:=by
 simp only[Act.put,Array.getElem?_setIfInBounds];by_cases h:d=i
 ·subst h;by_cases U:d<a.tmps.size
  ·simp[U]
  simp[U]
 simp[h]
variable{w0:eT}{st:aD}
theorem cM.put(h:cM w0 st a w ω τ){d:Nat}{p:aI}{v:Value}(ao:cW (Sat w ω τ) p v):
  cM w0 ⟨st.env.set d p,st.boxes⟩ (a.put (some d) v) w ω τ where
 defers:=h.defers
 size:=by simp[Act.put,h.size]
 below:=h.below
 owned:=h.owned
 fixed:=h.fixed
 pinned:=h.pinned
 boxes:=h.boxes
 env:=by
  intro i q aH;rw[p7]at aH;rw[ada];by_cases aE:d=i
  ·subst aE;simp only[gy]at aH;split at aH
   ·rename_i bR;have e:=gO aH;subst e;exact⟨v,by rw[bq ⟨rfl,by rw[h.size];exact bR⟩],ao⟩
   cases aH
  rw[bD aE]at aH;rw[bD (by simp[aE])];exact h.env i q aH
theorem cM.JM{p:Nat->Bool}
  (h:cM w0 st a w ω τ) (e:mQ w ω τ aN bh c3 g p) (pr:gZ w0 aN) (rC:pa w0 aN bh) {bs:List (Nat×List aG)}
  (tX:∀id ls,dK id bs=some ls->vd aN bh c3 id ls) (xo:∀id b,dk<=id->bh b=.box id->ω b=.box id) (vy:∀t,dk<=t->c3 t=τ t:=by intros;rfl):cM w0 ⟨st.env.map (aI.map (aG.cN g p)),bs⟩ a aN bh c3 where
 defers:=h.defers
 size:=by simp[h.size]
 below:=pr
 owned:=rC
 fixed:=fun t bK=>(vy t bK).trans (h.fixed t bK)
 pinned:=fun id b hi aw=>h.pinned id b hi (xo id b hi aw)
 boxes:=tX
 env:=by
  intro i q aH;rw[dI,ca]at aH;obtain⟨gr,bJ,rfl⟩:=aH;obtain⟨v,h1,U⟩:=h.env i gr bJ;exact⟨v,h1,cW.map e.sat U⟩
theorem oP(w:World)(o:Obj):(w.alloc o).heap[w.heap.size]?=some o:=by
 show (w.heap.push o)[_]?=_;simp
theorem xK(w:World)(o:Obj){i:Nat}(h:i<w.heap.size):(w.alloc o).heap[i]?=w.heap[i]?:=Below.heap_alloc w o i h
def qK(id:Nat):List (Nat×List aG)->List (Nat×List aG)
 | []=>[]
 | (i,ls)::r=>if i=id then qK id r else (i,ls)::qK id r
theorem Mc(id:Nat):∀bs,dK id (qK id bs)=none
 | []=>rfl
 | (i,ls)::r=>by
  simp only[qK];split
  ·exact Mc id r
  simp only[dK];rw[bD ‹_›];exact Mc id r
theorem zP{id iV:Nat}(h:iV≠id):∀bs,dK iV (qK id bs)=dK iV bs
 | []=>rfl
 | (i,ls)::r=>by
  simp only[qK,dK];by_cases h1:i=id
  ·rw[bq h1,bD (by omega)];exact zP h r
  rw[bD h1];simp only[dK];split
  ·rfl
  exact zP h r
def sV:Tag->Option Tag:=some
def kC(id:Nat):Nat->Bool:=fun i=>decide (i≠id)
def aD.vJ(st:aD)(id:Nat)(ls:List aG):aD:=
 let f:=aG.cN sV (kC id)
 ⟨st.env.map (aI.map f),(id,ls.map f)::(qK id st.boxes).map fun x=>(x.1,x.2.map f)⟩
theorem cM.vJ(h:cM w0 st a w ω τ)(id:Nat)(hB:id<dk){ls:List aG}{arr:Array Value}(ty:TypeId)
  (ao:lf (Sat w ω τ) ls arr):
  ∃bh,cM w0 (st.vJ id ls) a (w.alloc (.cells arr ty)) bh τ/\bh w.heap.size=.box id:=by
 let bh:Own:=fun b=>if b=w.heap.size then .box id else match ω b with | .box i=>if i=id then .bP else .box i | o=>o
 have hv:bh w.heap.size=.box id:=by simp[bh]
 have hold:∀b,b<w.heap.size->bh b=(match ω b with | .box i=>if i=id then .bP else .box i | o=>o):=by
  intro b aw;simp only[bh];rw[bD (by omega)]
 have jI:∀b,b≠w.heap.size->bh b=(match ω b with | .box i=>if i=id then .bP else .box i | o=>o):=by
  intro b aw;simp only[bh];rw[bD aw]
 have bt:mQ w ω τ (w.alloc (.cells arr ty)) bh τ sV (kC id):=by
  refine⟨?_,?_,?_,rfl,fun _ _=>rfl⟩
  ·intro t dx b q ay aw aH;simp only[sV,aZ]at ay;subst ay;refine⟨?_,xK _ _ aw⟩;rw[hold b aw];cases t with
   | free=>simp only[Tag.R]at aH ⊢;rw[aH]
   | own s=>simp only[Tag.R]at aH ⊢;rw[aH]
   | ro s=>
    simp only[Tag.R]at aH ⊢;rcases aH with aH | ⟨ee,aH⟩
    ·rw[aH];exact .inl rfl
    rw[aH];exact .inr ⟨ee,rfl⟩
  ·intro t dx y ay bu;simp only[sV,aZ]at ay;subst ay;exact bu
  intro i b hp aw;have bR:=h.owned.lt (b:=b) (by simp[aw]);rw[hold b bR,aw];simp only[kC,cj]at hp;simp[hp]
 have pr:gZ w0 (w.alloc (.cells arr ty)):=h.below.next ((g'.refl _ _).alloc (fi _) _);have rC:pa w0 (w.alloc (.cells arr ty)) bh:=by
  intro b aw;by_cases aW:b=w.heap.size
  ·subst aW;exact⟨.inl h.below.size,arr,ty,oP _ _⟩
  rw[jI b aW]at aw;have U:ω b≠.bP:=by intro e;rw[e]at aw;exact aw rfl
  obtain⟨aA,cm,se,e⟩:=h.owned b U;exact⟨aA,cm,se,(xK _ _ (h.owned.lt U)).trans e⟩
 refine⟨bh,?_,hv⟩;refine h.JM bt pr rC ?_ (fun i b hi aw=>?_)
 case refine_2=>
  by_cases aW:b=w.heap.size
  ·subst aW;rw[hv]at aw;simp only[dv.box.injEq]at aw;omega
  rw[jI b aW]at aw;cases e:ω b with
  | bP=>simp[e]at aw
  | tok t q=>simp[e]at aw
  | box j=>
   simp only[e]at aw;split at aw
   ·cases aw
   exact aw
 intro i fV al;simp only[dK]at al;split at al
 ·rename_i hi;subst hi;have e:=gO al;subst e;refine⟨w.heap.size,arr,ty,hv,?_,oP _ _,ao.map bt.sat⟩;intro dE eE;by_cases aW:dE=w.heap.size
  ·exact aW
  rw[jI dE aW]at eE;cases e:ω dE with
  | bP=>simp[e]at eE
  | tok t q=>simp[e]at eE
  | box j=>
   simp only[e]at eE;split at eE
   ·cases eE
   rename_i cZ;simp only[dv.box.injEq]at eE;exact absurd eE cZ
 rename_i hi;rw[uK,ca]at al;obtain⟨kg,bJ,rfl⟩:=al;have cZ:i≠id:=fun e=>hi e.symm
 rw[zP cZ]at bJ;obtain⟨b,cm,se,aw,hu,bO,e8⟩:=h.boxes i kg bJ;have bR:=h.owned.lt (b:=b) (by simp[aw]);refine⟨b,cm,se,bt.box i b (by simp[kC,cZ]) aw,?_,(xK _ _ bR).trans bO,e8.map bt.sat⟩;intro dE eE;by_cases aW:dE=w.heap.size
 ·subst aW;rw[hv]at eE;simp only[dv.box.injEq]at eE;exact absurd eE.symm cZ
 rw[jI dE aW]at eE;refine hu dE ?_;cases e:ω dE with
 | bP=>simp[e]at eE
 | tok t q=>simp[e]at eE
 | box j=>
  simp only[e]at eE;split at eE
  ·cases eE
  exact eE
end Go.Sx
namespace Go.Sx
open Go.RowKit
inductive cR where
 | one (d:D)
 | agg (ds:List D)
inductive a1 where
 | vals (rs:List cR)
 | iY (src:List (Option Nat)) (ds:List D)
abbrev a1.new (ds : List D) : a1 := .iY [] ds
inductive h3 where
 | normal
 | exit (id:Nat)
 | ret
inductive cf where
 | own
 | sub
 | qS (xy:List (List (Option (Option (List (List D)))))) (src:Nat) (ds:List D) (rs:List cR)
 | res (rs:List cR)
 | dL (xy:List (Option (List D))) (r:a1)
 | loop (F0:List (Nat×Nat×Nat)) (e9 boxes:List Nat) (e:h3) (st:aD)
 | qb (b:Bool)
 | el (ds:List D)
 | wr
 | eq (c:Bool)
 | num (n:Int)
 | pM (p:aI)
 | iL (st:aD)
def cO:List Prop->Prop
 | []=>True
 | p::r=>p/\cO r
theorem cO.append:∀{a b:List Prop},cO (a++b)->cO a/\cO b
 | [],_,h=>⟨aa,h⟩
 | _::_,_,h=>⟨⟨h.1,(cO.append h.2).1⟩,(cO.append h.2).2⟩
abbrev kL:=Option (aI×List cf×List Prop)
def Fe:Value->aI
 | .agg cs=>.agg (cs.toList.map .v)
 | v=>.one (.v v)
def aD.bt(st:aD):Operand->aI
 | .tmp t=>st.env.getD t .cp
 | .const v=>Fe v
 | .func f=>.one (.fd (.cl f []))
 | _=>.cp
theorem azH(w:World)(ω:Own)(τ:Nat->Nat×Value)(v:Value):cW (Sat w ω τ) (Fe v) v:=by
 unfold Fe;split
 ·rename_i cs;refine⟨cs,rfl,by simp,fun i l al=>?_⟩;rw[dI,ca]at al;obtain⟨u,hu,rfl⟩:=al;exact⟨u,by simpa using hu,rfl⟩
 exact rfl
variable{w:World}{ω:Own}{τ:Nat->Nat×Value}
theorem cM.bt{w0:eT}{st:aD}{a:Act}(h:cM w0 st a w ω τ)(x:Operand):cW (Sat w ω τ) (st.bt x) (a.eval x):=by
 cases x with
 | tmp t=>
  simp only[aD.bt,Act.eval];cases e:st.env[t]? with
  | none=>
   rw[ly,e];exact trivial
  | some p=>
   obtain⟨v,bF,ao⟩:=h.env t p e;rw[ly,e];simpa[fc,bF]using ao
 | const v=>exact azH w ω τ v
 | global g=>exact trivial
 | func f=>exact b3.cl _ f [] #[] (fun _=>undef) rfl (fun j d aE=>by simp at aE) (fun j d aE=>by simp at aE)
def aG.val:aG->Option Value
 | .v x=>some x
 | .bg c=>some (.bool c)
 | _=>none
variable{y:Value}
theorem aG.aaL{l:aG}{x:Value}(h:l.val=some x)(ao:Sat w ω τ l y):y=x:=by
 cases l<;>simp[aG.val]at h
 ·subst h;exact ao
 subst h;exact ao
def aI.leaf:aI->Option aG
 | .aF (.one l)=>some l
 | _=>none
theorem aI.dU{S:aG->Value->Prop}{p:aI}{l:aG}(h:p.leaf=some l)(ao:cW S p y):S l y:=by
 cases p with
 | gx as=>cases h
 | aF a=>
  cases a with
  | agg ls=>cases h
  | one hf=>simp only[aI.leaf,aZ]at h;subst h;exact ao
def aI.int(p:aI):Option (IntKind×Int):=
 match p.leaf with
 | some (.v (.int k n))=>some (k,n)
 | _=>none
variable{p:aI}{k:IntKind}
theorem aI.pA{n:Int}(h:p.int=some (k,n))(ao:cW (Sat w ω τ) p y):y=.int k n:=by
 unfold aI.int at h;split at h
 ·rename_i ck afx e;simp only[aZ,bL]at h;obtain⟨rfl,rfl⟩:=h;exact aI.dU e ao
 cases h
def aI.vals:aI->Option (List Value)
 | .aF (.agg ls)=>ls.mapM aG.val
 | _=>none
theorem TM{w:World}{ω:Own}{τ:Nat->Nat×Value}:∀{ls:List aG} {xs:List Value},ls.mapM aG.val=some xs->∀{vs:List Value},vs.length=ls.length->(∀(i:Nat) (l:aG),ls[i]?=some l->∃u,vs[i]?=some u/\Sat w ω τ l u)->vs=xs
 | [],xs,h,vs,aW,_=>by
  simp at h;subst h;exact yV aW
 | l::ls,xs,h,vs,aW,ao=>by
  rw[Bc]at h;cases e:l.val with
  | none=>simp[e]at h
  | some x=>
   cases e2:ls.mapM aG.val with
   | none=>simp[e,e2]at h
   | some ys=>
    simp[e,e2]at h;subst h;cases vs with
    | nil=>simp at aW
    | cons v vs=>
     obtain⟨u,hu,e8⟩:=ao 0 l rfl;simp at hu;subst hu;rw[aG.aaL e e8]
     congr 1
     exact TM e2 (by simpa using aW) (fun i hf al=>by have:=ao (i+1) hf (by simpa using al);simpa using this)
theorem aI.aD9{xs:List Value}(h:p.vals=some xs)(ao:cW (Sat w ω τ) p y):y=.agg xs.toArray:=by
 cases p with
 | gx as=>cases h
 | aF a=>
  cases a with
  | one l=>cases h
  | agg ls=>
   obtain⟨vs,rfl,aW,bF⟩:=ao;have:=TM (w:=w) (ω:=ω) (τ:=τ) h (vs:=vs.toList) (by simpa using aW) (fun i l al=>by obtain⟨u,h1,U⟩:=bF i l al;exact⟨u,by simpa using h1,U⟩);rw[<-this]
def aL(k:IntKind)(e:Int):Prop:=
 match k with
 | .i64=>-9223372036854775808<=e/\e<=9223372036854775807
 | k=>k.wrap e=e
theorem aL.wrap{e:Int}(h:aL k e):k.wrap e=e:=by
 cases k<;>first | exact h | (simp only[aL]at h;rw[IntKind.wrap_i64];omega)
def arith(k:IntKind)(e:Int)(ans:List cf):kL:=
 match ans with
 | .wr::r=>some (.one (.v (.int k (k.wrap e))),r,[])
 | _=>some (.one (.v (.int k e)),ans,[aL k e])
variable{ans cv:List cf}{obs:List Prop}
theorem zQ{e:Int}(h:arith k e ans=some (p,cv,obs))(a8:cO obs):cW (Sat w ω τ) p (.int k (k.wrap e)):=by
 unfold arith at h;split at h
 ·simp only[aZ,bL]at h;obtain⟨rfl,_,_⟩:=h;exact rfl
 simp only[aZ,bL]at h;obtain⟨rfl,_,rfl⟩:=h;rw[a8.1.wrap];exact rfl
def nj(P:Program)(op:BinOp)(t:TypeId)(x y:Operand)(u v c:Value):Prop:=
 ∀w:World,((do eqGuard op t x y u v;binOp op t u v:Sem Value)).run P w=.ok c w
def Md(op:BinOp)(k:IntKind)(x y:Int)(ans:List cf):kL:=
 match op with
 | .add=>arith k (x+y) ans
 | .sub=>arith k (x-y) ans
 | .mul=>arith k (x*y) ans
 | .quo=>(arith k (x.tdiv y) ans).map fun r=>(r.1,r.2.1,(y≠0)::r.2.2)
 | .rem=>some (.one (.v (.int k (x.tmod y))),ans,[y≠0])
 | .eql=>some (.one (.bg (x==y)),ans,[])
 | .neq=>some (.one (.bg (x != y)),ans,[])
 | .lss=>some (.one (.bg (decide (x<y))),ans,[])
 | .leq=>some (.one (.bg (decide (x<=y))),ans,[])
 | .gtr=>some (.one (.bg (decide (x>y))),ans,[])
 | .geq=>some (.one (.bg (decide (x>=y))),ans,[])
 | _=>none
variable{P:Program}{op:BinOp}
theorem azI{x y:Int}(t:TypeId)(afG afH:Operand)
  (h:Md op k x y ans=some (p,cv,obs)) (a8:cO obs):
  ∃v,((do eqGuard op t afG afH (.int k x) (.int k y);binOp op t (.int k x) (.int k y):Sem Value)).run P w=.ok v w/\cW (Sat w ω τ) p v:=by
 rw[eqGuard_at_int];simp only[Sem.run_bind,Sem.run_pure,Result.andThen_ok];cases op<;>simp only[Md,aZ,bL,reduceCtorEq]at h
 case add=>exact⟨_,by rw[binOp_add];rfl,zQ h a8⟩
 case sub=>exact⟨_,by rw[binOp_sub];rfl,zQ h a8⟩
 case mul=>exact⟨_,by rw[binOp_mul];rfl,zQ h a8⟩
 case quo=>
  rw[ca]at h;obtain⟨⟨rR,cQ,rN⟩,h1,U⟩:=h;simp only[bL]at U;obtain⟨rfl,rfl,rfl⟩:=U;refine⟨_,?_,zQ h1 a8.2⟩;rw[binOp_quo];simp[Op.intDiv,a8.1]
 case rem=>
  obtain⟨rfl,_,rfl⟩:=h;refine⟨_,?_,rfl⟩;rw[binOp_rem];simp[Op.intDiv,a8.1]
 case eql=>obtain⟨rfl,_,rfl⟩:=h;exact⟨_,by rw[binOp_eql];rfl,rfl⟩
 case neq=>obtain⟨rfl,_,rfl⟩:=h;exact⟨_,by rw[binOp_neq];rfl,rfl⟩
 case lss=>obtain⟨rfl,_,rfl⟩:=h;exact⟨_,by rw[binOp_lss];rfl,rfl⟩
 case leq=>obtain⟨rfl,_,rfl⟩:=h;exact⟨_,by rw[binOp_leq];rfl,rfl⟩
 case gtr=>obtain⟨rfl,_,rfl⟩:=h;exact⟨_,by rw[binOp_gtr];rfl,rfl⟩
 case geq=>obtain⟨rfl,_,rfl⟩:=h;exact⟨_,by rw[binOp_geq];rfl,rfl⟩
def aI.value(p:aI):Option Value:=
 match p with
 | .aF (.one l)=>l.val
 | p=>p.vals.map fun xs=>.agg xs.toArray
theorem aI.A5{x:Value}(h:p.value=some x)(ao:cW (Sat w ω τ) p y):y=x:=by
 unfold aI.value at h;split at h
 ·exact aG.aaL h ao
 rw[ca]at h;obtain⟨xs,h1,rfl⟩:=h;exact aI.aD9 h1 ao
def xL(P:Program)(t:TypeId):Option Bool:=
 match P.underlying t with
 | some (.struct _) | some (.array _ _)=>some true
 | some _=>some false
 | none=>none
variable{t:TypeId}
theorem Av{b:Bool}(h:xL P t=some b)(w:World):(isAgg t).run P w=.ok b w:=by
 unfold xL at h;unfold isAgg;split at h
 ·rename_i hu;simp only[aZ]at h;subst h;simp[run_underlying hu]
 ·rename_i hu;simp only[aZ]at h;subst h;simp[run_underlying hu]
 ·rename_i d h1 U hu;simp only[aZ]at h;subst h;rw[Sem.run_bind,run_underlying hu];cases d<;>first | rfl | (exact absurd rfl (h1 _)) | (exact absurd rfl (U _ _))
 cases h
def F4(P:Program)(t:TypeId)(cs:Array Value)(off:Nat):Option Value:=
 match xL P t,P.info? t with
 | some true,some i=>some (.agg (cs.extract off (off+i.size)))
 | some false,_=>cs[off]?
 | _,_=>none
variable{v:Value}
theorem TN{cs:Array Value}{off:Nat}(h:F4 P t cs off=some v)(w:World):(part t cs off).run P w=.ok v w:=by
 unfold F4 at h;split at h
 ·rename_i i e1 e2;simp only[aZ]at h;subst h;simp[part,Av e1,sizeOf,typeInfo,e2]
 ·rename_i e1;simp[part,Av e1,h]
 cases h
def Bt(P:Program)(f:TypeId->Value->Value->Option Bool)(xs ys:Array Value):List Field->Option Bool
 | []=>some true
 | fd::r=>
  if fd.name = "_" then none else
  match F4 P fd.type xs fd.offset,F4 P fd.type ys fd.offset with
  | some a,some b=>
   match f fd.type a b with
   | some c=>
    match r with
    | []=>some c
    | r=>(Bt P f xs ys r).map fun kP=>c&&kP
   | none=>none
  | _,_=>none
def y'(P:Program):Nat->TypeId->Value->Value->Option Bool
 | 0,_,_,_=>none
 | m+1,t,x,y=>
  match P.underlying t,x,y with
  | some .bool,.bool a,.bool b=>some (a==b)
  | some (.int _),.int k a,.int ck b=>if k=ck then some (a==b) else none
  | some .string,.string a,.string b=>some (a.toList==b.toList)
  | some (.struct eV),.agg xs,.agg ys=>if P.stoodInHeld t then none else Bt P (y' P m) xs ys eV.toList
  | _,_,_=>none
theorem TO{d:Nat}{f:TypeId->Value->Value->Option Bool}(bI:∀t x y c,f t x y=some c->∀w,(Op.equalIn d t x y).run P w=.ok c w){xs ys:Array Value}:
  ∀{eV:List Field} {c:Bool},Bt P f xs ys eV=some c->∀w,(Op.eqFields d xs ys eV).run P w=.ok c w
 | [],c,h,w=>by simp only[Bt,aZ]at h;subst h;simp[Op.eqFields]
 | fd::r,c,h,w=>by
  simp only[Bt]at h;split at h
  ·cases h
  rename_i aW;split at h
  ·rename_i a b e1 e2;split at h
   ·rename_i c1 ch;simp only [Op.eqFields, bq (show fd.name ≠ "_" from aW), Sem.run_bind, TN e1, TN e2, Result.andThen_ok, bI _ _ _ _ ch, Sem.run_ite];split at h
    ·simp only[aZ]at h;subst h;cases c1<;>simp[Op.eqFields]
    ·rw[ca]at h;obtain⟨c2,h1,rfl⟩:=h;have:=TO bI h1 w;cases c1<;>simp[this]
   cases h
  cases h
theorem TC:∀{m:Nat} {t:TypeId} {x y:Value} {c:Bool},y' P m t x y=some c->∀(d:Nat) (w:World),(Op.equalIn (d+m) t x y).run P w=.ok c w
 | 0,_,_,_,_,h,_,_=>by cases h
 | m+1,t,x,y,c,h,d,w=>by
  rw[show d+(m+1)=(d+m)+1 from rfl];simp only[y']at h;split at h
  ·rename_i a b e;simp only[aZ]at h;subst h;exact run_equalIn_bool w _ t a b e
  ·rename_i ck k a bm b e;split at h
   ·rename_i hk;subst hk;simp only[aZ]at h;subst h;exact run_equalIn_int w _ t k ck a b e
   cases h
  ·rename_i a b e;simp only[aZ]at h;subst h;exact run_equalIn_string w _ t a b e
  ·rename_i eV xs ys e;split at h
   ·cases h
   rename_i ao;have Sl:P.fieldsOf t=eV:=by simp[Program.fieldsOf,e]
   rw[run_equalIn_struct w _ t xs ys (by rw[Sl];exact e) (by simpa using ao),Sl];exact TO (fun t x y c h w=>TC h d w) h w
  cases h
def JL(P:Program)(op:BinOp)(t:TypeId)(u v:Value):Option Bool:=
 match op,u,v with
 | .eql,.agg xs,.agg ys=>if P.eqGuardType P.depth t then none else y' P 20 t (.agg xs) (.agg ys)
 | .neq,.agg xs,.agg ys=>if P.eqGuardType P.depth t then none else (y' P 20 t (.agg xs) (.agg ys)).map fun c=>!c
 | .eql,.bool a,.bool b=>match P.underlying t with | some .bool=>some (a==b) | _=>none
 | .neq,.bool a,.bool b=>match P.underlying t with | some .bool=>some (!(a==b)) | _=>none
 | .eql,.string a,.string b=>match P.underlying t with | some .string=>some (a.toList==b.toList) | _=>none
 | .neq,.string a,.string b=>match P.underlying t with | some .string=>some (!(a.toList==b.toList)) | _=>none
 | _,_,_=>none
theorem azJ{x y:Operand}{u:Value}{c:Bool}(h:JL P op t u v=some c):nj P op t x y u v (.bool c):=by
 intro w;have fz:∀{x y:Value} {c:Bool},y' P 20 t x y=some c->(Op.equalIn 10000 t x y).run P w=.ok c w:=fun h=>TC h 9980 w
 unfold JL at h;split at h
 ·rename_i xs ys;split at h
  ·cases h
  rename_i ay;simp[run_eqGuard_agg w .eql t x y xs ys (by simpa using ay),run_eql_struct,fz h]
 ·rename_i xs ys;split at h
  ·cases h
  rename_i ay;rw[ca]at h;obtain⟨kP,h1,rfl⟩:=h;simp[run_eqGuard_agg w .neq t x y xs ys (by simpa using ay),run_neq_struct,fz h1]
 ·rename_i a b;split at h
  ·rename_i e;simp only[aZ]at h;subst h;simp[eqGuard,binOp,run_equal_bool w t a b e]
  cases h
 ·rename_i a b;split at h
  ·rename_i e;simp only[aZ]at h;subst h;simp[eqGuard,binOp,run_equal_bool w t a b e]
  cases h
 ·rename_i a b;split at h
  ·simp only[aZ]at h;subst h;simp[eqGuard,binOp,Op.stringOp,beq_toListBytes]
  cases h
 ·rename_i a b;split at h
  ·simp only[aZ]at h;subst h;simp[eqGuard,binOp,Op.stringOp,beq_toListBytes]
  cases h
 cases h
def Me(P:Program)(op:BinOp)(t:TypeId)(x y:Operand)(p q:aI)(ans:List cf):kL:=
 match p.int,q.int with
 | some (k,a),some (ck,b)=>
  match (if k=ck then Md op k a b ans else none) with
  | some r=>some r
  | none=>
   match ans with
   | .pM (.aF (.one (.v c)))::r=>some (.one (.v c),r,[nj P op t x y (.int k a) (.int ck b) c])
   | _=>none
 | _,_=>
  match (match p.value,q.value with | some u,some v=>JL P op t u v | _,_=>none) with
  | some c=>some (.one (.bg c),ans,[])
  | none=>
  match p.value,q.value,ans with
  | some u,some v,.eq c::r=>some (.one (.bg c),r,[nj P op t x y u v (.bool c)])
  | some u,some v,.pM (.aF (.one (.v c)))::r=>some (.one (.v c),r,[nj P op t x y u v c])
  | _,_,_=>none
theorem azK{x y:Operand}{q r:aI}{u:Value}
  (hp:cW (Sat w ω τ) p u) (aH:cW (Sat w ω τ) q v) (h:Me P op t x y p q ans=some (r,cv,obs)) (a8:cO obs):
  ∃z,((do eqGuard op t x y u v;binOp op t u v:Sem Value)).run P w=.ok z w/\cW (Sat w ω τ) r z:=by
 unfold Me at h;split at h
 ·rename_i k a ck b e1 e2;rw[aI.pA e1 hp,aI.pA e2 aH];split at h
  ·rename_i n9 ch;simp only[aZ]at h;subst h;split at ch
   ·rename_i hk;subst hk;exact azI t x y ch a8
   cases ch
  split at h
  ·rename_i c n9 _;simp only[aZ,bL]at h;obtain⟨rfl,_,rfl⟩:=h;exact⟨_,a8.1 w,rfl⟩
  cases h
 split at h
 ·rename_i c bE;simp only[aZ,bL]at h;obtain⟨rfl,_,_⟩:=h;split at bE
  ·rename_i u5 k9 e1 e2;rw[aI.A5 e1 hp,aI.A5 e2 aH];exact⟨_,azJ bE w,rfl⟩
  cases bE
 split at h
 ·rename_i u5 k9 c n9 e1 e2;simp only[aZ,bL]at h;obtain⟨rfl,_,rfl⟩:=h;rw[aI.A5 e1 hp,aI.A5 e2 aH];exact⟨_,a8.1 w,rfl⟩
 ·rename_i u5 k9 c n9 e1 e2;simp only[aZ,bL]at h;obtain⟨rfl,_,rfl⟩:=h;rw[aI.A5 e1 hp,aI.A5 e2 aH];exact⟨_,a8.1 w,rfl⟩
 cases h
end Go.Sx
namespace Go.Sx
open Go.RowKit
def Tag.Iq:Tag->Tag
 | .free=>.free
 | .own t=>.ro t
 | .ro t=>.ro t
theorem Tag.Qh{t:Tag}{q ee:List (Nat×Nat)}{o:dv}(h:t.R q o):t.Iq.R ee o:=by
 cases t with
 | free=>exact h
 | own s=>exact .inr ⟨q,h⟩
 | ro s=>exact h
variable{τ:Nat->Nat×Value}
theorem Tag.Qi{t:Tag}{y:Nat×Value}:t.Iq.et τ y:=by cases t<;>exact trivial
def D.leaf(t:Tag):D->aG
 | .v (.bool c)=>.bg c
 | .v x=>.v x
 | .J k es=>.J t.Iq k es
 | .ptr ds=>match t with | .free=>.hY ds 0 | _=>.cp
 | .cl g bk=>match t with | .free=>.fd (.cl g bk) | _=>.cp
variable{w:World}{ω:Own}
theorem D.dU{τ:Nat->Nat×Value}{t:Tag}{p:Nat×Nat}{d:D}{u:Value}(h:b3 w ω (fun q=>t.R (p::q)) d u):Sat w ω τ (d.leaf t) u:=by
 cases d with
 | v x=>
  have e:u=x:=by cases h;rfl
  subst e;unfold D.leaf;split
  ·rename_i h;cases h;exact rfl
  ·rename_i h;cases h;exact rfl
  ·grind
  ·grind
  grind
 | J k es=>exact⟨h.frame fun b q aw aH=>⟨Tag.Qh aH,rfl⟩,Tag.Qi⟩
 | ptr ds=>
  cases t with
  | free=>
   have U:b3 w ω Tag.free.R (.ptr ds) u:=h;have aA:=U;cases aA with
   | ptr R ds b arr ty cY us aw ef ao hu aE=>exact⟨b,rfl,U⟩
  | own s=>exact trivial
  | ro s=>exact trivial
 | cl g bk=>
  cases t with
  | free=>exact h
  | own s=>exact trivial
  | ro s=>exact trivial
def D.Tf(t i j:Nat):D->aG
 | .J k es=>.aR t i j k es .here
 | d=>d.leaf (.own t)
def wk(t i:Nat):Nat->List D->List aG
 | _,[]=>[]
 | j,d::ds=>d.Tf t i j::wk t i (j+1) ds
theorem TD(t i:Nat):∀(ds:List D) (j x:Nat),(wk t i j ds)[x]?=(ds[x]?).map (D.Tf t i (j+x))
 | [],_,_=>by simp[wk]
 | d::ds,j,0=>by simp[wk]
 | d::ds,j,x+1=>by
  simp only[wk,p8,TD t i ds (j+1) x];rw[show j+1+x=j+(x+1) by omega]
theorem TE(t i:Nat):∀(ds:List D) (j:Nat),(wk t i j ds).length=ds.length
 | [],_=>rfl
 | d::ds,j=>by simp[wk,TE t i ds (j+1)]
def Mf(P:Program)(s:TypeId)(f:Nat):Option Nat:=
 match P.underlying s with
 | some (.struct eV)=>
  match eV[f]? with
  | some fd=>
   match P.info? fd.type with
   | some i=>if i.size=0 then none else some fd.offset
   | none=>none
  | none=>none
 | _=>none
theorem rU(b off n:Nat):(⟨b,off,none⟩:Addr).add n=⟨b,off+n,none⟩:=by
 simp_all[Addr.add]
variable{P:Program}{off:Nat}
theorem Gg{s:TypeId}{f:Nat}(h:Mf P s f=some off)(w:World)(b o:Nat):
  (Instr.fieldAt s (.pointer (some ⟨b,o,none⟩)) f).run P w=.ok (.pointer (some ⟨b,o+off,none⟩)) w:=by
 unfold Mf at h;split at h
 ·rename_i eV hu;split at h
  ·rename_i fd bI;split at h
   ·rename_i i hi;split at h
    ·cases h
    rename_i bb;simp only[aZ]at h;subst h;simp[Instr.fieldAt,run_underlying hu,bI,Instr.sureAddr,fieldPlace,sizeOf,typeInfo,hi,bb,rU]
   cases h
  cases h
 cases h
def Mg(P:Program)(s:TypeId)(p:aI)(f:Nat)(ans:List cf):kL:=
 match Mf P s f,p.leaf with
 | some off,some (.ptr id o)=>some (.one (.ptr id (o+off)),ans,[])
 | some off,some (.ep t k es i j)=>some (.one (.ep t k es i (j+off)),ans,[])
 | some off,some (.hY ds o)=>some (.one (.hY ds (o+off)),ans,[])
 | some off,some (.aR t i j k es (.at_ x y))=>some (.one (.aR t i j k es (.at_ x (y+off))),ans,[])
 | _,_=>none
variable{p r:aI}{v:Value}{ans cv:List cf}{obs:List Prop}
theorem azL{s:TypeId}{f:Nat}
  (hp:cW (Sat w ω τ) p v) (h:Mg P s p f ans=some (r,cv,obs)):
  ∃z,(Instr.fieldAt s v f).run P w=.ok z w/\cW (Sat w ω τ) r z:=by
 unfold Mg at h;split at h
 ·rename_i off id o e1 e2;simp only[aZ,bL]at h;obtain⟨rfl,_,rfl⟩:=h;obtain⟨b,aw,rfl⟩:=aI.dU e2 hp;exact⟨_,Gg e1 w b o,b,aw,rfl⟩
 ·rename_i off t k es i j e1 e2;simp only[aZ,bL]at h;obtain⟨rfl,_,rfl⟩:=h;obtain⟨b,o,cap,rfl,hi,aC,bO⟩:=aI.dU e2 hp;exact⟨_,Gg e1 w b _,b,o,cap,by grind,hi,aC,bO⟩
 ·rename_i off ds o e1 e2;simp only[aZ,bL]at h;obtain⟨rfl,_,rfl⟩:=h;obtain⟨b,rfl,aC⟩:=aI.dU e2 hp;exact⟨_,Gg e1 w b o,b,rfl,aC⟩
 ·rename_i off t i j k es x y e1 e2;simp only[aZ,bL]at h;obtain⟨rfl,_,rfl⟩:=h;obtain⟨u,⟨b,o,cap,rfl,rfl,ag⟩,aC,hm⟩:=aI.dU e2 hp;exact⟨_,Gg e1 w b _,_,⟨b,o,cap,rfl,by grind,ag⟩,aC,fun _=>hm rfl⟩
 cases h
def rV(P:Program)(t:TypeId):Option (TypeId×Nat):=
 match P.underlying t with
 | some (.slice e)=>(P.info? e).map fun i=>(e,i.size)
 | _=>none
variable{t:TypeId}
theorem xA{e:TypeId}{k:Nat}(h:rV P t=some (e,k)):P.underlying t=some (.slice e)/\∃i,P.info? e=some i/\i.size=k:=by
 unfold rV at h;split at h
 ·rename_i e' hu;rw[ca]at h;grind
 cases h
def aG.flat:aG->aG
 | .dC _ k es=>.J .free k es
 | l=>l
def aI.lN(p:aI):Option aG:=p.leaf.map aG.flat
variable{y:Value}{l:aG}
theorem aI.xw(h:p.lN=some l)(ao:cW (Sat w ω τ) p y):Sat w ω τ l y:=by
 unfold aI.lN at h;rw[ca]at h;obtain⟨dn,bJ,rfl⟩:=h;have:=aI.dU bJ ao;unfold aG.flat;split
 ·exact⟨this.1,aa⟩
 exact this
def Mh(P:Program)(t:TypeId)(p q:aI)(ans:List cf):kL:=
 match rV P t,p.lN,q.int with
 | some (_,k),some (.J tag ck es),some (_,n)=>if k=ck then some (.one (.ep tag ck es n.toNat 0),ans,[0<=n,n<(es.length:Int)]) else none
 | some (_,k),some (.aR s i j ck es .here),some (_,n)=>if k=ck then some (.one (.aR s i j ck es (.at_ n.toNat 0)),ans,[0<=n,n<(es.length:Int)]) else none
 | _,_,_=>none
theorem azx{q:aI}{u:Value}
  (hp:cW (Sat w ω τ) p u) (aH:cW (Sat w ω τ) q v) (h:Mh P t p q ans=some (r,cv,obs)) (a8:cO obs):
  ∃z,(Instr.indexAt t u v).run P w=.ok z w/\cW (Sat w ω τ) r z:=by
 unfold Mh at h;split at h
 ·rename_i e k tag ck es Cp n e1 e2 ch;split at h
  ·rename_i hk;subst hk;simp only[aZ,bL]at h;obtain⟨rfl,_,rfl⟩:=h;obtain⟨hu,i,hi,bb⟩:=xA e1;obtain⟨aC,bO⟩:=aI.xw e2 hp;rw[aI.pA ch aH];have bJ:0<=n:=a8.1;have h1:n<(es.length:Int):=a8.2.1;cases aC with
   | nil=>grind
   | row R k es b off cap arr ty cY us aw ef ai ao hk ky aE=>
    refine⟨.pointer (some ⟨b,off+n.toNat*k+0,none⟩),?_,b,off,cap,rfl,by omega,.row _ k es b off cap arr ty cY us aw ef ai ao hk ky aE,bO⟩;simp[Instr.indexAt,run_underlying hu,asIntOf,bJ,h1,sizeOf,typeInfo,hi,bb,rU]
  cases h
 ·rename_i e k s D8 D9 ck es Cp n e1 e2 ch;split at h
  ·rename_i hk;subst hk;simp only[aZ,bL]at h;obtain⟨rfl,_,rfl⟩:=h;obtain⟨hu,i,hi,bb⟩:=xA e1;obtain⟨fo,rfl,aC,hm⟩:=aI.xw e2 hp;rw[aI.pA ch aH];have bJ:0<=n:=a8.1;have h1:n<(es.length:Int):=a8.2.1;cases aC with
   | nil=>grind
   | row R k es b off cap arr ty cY us aw ef ai ao hk ky aE=>
    refine⟨.pointer (some ⟨b,off+n.toNat*k+0,none⟩),?_,_,⟨b,off,cap,rfl,rfl,by omega⟩,.row _ k es b off cap arr ty cY us aw ef ai ao hk ky aE,hm⟩;simp[Instr.indexAt,run_underlying hu,asIntOf,bJ,h1,sizeOf,typeInfo,hi,bb,rU]
  cases h
 cases h
theorem azy{P:Program}{b n:Nat}{arr:Array Value}{ty:TypeId}{cY:Nat×Nat}(aw:w.heap[b]?=some (.cells arr ty cY))(aW:off+n<=arr.size):
  (loadCells ⟨b,off,none⟩ n).run P w=.ok (arr.extract off (off+n)) w:=by
 have al:((arr.extract off (off+n)).toList).length=n:=by simp;omega
 have:=run_loadCells_list (P:=P) w ⟨b,off,none⟩ (arr.extract off (off+n)).toList (fun j v bF=>by
  rw[rU,cell_of_row w b (off+j) arr ty cY aw];grind)
 rw[al,Array.toArray_toList]at this;exact this
def te(agg:Bool)(n:Nat)(ls:List aG)(off:Nat):Option aI:=
 if agg then (if off+n<=ls.length then some (.agg ((ls.drop off).take n)) else none)
 else (ls[off]?).map fun l=>.one l
theorem Aw{P:Program}{ω:Own}{τ:Nat->Nat×Value}{agg:Bool}{i:TypeInfo}{ls:List aG}(ah:xL P t=some agg)(hi:P.info? t=some i)
  (h:te agg i.size ls off=some p) {b base:Nat} {arr:Array Value} {ty:TypeId} {cY:Nat×Nat} (aw:w.heap[b]?=some (.cells arr ty cY)) (dO:base+ls.length<=arr.size)
  (ao:∀(j:Nat) (l:aG),ls[j]?=some l->∃u,arr[base+j]?=some u/\Sat w ω τ l u):
  ∃z,(loadVar t ⟨b,base+off,none⟩).run P w=.ok z w/\cW (Sat w ω τ) p z:=by
 unfold te at h;cases agg with
 | true=>
  simp only[gy]at h;split at h
  ·rename_i hle;simp only[aZ]at h;subst h;refine⟨.agg (arr.extract (base+off) (base+off+i.size)),?_,?_⟩
   ·simp[loadVar,Av ah,sizeOf,typeInfo,hi,azy (P:=P) aw (show base+off+i.size<=arr.size by omega)]
   refine⟨_,rfl,by simp;omega,fun j l al=>?_⟩;grind
  cases h
 | false=>
  simp only[oc,mh,ca]at h;obtain⟨l,al,rfl⟩:=h;obtain⟨u,h1,U⟩:=ao _ l al;refine⟨u,?_,U⟩;simp[loadVar,Av ah,cell_of_row w b (base+off) arr ty cY aw,h1]
def Gh(P:Program)(st:aD)(t:TypeId)(p:aI)(ans:List cf):kL:=
 match xL P t,P.info? t,p.leaf with
 | some agg,some i,some (.ptr id off)=>
  match dK id st.boxes with
  | some ls=>(te agg i.size ls off).map fun r=>(r,ans,[])
  | none=>none
 | some agg,some i,some (.ep tag k es x j)=>
  match ans with
  | .el ds::r=>if ds.length=k then (te agg i.size (ds.map (D.leaf tag)) j).map fun v=>(v,r,[es[x]?=some ds]) else none
  | .sub::.el ds::r=>
   match tag with
   | .own t=>if ds.length=k then (te agg i.size (wk t x 0 ds) j).map fun v=>(v,r,[es[x]?=some ds]) else none
   | _=>none
  | _=>none
 | some agg,some i,some (.hY ds off)=>(te agg i.size (ds.map (D.leaf .free)) off).map fun r=>(r,ans,[])
 | some agg,some i,some (.aR s _ _ k es (.at_ x y))=>
  match ans with
  | .el ds::r=>if ds.length=k then (te agg i.size (ds.map (D.leaf (.ro s))) y).map fun v=>(v,r,[es[x]?=some ds]) else none
  | _=>none
 | _,_,_=>none
variable{w0:eT}{a:Act}{st:aD}
theorem azz
  (a6:cM w0 st a w ω τ) (hp:cW (Sat w ω τ) p v) (h:Gh P st t p ans=some (r,cv,obs)) (a8:cO obs):
  ∃z,(Instr.loadAt t v).run P w=.ok z w/\cW (Sat w ω τ) r z:=by
 unfold Gh at h;split at h
 ·rename_i agg i id off e1 e2 ch;split at h
  ·rename_i ls dm;rw[ca]at h;obtain⟨n9,h1,h⟩:=h;simp only[bL]at h;obtain⟨rfl,rfl,rfl⟩:=h;obtain⟨b,aw,rfl⟩:=aI.dU ch hp;obtain⟨dE,arr,ty,eE,FQ,Ku,dO,e8⟩:=a6.boxes id ls dm;have:=FQ b aw;subst this;have:=Aw (P:=P) e1 e2 h1 Ku (base:=0) (by omega) (fun j l al=>by simpa using e8 j l al);grind[Instr.loadAt,Instr.sureAddr]
  cases h
 ·rename_i agg i tag k es x j e1 e2 ch;split at h
  ·rename_i ds ij;split at h
   ·rename_i hlen;rw[ca]at h;obtain⟨n9,h1,h⟩:=h;simp only[bL]at h;obtain⟨rfl,rfl,rfl⟩:=h;have fj:es[x]?=some ds:=a8.1;obtain⟨b,off,cap,rfl,hi,aC,bO⟩:=aI.dU ch hp;cases aC with
    | nil=>simp at hi
    | row R k es b off cap arr ty cY us aw ef ai ao hk hu aE=>
     have Sy:x*k+k<=cap*k:=by
      have:(x+1)*k<=cap*k:=hI k (by omega);grind
     have:=Aw (P:=P) (τ:=τ) (ω:=ω) e1 e2 h1 aw (base:=off+x*k) (by grind) (fun kd l al=>by
      rw[dI,ca]at al;obtain⟨d,U,rfl⟩:=al;have ai:df es x kd=some d:=by grind[df]
      exact⟨us x kd,hu x kd d ai,D.dU (aE x kd d ai)⟩)
     grind[Instr.loadAt,Instr.sureAddr]
   cases h
  ·rename_i ds ij;split at h
   ·rename_i t;split at h
    ·rename_i hlen;rw[ca]at h;obtain⟨n9,h1,h⟩:=h;simp only[bL]at h;obtain⟨rfl,rfl,rfl⟩:=h;have fj:es[x]?=some ds:=a8.1;obtain⟨b,off,cap,rfl,hi,aC,bO⟩:=aI.dU ch hp;cases aC with
     | nil=>simp at hi
     | row R k es b off cap arr ty cY us aw ef ai ao hk hu aE=>
      have Sy:x*k+k<=cap*k:=by
       have:(x+1)*k<=cap*k:=hI k (by omega);grind
      have:=Aw (P:=P) (τ:=τ) (ω:=ω) e1 e2 h1 aw (base:=off+x*k) (by grind[TE]) (fun kd l al=>by
       rw[TD,ca]at al;obtain⟨d,U,rfl⟩:=al;rw[dX];have ai:df es x kd=some d:=by grind[df]
       have vv:=aE x kd d ai;refine⟨us x kd,hu x kd d ai,?_⟩;cases d with
       | J bm bZ=>exact⟨_,rfl,vv,fun _=>⟨k,b,off,es.length,cap,arr,ty,cY,bO,ef,aw,hu x kd _ ai⟩⟩
       | v z=>exact D.dU (t:=.own t) (p:=(x,kd)) vv
       | ptr ds=>exact D.dU (t:=.own t) (p:=(x,kd)) vv
       | cl g cs=>exact D.dU (t:=.own t) (p:=(x,kd)) vv)
      grind[Instr.loadAt,Instr.sureAddr]
    cases h
   cases h
  cases h
 ·rename_i agg i ds off e1 e2 ch;rw[ca]at h;obtain⟨n9,h1,h⟩:=h;simp only[bL]at h;obtain⟨rfl,rfl,rfl⟩:=h;obtain⟨b,rfl,aC⟩:=aI.dU ch hp;have eW:b3 w ω Tag.free.R (.ptr ds) (.pointer (some ⟨b,0,none⟩)):=aC;cases eW with
  | ptr R ds b arr ty cY us aw ef ao hu aE=>
   have:=Aw (P:=P) (τ:=τ) (ω:=ω) e1 e2 h1 aw (base:=0) (by simp;omega) (fun kd l al=>by
    rw[dI,ca]at al;obtain⟨d,U,rfl⟩:=al;exact⟨us kd,by grind,D.dU (p:=(0,kd)) (aE kd d U)⟩)
   grind[Instr.loadAt,Instr.sureAddr]
 ·rename_i agg i s D8 D9 k es x y e1 e2 ch;split at h
  ·rename_i ds ij;split at h
   ·rename_i hlen;rw[ca]at h;obtain⟨n9,h1,h⟩:=h;simp only[bL]at h;obtain⟨rfl,rfl,rfl⟩:=h;have fj:es[x]?=some ds:=a8.1;obtain⟨fo,⟨b,off,cap,rfl,rfl,hi⟩,aC,hm⟩:=aI.dU ch hp;cases aC with
    | nil=>simp at hi
    | row R k es b off cap arr ty cY us aw ef ai ao hk hu aE=>
     have Sy:x*k+k<=cap*k:=by
      have:(x+1)*k<=cap*k:=hI k (by omega);grind
     have:=Aw (P:=P) (τ:=τ) (ω:=ω) e1 e2 h1 aw (base:=off+x*k) (by grind) (fun kd l al=>by
      rw[dI,ca]at al;obtain⟨d,U,rfl⟩:=al;have ai:df es x kd=some d:=by grind[df]
      refine⟨us x kd,hu x kd d ai,D.dU (t:=.ro s) (p:=(x,kd)) ((aE x kd d ai).frame fun b q _ aH=>⟨.inr ⟨_,aH⟩,rfl⟩)⟩)
     grind[Instr.loadAt,Instr.sureAddr]
   cases h
  cases h
 cases h
def Mi(P:Program)(t:TypeId)(p:aI)(ans:List cf):kL:=
 match P.underlying t,p.lN with
 | some (.slice _),some (.J _ _ es)=>some (.one (.v (.int .i64 es.length)),ans,[])
 | some (.slice _),some (.v (.slice _ n _))=>some (.one (.v (.int .i64 n)),ans,[])
 | some (.slice _),some (.aR _ _ _ _ es .here)=>some (.one (.v (.int .i64 es.length)),ans,[])
 | some (.slice _),some (.aR _ _ _ _ es .mS)=>some (.one (.v (.int .i64 es.length)),ans,[])
 | some .string,some (.v (.string s))=>some (.one (.v (.int .i64 s.size)),ans,[])
 | _,_=>none
theorem b3.len{R:List (Nat×Nat)->dv->Prop}{k:Nat}{es:List (List D)}(h:b3 w ω R (.J k es) y):∃b c,y=.slice b es.length c:=by
 cases h with
 | nil=>simp_all
 | row R k es b off cap arr ty cY us aw ef ai ao hk hu aE=>grind
theorem azA{ty:TypeId}
  (hp:cW (Sat w ω τ) p v) (h:Mi P t p ans=some (r,cv,obs)):
  ∃z,(Builtin.len_ #[t] ty #[v]).run P w=.ok z w/\cW (Sat w ω τ) r z:=by
 unfold Mi at h;split at h
 ·rename_i e Iv k es e1 e2;simp only[aZ,bL]at h;obtain⟨rfl,_,rfl⟩:=h;obtain⟨aC,_⟩:=aI.xw e2 hp;obtain⟨b,c,rfl⟩:=aC.len;exact⟨_,by simp[Builtin.len_,run_underlying e1];rfl,rfl⟩
 ·rename_i e b n c e1 e2;simp only[aZ,bL]at h;obtain⟨rfl,_,rfl⟩:=h;have:v=.slice b n c:=aI.xw e2 hp;subst this;exact⟨_,by simp[Builtin.len_,run_underlying e1];rfl,rfl⟩
 ·rename_i e s D8 D9 k es e1 e2;simp only[aZ,bL]at h;obtain⟨rfl,_,rfl⟩:=h;obtain⟨fo,rfl,aC,_⟩:=aI.xw e2 hp;obtain⟨b,c,rfl⟩:=aC.len;exact⟨_,by simp[Builtin.len_,run_underlying e1];rfl,rfl⟩
 ·rename_i e s D8 D9 k es e1 e2;simp only[aZ,bL]at h;obtain⟨rfl,_,rfl⟩:=h;obtain⟨fo,rfl,aC,_⟩:=aI.xw e2 hp;obtain⟨b,c,rfl⟩:=aC.len;exact⟨_,by simp[Builtin.len_,run_underlying e1];rfl,rfl⟩
 ·rename_i s e1 e2;simp only[aZ,bL]at h;obtain⟨rfl,_,rfl⟩:=h;have:v=.string s:=aI.xw e2 hp;subst this;exact⟨_,by simp[Builtin.len_,run_underlying e1];rfl,rfl⟩
 cases h
theorem TF{es:List (List D)}{l n i j:Nat}{d:D}(h:df ((es.drop l).take n) i j=some d):i<n/\df es (l+i) j=some d:=by
 grind[df]
theorem b3.sub{R jE:List (Nat×Nat)->dv->Prop}{k:Nat}{es:List (List D)}{b cap:Nat}(h:b3 w ω R (.J k es) (.slice (some ⟨b,off,none⟩) es.length cap))
  {l m:Nat} (al:l<=m) (hm:m<=es.length) (Fq:∀o,R [] o->jE [] o) (aFk:∀i j q o,l<=i->R ((i,j)::q) o->jE ((i-l,j)::q) o):
  b3 w ω jE (.J k ((es.drop l).take (m-l))) (sliced (some ⟨b,off,none⟩) l m cap k):=by
 cases h with
 | nil=>
  grind[sliced,b3.nil]
 | row R k es b off cap arr ty cY us aw ef ai ao hk hu aE=>
  have hlen:((es.drop l).take (m-l)).length=m-l:=by simp;omega
  have hmul:l*k+(cap-l)*k=cap*k:=by rw[<-hK];grind
  have key:∀rN:Nat,(cap=l\/rN=off+l*k)->rN+(cap-l)*k<=arr.size->
    b3 w ω jE (.J k ((es.drop l).take (m-l))) (.slice (some ⟨b,rN,none⟩) (m-l) (cap-l)):=by
   intro rN a8 dO;have bb:cap=l->m-l=0:=fun e=>by omega
   have aC:=b3.row (w:=w) (ω:=ω) jE k ((es.drop l).take (m-l)) b rN (cap-l) arr ty cY (fun i j=>us (l+i) j) aw (Fq _ ef) (by omega) dO
    (fun e he=>hk e (wY (sl he)))
    (fun i j d rm=>by
     obtain⟨hi,Sc⟩:=TF rm;grind)
    (fun i j d rm=>by
     obtain⟨hi,Sc⟩:=TF rm;refine (aE (l+i) j d Sc).frame fun b q _ aH=>⟨?_,rfl⟩
     grind)
   grind
  unfold sliced;split
  ·grind
  simp only[sk,rU];grind
def aG.view:aG->aG
 | .aR t _ _ k es .here=>.J (.ro t) k es
 | .aR t _ _ k es .mS=>.J (.ro t) k es
 | .dC _ k es=>.J .free k es
 | l=>l
theorem aG.Ql(ao:Sat w ω τ l y):Sat w ω τ l.view y:=by
 unfold aG.view;split
 ·obtain⟨fo,rfl,aC,_⟩:=ao;exact⟨aC.frame fun b q _ aH=>⟨.inr ⟨_,aH⟩,rfl⟩,aa⟩
 ·obtain⟨fo,rfl,aC,_⟩:=ao;exact⟨aC.frame fun b q _ aH=>⟨.inr ⟨_,aH⟩,rfl⟩,aa⟩
 ·exact⟨ao.1,aa⟩
 exact ao
theorem aI.Ql(h:p.leaf.map aG.view=some l)(ao:cW (Sat w ω τ) p y):Sat w ω τ l y:=by
 rw[ca]at h;obtain⟨dn,bJ,rfl⟩:=h;grind[aG.Ql,aI.dU]
def nf(st:aD):Option Operand->Option (Option Int)
 | none=>some none
 | some x=>((st.bt x).int).map fun p=>some p.2
def Gi(P:Program)(st:aD)(t:TypeId)(p:aI)(c7 hi jL:Option Operand)(ans:List cf):kL:=
 match rV P t,p.leaf.map aG.view,jL with
 | some (_,k),some (.J tag ck es),none=>
  if k=ck then
   match nf st c7,nf st hi with
   | some l,some h=>some (.one (.J tag.Iq k ((es.drop (l.getD 0).toNat).take ((h.getD es.length).toNat-(l.getD 0).toNat))),ans,[0<=l.getD 0,l.getD 0<=h.getD es.length,h.getD es.length<=es.length])
   | _,_=>none
  else none
 | _,_,_=>none
theorem C7{len cap:Nat}{c7 hi:Option Value}{l h:Int}(al:c7=none/\l=0\/∃k,c7=some (.int k l))(bO:hi=none/\h=len\/∃k,hi=some (.int k h))
  (bJ:0<=l) (h1:l<=h) (U:h<=cap):(Instr.sliceBounds true len cap c7 hi none).run P w=.ok (l.toNat,h.toNat,cap) w:=by
 have aEZ:(h.toNat:Int)=h:=Int.toNat_of_nonneg (by omega);have aA:0<=h:=by omega
 rcases al with⟨rfl,rfl⟩ | ⟨k,rfl⟩<;>rcases bO with⟨rfl,rfl⟩ | ⟨ck,rfl⟩<;>
  simp_all[Instr.sliceBounds,run_sliceBound]
theorem C8(a6:cM w0 st a w ω τ){x:Option Operand}{r:Option Int}(h:nf st x=some r):
  (x.map a.eval=none/\r=none)\/∃k n,x.map a.eval=some (.int k n)/\r=some n:=by
 cases x with
 | none=>simp_all[nf]
 | some x=>
  simp only[nf,ca]at h;obtain⟨⟨k,n⟩,h1,U⟩:=h;exact .inr ⟨k,n,by simp[aI.pA h1 (a6.bt x)],U.symm⟩
theorem azB{c7 hi jL:Option Operand}
  (a6:cM w0 st a w ω τ) (hp:cW (Sat w ω τ) p v) (h:Gi P st t p c7 hi jL ans=some (r,cv,obs)) (a8:cO obs):
  ∃z,(Instr.sliceAt t v (c7.map a.eval) (hi.map a.eval) (jL.map a.eval)).run P w=.ok z w/\cW (Sat w ω τ) r z:=by
 unfold Gi at h;split at h
 ·rename_i e k tag ck es e1 e2;split at h
  ·rename_i hk;subst hk;split at h
   ·rename_i l bO ch dS;simp only[aZ,bL]at h;obtain⟨rfl,_,rfl⟩:=h;obtain⟨hu,i,oB,bb⟩:=xA e1;obtain⟨aC,_⟩:=aI.Ql e2 hp;obtain⟨cy,ci,cI,_⟩:=a8;have aA:=C8 a6 ch;have aJ:=C8 a6 dS;have mZ:(c7.map a.eval=none/\l.getD 0=0)\/∃k,c7.map a.eval=some (.int k (l.getD 0)):=by
     grind
    have sH:(hi.map a.eval=none/\bO.getD es.length=es.length)\/∃k,hi.map a.eval=some (.int k (bO.getD es.length)):=by
     grind
    cases aC with
    | nil _ _ a0=>
     simp only[ew] at*;have bE:l.getD 0=0:=by omega
     have ac1:bO.getD ((0:Nat):Int)=0:=by omega
     refine⟨.slice a0 0 0,?_,?_⟩
     ·simp only[Instr.sliceAt,Sem.run_bind,run_underlying hu,Result.andThen_ok,Instr.slice,Option.map_none];rw[C7 mZ sH cy ci cI];simp_all[sizeOf,typeInfo]
     refine⟨?_,Tag.Qi⟩;simp only[List.drop_nil,List.take_nil];exact .nil _ _ _
    | row R k es b off cap arr ty cY us aw ef ai ao hk ky aE=>
     refine⟨sliced (some ⟨b,off,none⟩) (l.getD 0).toNat (bO.getD es.length).toNat cap k,?_,?_,Tag.Qi⟩
     ·simp only[Instr.sliceAt,Sem.run_bind,run_underlying hu,Result.andThen_ok,Instr.slice,Option.map_none];rw[C7 mZ sH cy ci (by omega)];simp_all[sizeOf,typeInfo,sliced]
     exact b3.sub (.row _ k es b off cap arr ty cY us aw ef ai ao hk ky aE) (by omega) (by omega) (fun o h=>Tag.Qh h) (fun i j q o _ h=>Tag.Qh h)
   cases h
  cases h
 cases h
end Go.Sx
namespace Go.Sx
open Go.RowKit
def aG.ok:aG->Bool
 | .cp=>false
 | .v x=>x.oneCell'
 | _=>true
variable{w:World}{ω:Own}{y:Value}
theorem b3.qH{R:List (Nat×Nat)->dv->Prop}{d:D}(h:b3 w ω R d y):y.oneCell'=true:=by
 cases h with
 | v R x h1=>exact h1
 | nil=>rfl
 | row=>rfl
 | ptr=>rfl
 | cl=>rfl
variable{τ:Nat->Nat×Value}
theorem aG.Tn{l:aG}(h:l.ok=true)(ao:Sat w ω τ l y):y.oneCell'=true:=by
 cases l with
 | cp=>cases h
 | v x=>have:y=x:=ao;subst this;exact h
 | bg c=>have:y=.bool c:=ao;subst this;rfl
 | J t k es=>exact ao.1.qH
 | ptr id off=>obtain⟨b,_,rfl⟩:=ao;rfl
 | ep t k es i j=>obtain⟨b,off,cap,rfl,_⟩:=ao;rfl
 | hY ds off=>obtain⟨b,rfl,_⟩:=ao;rfl
 | fd d=>exact b3.qH ao
 | dC t k es=>exact ao.1.qH
 | hq g ids=>obtain⟨bs,rfl,_⟩:=ao;rfl
 | aR t i j k es m=>
  obtain⟨u,hu,aC,_⟩:=ao;cases m with
  | at_ x y=>obtain⟨b,off,cap,_,rfl,_⟩:=hu;rfl
  | here=>have:y=u:=hu;subst this;exact aC.qH
  | mS=>have:y=u:=hu;subst this;exact aC.qH
 | fP t vs=>obtain⟨b,ty,arr,rfl,_⟩:=ao;rfl
theorem C9(h:y.oneCell'=true):y.cells=#[y]:=by
 cases y<;>first | rfl | grind[Value.oneCell']
def aI.leaves:aI->Option (List aG)
 | .aF (.one l)=>if l.ok then some [l] else none
 | .aF (.agg ls)=>if ls.all aG.ok then some ls else none
 | _=>none
variable{p:aI}{ls:List aG}
theorem aI.zG(h:p.leaves=some ls)(ao:cW (Sat w ω τ) p y):
  lf (Sat w ω τ) ls y.cells/\∀u∈y.cells.toList,u.oneCell'=true:=by
 unfold aI.leaves at h;split at h
 ·rename_i l;split at h
  ·rename_i bY;simp only[aZ]at h;subst h;have h1:=aG.Tn bY ao;rw[C9 h1];refine⟨⟨rfl,fun i hf al=>?_⟩,by grind⟩;cases i with
   | zero=>simp at al;subst al;exact⟨y,rfl,ao⟩
   | succ i=>simp at al
  cases h
 ·rename_i fV;split at h
  ·rename_i bY;simp only[aZ]at h;subst h;obtain⟨vs,rfl,aW,bF⟩:=ao;refine⟨⟨aW,bF⟩,fun u hu=>?_⟩;obtain⟨i,hi⟩:=ob.1 hu;have bR:i<fV.length:=by
    grind[Value.cells]
   obtain⟨u5,h1,U⟩:=bF i fV[i] (by simp);have e:u=u5:=by
    have:(Value.agg vs).cells.toList[i]?=vs[i]?:=by simp[Value.cells]
    grind
   grind[aG.Tn,p9]
  cases h
 cases h
theorem TG(off:Nat):∀(vs:List Value) (k:Nat) (cells:Array Value) (i:Nat),off+k+vs.length<=cells.size->
  ((vs.zipIdx k).foldl (fun cs (x:Value×Nat)=>cs.setIfInBounds (off+x.2) x.1) cells)[i]?=if off+k<=i/\i<off+k+vs.length then vs[i-(off+k)]? else cells[i]?
 | [],k,cells,i,_=>by simp;grind
 | v::vs,k,cells,i,h=>by
  simp only[List.zipIdx_cons,List.foldl_cons,gT]at h ⊢;rw[TG off vs (k+1) _ i (by simp;omega),Array.getElem?_setIfInBounds];grind
theorem TH(off:Nat):∀(l:List (Value×Nat)) (cells:Array Value),(l.foldl (fun cs (x:Value×Nat)=>cs.setIfInBounds (off+x.2) x.1) cells).size=cells.size
 | [],_=>rfl
 | x::l,cells=>by simp_all[List.foldl_cons,TH]
def vh(ls:List aG)(off:Nat)(xs:List aG):List aG:=ls.take off++(xs++ls.drop (off+xs.length))
variable{off:Nat}
theorem TI{xs:List aG}{i:Nat}(h:off+xs.length<=ls.length):(vh ls off xs)[i]?=if off<=i/\i<off+xs.length then xs[i-off]? else ls[i]?:=by
 unfold vh;grind
theorem L0{xs:List aG}(h:off+xs.length<=ls.length):(vh ls off xs).length=ls.length:=by
 grind[vh]
def sB(place:Nat->Option (Nat×Nat))(ls:List aG):List (Nat×aI)->Option (List aG)
 | []=>some ls
 | (i,p)::rest=>
  match place i,p.leaves with
  | some (off,size),some xs=>if xs.length=size/\off+size<=ls.length then sB place (vh ls off xs) rest else none
  | _,_=>none
theorem L1{place:Nat->Option (Nat×Nat)}:∀{parts:List (Nat×aI)} {vals:List (Nat×Value)} {ls r:List aG} {cells:Array Value},
  parts.length=vals.length->(∀(j:Nat) i p,parts[j]?=some (i,p)->∃v,vals[j]?=some (i,v)/\cW (Sat w ω τ) p v)->sB place ls parts=some r->lf (Sat w ω τ) ls cells->
  ∃out,Instr.fill place cells vals=some out/\lf (Sat w ω τ) r out
 | [],vals,ls,r,cells,aW,_,h,ao=>by
  have:vals=[]:=yV (by grind);subst this;simp only[sB,aZ]at h;subst h;exact⟨cells,rfl,ao⟩
 | (i,p)::parts,vals,ls,r,cells,aW,hp,h,ao=>by
  obtain⟨v,bF,e8⟩:=hp 0 i p rfl;cases vals with
  | nil=>simp at bF
  | cons x vals=>
   simp only[lY,aZ]at bF;subst bF;simp only[sB]at h;split at h
   ·rename_i off size xs e1 e2;split at h
    ·rename_i ai;obtain⟨mY,mr⟩:=ai;obtain⟨⟨dO,vG⟩,_⟩:=aI.zG e2 e8;have zA:v.cells.size=size:=by omega
     have oz:off+v.cells.size<=cells.size:=by have:=ao.1;omega
     have hv:lf (Sat w ω τ) (vh ls off xs) (v.cells.zipIdx.foldl (fun cs (c,j)=>cs.setIfInBounds (off+j) c) cells):=by
      have e:v.cells.zipIdx.foldl (fun cs (c,j)=>cs.setIfInBounds (off+j) c) cells=(v.cells.toList.zipIdx 0).foldl (fun cs (x:Value×Nat)=>cs.setIfInBounds (off+x.2) x.1) cells:=by
       rw[<-Array.foldl_toList];simp
      rw[e];refine⟨by rw[TH,L0 (by omega)];exact ao.1,fun j l al=>?_⟩;rw[TI (by omega)]at al;rw[TG off _ 0 _ _ (by simp;omega)];simp only[Ry,o6];by_cases bf:off<=j/\j<off+xs.length
      ·grind
      rw[bD bf]at al;rw[bD (by omega)];exact ao.2 _ _ al
     obtain⟨out,h1,U⟩:=L1 (parts:=parts) (vals:=vals) (by grind) (fun j gk rR bf=>by have:=hp (j+1) gk rR (by grind);grind) h hv;simp_all[Instr.fill,bD]
    cases h
   cases h
def L2(P:Program)(t:TypeId)(f:Nat):Option (Nat×Nat):=
 match P.underlying t with
 | some (.struct eV)=>
  match eV[f]? with
  | some fd=>(P.info? fd.type).map fun i=>(fd.offset,i.size)
  | none=>none
 | _=>none
def Gj(P:Program)(st:aD)(t:TypeId)(parts:List (Nat×Operand))(ans:List cf):kL:=
 match P.underlying t,P.info? t with
 | some (.struct eV),some i=>
  match i.zero with
  | some z=>
   if eV.toList.all fun f=>(P.info? f.type).isSome then
    (sB (L2 P t) (z.cells.toList.map .v) (parts.map fun x=>(x.1,st.bt x.2))).map fun ls=>(.agg ls,ans,[])
   else none
  | none=>none
 | _,_=>none
theorem TJ{P:Program}(w:World):∀(eV:List Field),(∀f∈eV,(P.info? f.type).isSome=true)->
  (eV.mapM fun f=>(do pure (f.offset,<-sizeOf f.type):Sem (Nat×Nat))).run P w=.ok (eV.map fun f=>(f.offset,((P.info? f.type).map (·.size)).getD 0)) w
 | [],_=>by simp
 | f::eV,h=>by
  obtain⟨i,hi⟩:=sj.1 (h f (by simp));have eA:=TJ (P:=P) w eV (fun g ay=>h g (by simp[ay]));simp only[Bc,Sem.run_bind,sizeOf,typeInfo,run_program,Result.andThen_ok,hi,Sem.run_pure,mg,sk,lW];simp_all[Sem.run_bind,sizeOf,typeInfo,Sem.run_pure]
theorem Gk{P:Program}{α β:Type}(f:α->Sem β)(xs:Array α)(w:World)(r:List β)(h:(xs.toList.mapM f).run P w=.ok r w):(xs.mapM f).run P w=.ok r.toArray w:=by
 rw[<-Array.toArray_toList (xs:=xs),List.mapM_toArray];simp_all
variable{P:Program}{w0:eT}{a:Act}{st:aD}{t:TypeId}{r:aI}{ans cv:List cf}{obs:List Prop}
theorem azC{parts:Array (Nat×Operand)}
  (a6:cM w0 st a w ω τ) (h:Gj P st t parts.toList ans=some (r,cv,obs)):
  ∃z,(Instr.build t (parts.map fun (i,x)=>(i,a.eval x))).run P w=.ok z w/\cW (Sat w ω τ) r z:=by
 unfold Gj at h;split at h
 ·rename_i eV i hu hi;split at h
  ·rename_i z bb;split at h
   ·rename_i h9;rw[ca]at h;obtain⟨ls,h1,h⟩:=h;simp only[bL]at h;obtain⟨rfl,_,_⟩:=h;have FV:lf (Sat w ω τ) (z.cells.toList.map .v) z.cells:=by
     refine⟨by simp,fun j l al=>?_⟩;rw[dI,ca]at al;obtain⟨u,hu,rfl⟩:=al;exact⟨u,by grind,rfl⟩
    obtain⟨out,U,aA⟩:=L1 (vals:=parts.toList.map fun x=>(x.1,a.eval x.2)) (by simp) (fun j gk p bf=>by
     rw[dI,ca]at bf;obtain⟨⟨i2,x⟩,ag,e⟩:=bf;simp only[bL]at e;obtain⟨rfl,rfl⟩:=e;exact⟨a.eval x,by grind,a6.bt x⟩) h1 FV
    have hm:=Gk (P:=P) (fun f:Field=>(do pure (f.offset,<-sizeOf f.type):Sem (Nat×Nat))) eV w _ (TJ (P:=P) w eV.toList (fun f bI=>gn.1 h9 f bI));have qt:(fun x=>(eV.toList.map fun f=>(f.offset,((P.info? f.type).map (·.size)).getD 0)).toArray[x]?)=L2 P t:=by
     funext x;simp only[p6,dI,mN,L2,hu];cases ag:eV[x]? with
     | none=>rfl
     | some fd=>
      have:(P.info? fd.type).isSome=true:=gn.1 h9 fd (by grind);obtain⟨gk,oB⟩:=sj.1 this;simp[oB]
    refine⟨.agg out,?_,out,rfl,aA⟩;simp only[Instr.build,Sem.run_bind,zeroValue,typeInfo,run_program,Result.andThen_ok,hi,Sem.run_pure,bb,run_underlying hu,hm,qt];simp_all
   cases h
  cases h
 cases h
def L3(p:aI)(lL:Nat)(ans:List cf):kL:=
 match p with
 | .gx as=>(as[lL]?).map fun a=>(.aF a,ans,[])
 | _=>none
variable{v:Value}
theorem azD{P:Program}{lL:Nat}
  (hp:cW (Sat w ω τ) p v) (h:L3 p lL ans=some (r,cv,obs)):∃z,(Instr.extract v lL).run P w=.ok z w/\cW (Sat w ω τ) r z:=by
 unfold L3 at h;split at h
 ·rename_i as;rw[ca]at h;obtain⟨aF,h1,h⟩:=h;simp only[bL]at h;obtain⟨rfl,_,_⟩:=h;obtain⟨vs,rfl,aW,bF⟩:=hp;obtain⟨u,U,aA⟩:=bF _ _ h1;exact⟨u,by simp[Instr.extract,U],aA⟩
 cases h
def L4(P:Program)(t:TypeId)(p:aI)(f:Nat)(ans:List cf):kL:=
 match P.underlying t with
 | some (.struct eV)=>
  match eV[f]? with
  | some fd=>
   match xL P fd.type,P.info? fd.type,p with
   | some agg,some i,.aF (.agg ls)=>(te agg i.size ls fd.offset).map fun r=>(r,ans,[])
   | _,_,_=>none
  | none=>none
 | _=>none
theorem azE{f:Nat}
  (hp:cW (Sat w ω τ) p v) (h:L4 P t p f ans=some (r,cv,obs)):∃z,(Instr.field t v f).run P w=.ok z w/\cW (Sat w ω τ) r z:=by
 unfold L4 at h;split at h
 ·rename_i eV hu;split at h
  ·rename_i fd bI;split at h
   ·rename_i agg i ls e1 e2;rw[ca]at h;obtain⟨n9,h1,h⟩:=h;simp only[bL]at h;obtain⟨rfl,_,_⟩:=h;obtain⟨vs,rfl,aW,bF⟩:=hp;unfold te at h1;cases agg with
    | true=>
     simp only[gy]at h1;split at h1
     ·rename_i hle;simp only[aZ]at h1;subst h1;refine⟨.agg (vs.extract fd.offset (fd.offset+i.size)),by simp[Instr.field,run_underlying hu,bI,asAgg,part,Av e1,sizeOf,typeInfo,e2],_,rfl,by simp;omega,fun j l al=>?_⟩;grind
     cases h1
    | false=>
     simp only[oc,mh,ca]at h1;obtain⟨l,al,rfl⟩:=h1;obtain⟨u,h1,U⟩:=bF _ l al;exact⟨u,by simp_all[Instr.field,run_underlying,asAgg,part,Av],U⟩
   cases h
  cases h
 cases h
def L5(op:UnOp)(p:aI)(ans:List cf):kL:=
 match op,p.leaf with
 | .not,some (.bg c)=>some (.one (.bg (!c)),ans,[])
 | .not,some (.v (.bool c))=>some (.one (.v (.bool (!c))),ans,[])
 | .neg,some (.v (.int k n))=>arith k (0-n) ans
 | _,_=>none
theorem azF{op:UnOp}
  (hp:cW (Sat w ω τ) p v) (h:L5 op p ans=some (r,cv,obs)) (a8:cO obs):∃z,(Op.unary op v).run P w=.ok z w/\cW (Sat w ω τ) r z:=by
 unfold L5 at h;split at h
 ·rename_i c e;simp only[aZ,bL]at h;obtain⟨rfl,_,_⟩:=h;have:v=.bool c:=aI.dU e hp;subst this;exact⟨_,rfl,rfl⟩
 ·rename_i c e;simp only[aZ,bL]at h;obtain⟨rfl,_,_⟩:=h;have:v=.bool c:=aI.dU e hp;subst this;exact⟨_,rfl,rfl⟩
 ·rename_i k n e;have:v=.int k n:=aI.dU e hp;subst this;exact⟨_,rfl,zQ h a8⟩
 cases h
def cX(c a b:aI)(ans:List cf):kL:=
 match c.leaf with
 | some (.v (.bool true))=>some (a,ans,[])
 | some (.v (.bool false))=>some (b,ans,[])
 | some (.bg c)=>
  match ans with
  | .qb true::r=>some (a,r,[c=true])
  | .qb false::r=>some (b,r,[c=false])
  | _=>none
 | _=>none
variable{u:Value}
theorem azG{c a b:aI}{x:Value}
  (ai:cW (Sat w ω τ) c u) (ah:cW (Sat w ω τ) a x) (aw:cW (Sat w ω τ) b y) (h:cX c a b ans=some (r,cv,obs)) (a8:cO obs):
  ∃z,(do pure (.value (if <-asBool u then x else y)):Sem Next).run P w=.ok (.value z) w/\cW (Sat w ω τ) r z:=by
 unfold cX at h;split at h
 ·rename_i e;simp only[aZ,bL]at h;obtain⟨rfl,_,_⟩:=h;have:u=.bool true:=aI.dU e ai;subst this;exact⟨x,rfl,ah⟩
 ·rename_i e;simp only[aZ,bL]at h;obtain⟨rfl,_,_⟩:=h;have:u=.bool false:=aI.dU e ai;subst this;exact⟨y,rfl,aw⟩
 ·rename_i kP e;have:u=.bool kP:=aI.dU e ai;subst this;split at h
  ·simp only[aZ,bL]at h;obtain⟨rfl,_,rfl⟩:=h;have rm:kP=true:=a8.1;subst rm;exact⟨x,rfl,ah⟩
  ·simp only[aZ,bL]at h;obtain⟨rfl,_,rfl⟩:=h;have rm:kP=false:=a8.1;subst rm;exact⟨y,rfl,aw⟩
  cases h
 cases h
def Ax:List (List D)->Option (List Int)
 | []=>some []
 | [.v (.int .u8 n)]::r=>(Ax r).map (n::·)
 | _=>none
theorem TK:∀{es:List (List D)} {xs:List Int},Ax es=some xs->xs.length=es.length/\∀i,i<xs.length->df es i 0=some (.v (.int .u8 (xs.getD i 0)))/\∀e,es[i]?=some e->e.length=1
 | [],xs,h=>by
  simp_all[Ax,aZ]
 | e::r,xs,h=>by
  unfold Ax at h;split at h
  ·grind
  ·rename_i n n9 he;obtain⟨rfl,rfl⟩:=aEx he;rw[ca]at h;obtain⟨ys,h1,rfl⟩:=h;obtain⟨U,aA⟩:=TK h1;refine⟨by simp[U],fun i hi=>?_⟩;cases i with
   | zero=>exact⟨rfl,fun e he=>by grind⟩
   | succ i=>
    simp only[gT,Nat.add_lt_add_iff_right]at hi;grind[df]
  cases h
theorem cell_of_heap{w:World}{b:Nat}{arr:Array Value}{ty:TypeId}{cY:Nat×Nat}(aw:w.heap[b]?=some (.cells arr ty cY))(h:arr[off]?=some v):w.cell? ⟨b,off,none⟩=some v:=by
 unfold World.cell?;simp[aw,h]
def aG.aaB:aG->Option (List (List D))
 | .J _ 1 es=>some es
 | _=>none
def L6(P:Program)(src dst:TypeId)(p:aI)(ans:List cf):kL:=
 match P.underlying src,P.underlying dst,p.int with
 | some _,some (.int k),some (_,n)=>arith k n ans
 | some (.slice e),some .string,none=>
  match P.underlying e,p.leaf.bind aG.aaB,ans with
  | some (.int .u8),some es,.pM (.aF (.one (.v (.string s))))::r=>some (.one (.v (.string s)),r,[(Ax es).map strOfNums=some s])
  | _,_,_=>none
 | _,_,_=>none
theorem aAm{src dst:TypeId}
  (hp:cW (Sat w ω τ) p v) (h:L6 P src dst p ans=some (r,cv,obs)) (a8:cO obs):∃z,(convert src dst v).run P w=.ok z w/\cW (Sat w ω τ) r z:=by
 unfold L6 at h;split at h
 ·rename_i d k Cp n e1 e2 ch;rw[aI.pA ch hp];exact⟨_,by simp_all[convert,run_underlying,Conv.intToInt],zQ h a8⟩
 ·rename_i e e1 e2 ch;split at h
  ·rename_i es s n9 dS hz;simp only[aZ,bL]at h;obtain⟨rfl,_,rfl⟩:=h;have m':(Ax es).map strOfNums=some s:=a8.1;rw[ca]at m';obtain⟨xs,h1,rfl⟩:=m';obtain⟨U,aA⟩:=TK h1;rw[nB]at hz;obtain⟨l,lg,qe⟩:=hz;have al:=aI.dU lg hp;unfold aG.aaB at qe;split at qe
   ·rename_i t cC;simp only[aZ]at qe;subst qe;obtain⟨aC,_⟩:=al;refine⟨.string (strOfNums xs),?_,rfl⟩;cases aC with
    | nil R k a=>
     have:xs=[]:=List.length_eq_zero_iff.1 (by grind);subst this;cases a with
     | none=>exact run_convert_bytes_nil w src e e1 dS 0 0 dst e2
     | some a=>
      rw[run_convert_bytes_string w src dst e _ 0 0 e1 dS e2];exact run_bytesToString w a 0 0 [] (run_loadCells_list w a [] (fun j v bf=>by simp at bf))
    | row R k _ b off cap arr ty cY us aw ef ai ao hk hu aE=>
     refine run_convert_bytes_arg w src e e1 dS b off cC.length cap xs U (fun i hi=>?_) dst e2;obtain⟨aJ,_⟩:=aA i (by omega);have a7:=hu i 0 _ aJ;have bw:=aE i 0 _ aJ;generalize us i 0=u at a7 bw;cases bw;rw[Nat.mul_one,o6]at a7;grind[cell_of_heap]
   cases qe
  cases h
 cases h
def L7(P:Program)(t:TypeId)(p q:aI)(ans:List cf):kL:=
 match P.underlying t,p.leaf,q.int with
 | some .string,some (.v (.string s)),some (_,n)=>
  match ans with
  | .num m::r=>some (.one (.v (.int .u8 m)),r,[0<=n,(s[n.toNat]?).map (fun b=>((b.toNat:Nat):Int))=some m])
  | _=>none
 | _,_,_=>none
variable{q:aI}
theorem aAn
  (hp:cW (Sat w ω τ) p u) (aH:cW (Sat w ω τ) q v) (h:L7 P t p q ans=some (r,cv,obs)) (a8:cO obs):∃z,(Instr.index t u v).run P w=.ok z w/\cW (Sat w ω τ) r z:=by
 unfold L7 at h;split at h
 ·rename_i s Cp n e1 e2 ch;split at h
  ·rename_i m ij;simp only[aZ,bL]at h;obtain⟨rfl,_,rfl⟩:=h;obtain⟨bJ,h1,_⟩:=a8;have:u=.string s:=aI.dU e2 hp;subst this;rw[aI.pA ch aH];rw[ca]at h1;obtain⟨b,aw,hm⟩:=h1;exact⟨.int .u8 m,by simp_all[Instr.index,asIntOf,run_underlying],rfl⟩
  cases h
 cases h
def L8(p q:aI)(ans:List cf):kL:=
 match p.int,q.int with
 | some (k,a),some (_,b)=>some (.one (.v (.int k (if b<a then b else a))),ans,[])
 | _,_=>none
def L9(p q:aI)(ans:List cf):kL:=
 match p.int,q.int with
 | some (k,a),some (_,b)=>some (.one (.v (.int k (if b>a then b else a))),ans,[])
 | _,_=>none
theorem aAo{P:Program}{ts:Array TypeId}{ty:TypeId}
  (hp:cW (Sat w ω τ) p u) (aH:cW (Sat w ω τ) q v) (h:L8 p q ans=some (r,cv,obs)):∃z,(Builtin.min_ ts ty #[u,v]).run P w=.ok z w/\cW (Sat w ω τ) r z:=by
 unfold L8 at h;split at h
 ·rename_i k a Cp b e1 e2;simp only[aZ,bL]at h;obtain⟨rfl,_,_⟩:=h;rw[aI.pA e1 hp,aI.pA e2 aH];exact⟨_,by simp[Builtin.min_,Builtin.min2],rfl⟩
 cases h
theorem aAp{P:Program}{ts:Array TypeId}{ty:TypeId}
  (hp:cW (Sat w ω τ) p u) (aH:cW (Sat w ω τ) q v) (h:L9 p q ans=some (r,cv,obs)):∃z,(Builtin.max_ ts ty #[u,v]).run P w=.ok z w/\cW (Sat w ω τ) r z:=by
 unfold L9 at h;split at h
 ·rename_i k a Cp b e1 e2;simp only[aZ,bL]at h;obtain⟨rfl,_,_⟩:=h;rw[aI.pA e1 hp,aI.pA e2 aH];exact⟨_,by simp[Builtin.max_,Builtin.max2],rfl⟩
 cases h
def TL(p:aI)(ans:List cf):kL:=
 match p.leaf with
 | some (.ptr id off)=>some (.one (.ptr id off),ans,[])
 | some (.ep t k es i j)=>some (.one (.ep t k es i j),ans,[])
 | some (.hY ds off)=>some (.one (.hY ds off),ans,[])
 | some (.aR t i j k es (.at_ x y))=>some (.one (.aR t i j k es (.at_ x y)),ans,[])
 | _=>none
def Tq(p:aI):Option Nat:=
 match p.leaf with
 | some (.ptr id 0)=>some id
 | _=>none
def RN(p:aI):Option D:=
 match p.leaf with
 | some (.hY ds 0)=>some (.ptr ds)
 | some (.v x)=>if x.oneCell' then some (.v x) else none
 | _=>none
def Gl(st:aD)(fn:Fn)(first captured:List Operand)(ans:List cf):kL:=
 match fn,first with
 | .func g,[]=>
  match (captured.map st.bt).mapM Tq with
  | some ids=>some (.one (.hq g ids),ans,[])
  | none=>
   match (captured.map st.bt).mapM RN with
   | some ds=>some (.one (.fd (.cl g ds)),ans,[])
   | none=>none
 | _,_=>none
theorem MU{α β:Type}{f:α->Option β}:∀{xs:List α} {ys:List β},xs.mapM f=some ys->ys.length=xs.length/\∀(i:Nat) (y:β),ys[i]?=some y->∃x,xs[i]?=some x/\f x=some y
 | [],ys,h=>by grind
 | x::xs,ys,h=>by
  rw[Bc]at h;cases e:f x with
  | none=>simp[e]at h
  | some y=>
   cases e2:xs.mapM f with
   | none=>grind
   | some zs=>
    simp[e,e2]at h;subst h;obtain⟨h1,U⟩:=MU e2;grind
theorem aAq{P:Program}{fn:Fn}{first captured:Array Operand}
  (a6:cM w0 st a w ω τ) (h:Gl st fn first.toList captured.toList ans=some (r,cv,obs)):
  ∃z,(Instr.makeFunc fn (first.map a.eval) (captured.map a.eval)).run P w=.ok z w/\cW (Sat w ω τ) r z:=by
 unfold Gl at h;split at h
 ·rename_i g aFD;have bI:first=#[]:=by
   grind
  subst bI;refine⟨.func (.func g) #[] (captured.map a.eval),by simp[Instr.makeFunc],?_⟩;have sG:∀(i:Nat) (x:aI),(captured.toList.map st.bt)[i]?=some x->∃v,(captured.map a.eval)[i]?=some v/\cW (Sat w ω τ) x v:=by
   intro i x ag;rw[dI,ca]at ag;obtain⟨o,a8,rfl⟩:=ag;refine⟨a.eval o,?_,a6.bt o⟩;grind
  split at h
  ·rename_i ids adZ;simp only[aZ,bL]at h;obtain⟨rfl,_,_⟩:=h;obtain⟨aW,ay⟩:=MU adZ;have hex:∀i,i<ids.length->∃b id,ids[i]?=some id/\(captured.map a.eval)[i]?=some (ptrTo b)/\ω b=.box id:=by
    intro i hi;obtain⟨x,ag,kz⟩:=ay i ids[i] (by simp[hi]);obtain⟨v,bF,ao⟩:=sG i x ag;unfold Tq at kz;split at kz
    ·rename_i id al;simp only[aZ]at kz;obtain⟨b,aw,rfl⟩:=aI.dU al ao;exact⟨b,id,by grind,bF,aw⟩
    cases kz
   have dO:(captured.map a.eval).size=ids.length:=by grind
   let bs:=(List.range ids.length).map fun i=>(match (captured.map a.eval)[i]? with | some (.pointer (some p))=>p.block | _=>0)
   refine⟨bs,?_,by simp[bs],fun i id hB=>?_⟩
   ·congr 1
    apply Array.ext
    ·grind
    grind[id,aZ,ptrTo]
   grind[gO,ptrTo]
  split at h
  ·rename_i ds fj;simp only[aZ,bL]at h;obtain⟨rfl,_,_⟩:=h;obtain⟨aW,ay⟩:=MU fj;refine b3.cl _ g ds (captured.map a.eval) (fun j=>(captured.map a.eval).getD j undef) (by grind) (fun j d aE=>?_) (fun j d aE=>?_)
   ·obtain⟨x,ag,_⟩:=ay j d aE;obtain⟨v,bF,_⟩:=sG j x ag;rw[bF];simp only[fc,bF,lW]
   obtain⟨x,ag,kz⟩:=ay j d aE;obtain⟨v,bF,ao⟩:=sG j x ag;have e:(captured.map a.eval).getD j undef=v:=by simp only[fc,bF,lW]
   rw[e];unfold RN at kz;split at kz
   ·rename_i tP al;simp only[aZ]at kz;subst kz;obtain⟨b,rfl,aC⟩:=aI.dU al ao;exact aC.frame fun b q aw aH=>⟨aH,rfl⟩
   ·rename_i y al;split at kz
    ·rename_i aew;simp only[aZ]at kz;subst kz;have:v=y:=aI.dU al ao;subst this;exact .v _ _ aew
    cases kz
   cases kz
  cases h
 cases h
def Gm(P:Program)(st:aD)(b:Builtin)(args:List Operand)(ts:List TypeId)(ans:List cf):kL:=
 match b,args,ts with
 | .len,[x],[t]=>Mi P t (st.bt x) ans
 | .min,[x,y],_=>L8 (st.bt x) (st.bt y) ans
 | .max,[x,y],_=>L9 (st.bt x) (st.bt y) ans
 | _,_,_=>none
def rW(P:Program)(st:aD)(op:Op)(ans:List cf):kL:=
 match op with
 | .move x | .assign x=>some (st.bt x,ans,[])
 | .pick c a b=>cX (st.bt c) (st.bt a) (st.bt b) ans
 | .load t x=>Gh P st t (st.bt x) ans
 | .nilCheck x=>TL (st.bt x) ans
 | .binOp op t x y _=>Me P op t x y (st.bt x) (st.bt y) ans
 | .unOp op _ x=>L5 op (st.bt x) ans
 | .convert s d x=>L6 P s d (st.bt x) ans
 | .slice t x c7 hi jL=>Gi P st t (st.bt x) c7 hi jL ans
 | .fieldAddr s x f=>Mg P s (st.bt x) f ans
 | .field t x f=>L4 P t (st.bt x) f ans
 | .indexAddr t x i=>Mh P t (st.bt x) (st.bt i) ans
 | .index t x i=>L7 P t (st.bt x) (st.bt i) ans
 | .extract x i=>L3 (st.bt x) i ans
 | .build t parts=>Gj P st t parts.toList ans
 | .call ⟨.builtin b,args,ts⟩=>Gm P st b args.toList ts.toList ans
 | .makeFunc fn first captured=>Gl st fn first.toList captured.toList ans
 | _=>none
theorem jW{aN:World}{s:Sem Value}{z:Value}(h:s.run P w=.ok z aN):(do pure (.value (<-s)):Sem Next).run P w=.ok (.value z) aN:=by
 simp_all
theorem aAr{b:Builtin}{args:Array Operand}{ts:Array TypeId}{ty:TypeId}{consts:Array Bool}
  (a6:cM w0 st a w ω τ) (h:Gm P st b args.toList ts.toList ans=some (r,cv,obs)):
  ∃z,(builtin b ts ty consts (args.map a.eval)).run P w=.ok (.value z) w/\cW (Sat w ω τ) r z:=by
 obtain⟨args⟩:=args;obtain⟨ts⟩:=ts;unfold Gm at h;split at h
 ·rename_i x t e1 e2;simp only at e1 e2;subst e1 e2;obtain⟨z,h1,U⟩:=azA (ty:=ty) (a6.bt x) h;refine⟨z,jW (s:=Builtin.len_ #[t] ty (Array.map a.eval #[x])) ?_,U⟩;grind
 ·rename_i x y e1;simp only at e1;subst e1;obtain⟨z,h1,U⟩:=aAo (P:=P) (ts:=⟨ts⟩) (ty:=ty) (a6.bt x) (a6.bt y) h;refine⟨z,jW (s:=Builtin.min_ ⟨ts⟩ ty (Array.map a.eval #[x,y])) ?_,U⟩;grind
 ·rename_i x y e1;simp only at e1;subst e1;obtain⟨z,h1,U⟩:=aAp (P:=P) (ts:=⟨ts⟩) (ty:=ty) (a6.bt x) (a6.bt y) h;refine⟨z,jW (s:=Builtin.max_ ⟨ts⟩ ty (Array.map a.eval #[x,y])) ?_,U⟩;grind
 cases h
theorem MV{o:Oper}
  (a6:cM w0 st a w ω τ) (h:rW P st o.op ans=some (r,cv,obs)) (a8:cO obs):
  ∃z,(execOp a.eval o).run P w=.ok (.value z) w/\cW (Sat w ω τ) r z:=by
 obtain⟨dst,op,type,pos,after,guard⟩:=o;simp only at h;unfold rW at h;split at h
 ·rename_i x;simp only[aZ,bL]at h;obtain⟨rfl,_,_⟩:=h;exact⟨a.eval x,rfl,a6.bt x⟩
 ·rename_i x;simp only[aZ,bL]at h;obtain⟨rfl,_,_⟩:=h;exact⟨a.eval x,rfl,a6.bt x⟩
 ·rename_i c x y;exact azG (a6.bt c) (a6.bt x) (a6.bt y) h a8
 ·rename_i t x;obtain⟨z,h1,U⟩:=azz a6 (a6.bt x) h a8;exact⟨z,jW h1,U⟩
 ·rename_i x;unfold TL at h;split at h
  ·rename_i id off e;simp only[aZ,bL]at h;obtain⟨rfl,_,_⟩:=h;have ao:=aI.dU e (a6.bt x);obtain⟨b,aw,ag⟩:=ao;exact⟨_,by simp_all[execOp],b,aw,rfl⟩
  ·rename_i t k es i j e;simp only[aZ,bL]at h;obtain⟨rfl,_,_⟩:=h;have ao:=aI.dU e (a6.bt x);have dr:=ao;obtain⟨b,off,cap,ag,h1⟩:=ao;refine⟨_,by simp only[execOp,ag];rfl,?_⟩;rw[<-ag];exact dr
  ·rename_i ds off e;simp only[aZ,bL]at h;obtain⟨rfl,_,_⟩:=h;have ao:=aI.dU e (a6.bt x);have dr:=ao;obtain⟨b,ag,h1⟩:=ao;refine⟨_,by simp only[execOp,ag];rfl,?_⟩;rw[<-ag];exact dr
  ·rename_i t i j k es aEc Rx e;simp only[aZ,bL]at h;obtain⟨rfl,_,_⟩:=h;have ao:=aI.dU e (a6.bt x);have dr:=ao;obtain⟨fo,⟨b,off,cap,_,ag,_⟩,_⟩:=ao;refine⟨_,by simp only[execOp,ag];rfl,?_⟩;rw[<-ag];exact dr
  cases h
 ·rename_i afD t x y se;obtain⟨z,h1,U⟩:=azK (a6.bt x) (a6.bt y) h a8;exact⟨z,jW h1,U⟩
 ·rename_i afD t x;obtain⟨z,h1,U⟩:=azF (a6.bt x) h a8;exact⟨z,jW h1,U⟩
 ·rename_i s d x;obtain⟨z,h1,U⟩:=aAm (a6.bt x) h a8;exact⟨z,jW h1,U⟩
 ·rename_i t x c7 hi jL;obtain⟨z,h1,U⟩:=azB a6 (a6.bt x) h a8;exact⟨z,jW h1,U⟩
 ·rename_i s x f;obtain⟨z,h1,U⟩:=azL (a6.bt x) h;exact⟨z,jW h1,U⟩
 ·rename_i t x f;obtain⟨z,h1,U⟩:=azE (a6.bt x) h;exact⟨z,jW h1,U⟩
 ·rename_i t x i;obtain⟨z,h1,U⟩:=azx (a6.bt x) (a6.bt i) h a8;exact⟨z,jW h1,U⟩
 ·rename_i t x i;obtain⟨z,h1,U⟩:=aAn (a6.bt x) (a6.bt i) h a8;exact⟨z,jW h1,U⟩
 ·rename_i x i;obtain⟨z,h1,U⟩:=azD (P:=P) (a6.bt x) h;exact⟨z,jW h1,U⟩
 ·rename_i t parts;obtain⟨z,h1,U⟩:=azC a6 h;exact⟨z,jW h1,U⟩
 ·rename_i b args ts;obtain⟨z,h1,U⟩:=aAr (ty:=type) (consts:=args.map fun | .const _=>true | _=>false) a6 h;grind[execOp,resolve,Sem.run_bind,Sem.run_pure,Result.andThen_ok,invoke]
 ·rename_i fn first captured
  obtain⟨z,h1,U⟩:=aAq (P:=P) a6 h;exact⟨z,jW h1,U⟩
 cases h
