import Derived.WalkKit
import Derived.WalkSpells
import Derived.WalkLawsBesides
import Derived.KernelRfl
set_option linter.unusedVariables false
set_option linter.unusedSimpArgs false
namespace Go.Sx
open Go.RowKit
universe u v w x
theorem aa:True:=⟨⟩
theorem aS:type_of% @Option.some.injEq.{u}:=@Option.some.injEq.{u}
theorem cm:type_of% @List.length_map.{u,v}:=@List.length_map.{u,v}
theorem bX:type_of% @Option.map_eq_some_iff.{u,v}:=@Option.map_eq_some_iff.{u,v}
theorem bq:type_of% @Prod.mk.injEq.{u,v}:=@Prod.mk.injEq.{u,v}
theorem cD:type_of% @Bool.eq_false_or_eq_true:=@Bool.eq_false_or_eq_true
theorem oB:type_of% @decide_eq_false_iff_not:=@decide_eq_false_iff_not
theorem hQ:type_of% @List.mem_cons_of_mem.{u}:=@List.mem_cons_of_mem.{u}
theorem dR:type_of% @List.length_nil.{u}:=@List.length_nil.{u}
theorem cW:type_of% @decide_eq_true_eq:=@decide_eq_true_eq
theorem cF:type_of% @Bool.and_eq_true:=@Bool.and_eq_true
theorem fy:type_of% @List.getElem?_eq_some_iff.{u}:=@List.getElem?_eq_some_iff.{u}
theorem er:type_of% @Array.getD_eq_getD_getElem?.{u}:=@Array.getD_eq_getD_getElem?.{u}
theorem j1:type_of% @List.mem_cons_self.{u}:=@List.mem_cons_self.{u}
theorem gp:type_of% @List.length_set.{u}:=@List.length_set.{u}
theorem bG:type_of% @if_neg.{u}:=@if_neg.{u}
theorem bM:type_of% @if_pos.{u}:=@if_pos.{u}
theorem hz:type_of% @List.length_cons.{u}:=@List.length_cons.{u}
theorem dr:type_of% @List.getElem?_map.{u,v}:=@List.getElem?_map.{u,v}
theorem mu:type_of% @decide_eq_false:=@decide_eq_false
theorem iZ:type_of% @List.getElem?_eq_getElem.{u}:=@List.getElem?_eq_getElem.{u}
theorem dF:type_of% @Nat.zero_add:=@Nat.zero_add
theorem fl:type_of% @List.mem_of_getElem?.{u}:=@List.mem_of_getElem?.{u}
theorem gP:type_of% @Option.some.inj.{u}:=@Option.some.inj.{u}
theorem gn:type_of% @Bool.or_eq_false_iff:=@Bool.or_eq_false_iff
theorem iE:type_of% @Array.getElem?_eq_some_iff.{u}:=@Array.getElem?_eq_some_iff.{u}
theorem k7:type_of% @List.getElem?_drop.{u}:=@List.getElem?_drop.{u}
theorem gW:type_of% @Nat.mul_le_mul_right:=@Nat.mul_le_mul_right
theorem k8:type_of% @List.take_length.{u}:=@List.take_length.{u}
theorem k9:type_of% @Array.getElem?_eq_getElem.{u}:=@Array.getElem?_eq_getElem.{u}
theorem jL:type_of% @beq_iff_eq.{u}:=@beq_iff_eq.{u}
theorem jX:type_of% @List.getElem?_take.{u}:=@List.getElem?_take.{u}
theorem asY:type_of% @List.cons.inj.{u}:=@List.cons.inj.{u}
theorem lI:type_of% @Array.getElem?_toList.{u}:=@Array.getElem?_toList.{u}
theorem hP:type_of% @List.mem_append_left.{u}:=@List.mem_append_left.{u}
theorem iC:type_of% @List.mem_append_right.{u}:=@List.mem_append_right.{u}
theorem iD:type_of% @Array.getElem?_append.{u}:=@Array.getElem?_append.{u}
theorem ep:type_of% @List.mem_cons.{u}:=@List.mem_cons.{u}
theorem fx:type_of% @List.all_eq_true.{u}:=@List.all_eq_true.{u}
theorem jY:type_of% @List.getD_eq_getElem?_getD.{u}:=@List.getD_eq_getElem?_getD.{u}
theorem ga:type_of% @Nat.le_refl:=@Nat.le_refl
theorem hd:type_of% @List.any_eq_false.{u}:=@List.any_eq_false.{u}
theorem Vk:type_of% @Bool.eq_false_iff:=@Bool.eq_false_iff
theorem gB:type_of% @Nat.add_mul:=@Nat.add_mul
theorem h8:type_of% @Bool.not_eq_true':=@Bool.not_eq_true'
theorem ov:type_of% @List.getElem?_append.{u}:=@List.getElem?_append.{u}
theorem hy:type_of% @List.map_append.{u,v}:=@List.map_append.{u,v}
theorem jZ:type_of% @Option.getD_some.{u}:=@Option.getD_some.{u}
theorem kG:type_of% @List.map_congr_left.{u,v}:=@List.map_congr_left.{u,v}
theorem kg:type_of% @Bool.not_eq_false':=@Bool.not_eq_false'
theorem nA:type_of% @List.getElem?_toArray.{u}:=@List.getElem?_toArray.{u}
theorem iY:type_of% @Bool.not_true:=@Bool.not_true
theorem k':type_of% @List.append_nil.{u}:=@List.append_nil.{u}
theorem kH:type_of% @List.length_append.{u}:=@List.length_append.{u}
theorem nB:type_of% @List.size_toArray.{u}:=@List.size_toArray.{u}
theorem nC:type_of% @List.getElem?_set.{u}:=@List.getElem?_set.{u}
theorem pP:type_of% @Int.toNat_natCast:=@Int.toNat_natCast
theorem nD:type_of% @List.getElem?_cons_succ.{u}:=@List.getElem?_cons_succ.{u}
theorem kI:type_of% @List.getElem?_cons_zero.{u}:=@List.getElem?_cons_zero.{u}
theorem la:type_of% @Option.bind_eq_some_iff.{u,v}:=@Option.bind_eq_some_iff.{u,v}
theorem tE:type_of% @List.findIdx?_eq_some_iff_getElem.{u}:=@List.findIdx?_eq_some_iff_getElem.{u}
theorem pQ:type_of% @Option.isSome_iff_exists.{u}:=@Option.isSome_iff_exists.{u}
theorem ow:type_of% @List.mem_iff_getElem?.{u}:=@List.mem_iff_getElem?.{u}
theorem jr:type_of% @Bool.false_or:=@Bool.false_or
theorem AW:type_of% @List.set_set.{u}:=@List.set_set.{u}
theorem ox:type_of% @Option.bind_some.{u,v}:=@Option.bind_some.{u,v}
theorem oy:type_of% @Bool.false_eq_true:=@Bool.false_eq_true
theorem kh:type_of% @decide_eq_true:=@decide_eq_true
theorem auU:type_of% @Int.le_trans:=@Int.le_trans
theorem nE:type_of% @List.mem_flatMap.{u,v}:=@List.mem_flatMap.{u,v}
theorem EG:type_of% @List.getElem?_append_right.{u}:=@List.getElem?_append_right.{u}
theorem qK:type_of% @List.length_filter_le.{u}:=@List.length_filter_le.{u}
theorem js:type_of% @List.map_set.{u,v}:=@List.map_set.{u,v}
theorem mn:type_of% @List.map_cons.{u,v}:=@List.map_cons.{u,v}
theorem qL:type_of% @Option.map_some.{u,v}:=@Option.map_some.{u,v}
theorem qM:type_of% @List.getElem_mem.{u}:=@List.getElem_mem.{u}
theorem tF:type_of% @List.length_take.{u}:=@List.length_take.{u}
theorem mo:type_of% @List.mem_append.{u}:=@List.mem_append.{u}
theorem tG:type_of% @List.append_assoc.{u}:=@List.append_assoc.{u}
theorem gO:type_of% @if_true.{u}:=@if_true.{u}
theorem nF:type_of% @Bool.not_false:=@Bool.not_false
theorem sb:type_of% @Array.size_append.{u}:=@Array.size_append.{u}
theorem vy:type_of% @List.take_add_one.{u}:=@List.take_add_one.{u}
theorem pR:type_of% @List.mem_or_eq_of_mem_set.{u}:=@List.mem_or_eq_of_mem_set.{u}
theorem EH:type_of% @List.getElem?_append_left.{u}:=@List.getElem?_append_left.{u}
theorem AX:type_of% @List.mem_of_mem_take.{u}:=@List.mem_of_mem_take.{u}
theorem pS:type_of% @Bool.or_eq_true:=@Bool.or_eq_true
theorem mq:type_of% @Nat.add_zero:=@Nat.add_zero
theorem AY:type_of% @List.take_of_length_le.{u}:=@List.take_of_length_le.{u}
theorem oz:type_of% @Bool.true_and:=@Bool.true_and
theorem lJ:type_of% @List.mem_map.{u,v}:=@List.mem_map.{u,v}
theorem EI:type_of% @List.mem_of_mem_drop.{u}:=@List.mem_of_mem_drop.{u}
theorem AZ:type_of% @List.getElem?_replicate.{u}:=@List.getElem?_replicate.{u}
theorem oA:type_of% @Nat.lt_or_ge:=@Nat.lt_or_ge
theorem xr:type_of% @beq_eq_false_iff_ne.{u}:=@beq_eq_false_iff_ne.{u}
theorem qN:type_of% @List.cons.injEq.{u}:=@List.cons.injEq.{u}
theorem EJ:type_of% @List.findIdx?_eq_none_iff.{u}:=@List.findIdx?_eq_none_iff.{u}
theorem tH:type_of% @Bool.not_eq_true:=@Bool.not_eq_true
theorem nG:type_of% @List.not_mem_nil.{u}:=@List.not_mem_nil.{u}
theorem xt:type_of% @List.eq_nil_of_length_eq_zero.{u}:=@List.eq_nil_of_length_eq_zero.{u}
theorem Vl:type_of% @List.take_append_of_le_length.{u}:=@List.take_append_of_le_length.{u}
theorem Mc:type_of% @Array.length_toList.{u}:=@Array.length_toList.{u}
theorem tI:type_of% @beq_self_eq_true.{u}:=@beq_self_eq_true.{u}
theorem xu:type_of% @Nat.lt_of_lt_of_le:=@Nat.lt_of_lt_of_le
theorem EK:type_of% @Option.isSome_eq_false_iff.{u}:=@Option.isSome_eq_false_iff.{u}
theorem Vm:type_of% @List.take_append_drop.{u}:=@List.take_append_drop.{u}
theorem mr:type_of% @ne_eq.{u}:=@ne_eq.{u}
theorem EL:type_of% @Option.isNone_iff_eq_none.{u}:=@Option.isNone_iff_eq_none.{u}
theorem sc:type_of% @Nat.le_trans:=@Nat.le_trans
theorem qO:type_of% @List.map_id.{u}:=@List.map_id.{u}
theorem A0:type_of% @List.any_cons.{u}:=@List.any_cons.{u}
theorem xv:type_of% @List.mapM_cons.{u,v,w}:=@List.mapM_cons.{u,v,w}
theorem lK:type_of% @if_false.{u}:=@if_false.{u}
theorem qP:type_of% @List.any_eq_true.{u}:=@List.any_eq_true.{u}
theorem vz:type_of% @List.drop_zero.{u}:=@List.drop_zero.{u}
theorem auV:type_of% @Int.natCast_zero:=@Int.natCast_zero
theorem Md:type_of% @List.flatMap_nil.{u,v}:=@List.flatMap_nil.{u,v}
theorem EM:type_of% @Array.getElem?_eq_none.{u}:=@Array.getElem?_eq_none.{u}
theorem as0:type_of% @Array.getElem?_map.{u,v}:=@Array.getElem?_map.{u,v}
theorem EN:type_of% @Option.toList_some.{u}:=@Option.toList_some.{u}
theorem Me:type_of% @List.range_zero:=@List.range_zero
theorem qQ:type_of% @List.map_take.{u,v}:=@List.map_take.{u,v}
theorem tJ:type_of% @Bool.and_true:=@Bool.and_true
theorem xw:type_of% @List.length_range:=@List.length_range
theorem EO:type_of% @Nat.mod_eq_of_lt:=@Nat.mod_eq_of_lt
theorem EP:type_of% @Nat.add_assoc:=@Nat.add_assoc
theorem EQ:type_of% @List.sum_cons.{u}:=@List.sum_cons.{u}
inductive D where
 | v (x:Value)
 | J (k:Nat) (es:List (List D))
 | ptr (ds:List D)
 | cl (g:FuncId) (br:List D)
inductive c0 where
 | bt
 | box (id:Nat)
 | tok (t:Nat) (q:List (Nat×Nat))
abbrev Own:=Nat->c0
def cQ(es:List (List D))(i j:Nat):Option D:=(es[i]?).bind (·[j]?)
inductive bQ (w:World) (ω:Own):(List (Nat×Nat)->c0->Prop)->D->Value->Prop
 | v (R:List (Nat×Nat)->c0->Prop) (x:Value) (h1:x.oneCell'=true):bQ w ω R (.v x) x
 | nil (R:List (Nat×Nat)->c0->Prop) (k:Nat) (a:Option Addr):bQ w ω R (.J k []) (.slice a 0 0)
 | row (R:List (Nat×Nat)->c0->Prop) (k:Nat) (es:List (List D)) (b off cap:Nat) (arr:Array Value) (ty:TypeId) (cL:Nat×Nat) (us:Nat->Nat->Value)
   (aw:w.heap[b]?=some (.cells arr ty cL)) (dG:R [] (ω b)) (al:es.length<=cap) (ai:off+cap*k<=arr.size) (hk:∀e∈es,e.length=k)
   (hu:∀i j d,cQ es i j=some d->arr[off+i*k+j]?=some (us i j))
   (aG:∀i j d,cQ es i j=some d->bQ w ω (fun q=>R ((i,j)::q)) d (us i j)):
   bQ w ω R (.J k es) (.slice (some ⟨b,off,none⟩) es.length cap)
 | ptr (R:List (Nat×Nat)->c0->Prop) (ds:List D) (b:Nat) (arr:Array Value) (ty:TypeId) (cL:Nat×Nat) (us:Nat->Value)
   (aw:w.heap[b]?=some (.cells arr ty cL)) (dG:R [] (ω b)) (ai:arr.size=ds.length)
   (hu:∀j d,ds[j]?=some d->arr[j]?=some (us j)) (aG:∀j d,ds[j]?=some d->bQ w ω (fun q=>R ((0,j)::q)) d (us j)):
   bQ w ω R (.ptr ds) (.pointer (some ⟨b,0,none⟩))
 | cl (R:List (Nat×Nat)->c0->Prop) (g:FuncId) (br:List D) (cs:Array Value) (us:Nat->Value) (ai:cs.size=br.length)
   (hu:∀j d,br[j]?=some d->cs[j]?=some (us j)) (aG:∀j d,br[j]?=some d->bQ w ω (fun q=>R ((0,j)::q)) d (us j)):
   bQ w ω R (.cl g br) (.func (.func g) #[] cs)
variable{w aM:World}{ω:Own}
theorem bQ.frame{a7:Own}{R:List (Nat×Nat)->c0->Prop}{d:D}{v:Value}(h:bQ w ω R d v):
  ∀{hS:List (Nat×Nat)->c0->Prop},(∀b q,b<w.heap.size->R q (ω b)->hS q (a7 b)/\aM.heap[b]?=w.heap[b]?)->bQ aM a7 hS d v:=by
 induction h with
 | v R x h1=>intro hS _;exact .v hS x h1
 | nil R k a=>intro hS _;exact .nil hS k a
 | row R k es b off cap arr ty cL us aw dG al ai hk hu aG eH=>
  intro hS b0;have bJ:b<w.heap.size:=by
   rcases oA b w.heap.size with h | h
   ·exact h
   simp[EM h]at aw
  obtain⟨h1,U⟩:=b0 b [] bJ dG;exact .row hS k es b off cap arr ty cL us (U.trans aw) h1 al ai hk hu (fun i j d eb=>eH i j d eb (fun b q ap aK=>b0 b ((i,j)::q) ap aK))
 | ptr R ds b arr ty cL us aw dG ai hu aG eH=>
  intro hS b0;have bJ:b<w.heap.size:=by
   rcases oA b w.heap.size with h | h
   ·exact h
   simp[EM h]at aw
  obtain⟨h1,U⟩:=b0 b [] bJ dG;exact .ptr hS ds b arr ty cL us (U.trans aw) h1 ai hu (fun j d eb=>eH j d eb (fun b q ap aK=>b0 b ((0,j)::q) ap aK))
 | cl R g br cs us ai hu aG eH=>
  intro hS b0;exact .cl hS g br cs us ai hu (fun j d eb=>eH j d eb (fun b q ap aK=>b0 b ((0,j)::q) ap aK))
inductive Tag where
 | free
 | own (t:Nat)
 | ro (t:Nat)
def Tag.R:Tag->List (Nat×Nat)->c0->Prop
 | .free,_,o=>o=.bt
 | .own t,q,o=>o=.tok t q
 | .ro t,_,o=>o=.bt\/∃q,o=.tok t q
def Tag.dJ(τ:Nat->Nat×Value):Tag->Nat×Value->Prop
 | .own t,y=>τ t=y
 | _,_=>True
def cX:Nat:=1000000000
inductive eD where
 | cj
 | v (x:Value)
 | J (t:Tag) (k:Nat) (es:List (List D))
inductive tQ where
 | here
 | kL
 | at_ (x y:Nat)
def tQ.rel(k n:Nat):tQ->Value->Value->Prop
 | .at_ x y,u,v=>∃b off cap,u=.slice (some ⟨b,off,none⟩) n cap/\v=.pointer (some ⟨b,off+x*k+y,none⟩)/\x<n
 | _,u,v=>v=u
def tQ.home:tQ->Bool
 | .kL=>false
 | _=>true
inductive az where
 | cj
 | v (x:Value)
 | a' (c:Bool)
 | J (t:Tag) (k:Nat) (es:List (List D))
 | ptr (id off:Nat)
 | cB (t:Tag) (k:Nat) (es:List (List D)) (i j:Nat)
 | ha (ds:List D) (off:Nat)
 | fd (d:D)
 | fR (g:FuncId) (ids:List Nat)
 | aO (t i j k:Nat) (es:List (List D)) (m:tQ)
 | eX (t:Nat) (vs:List eD)
 | c' (t k:Nat) (es:List (List D))
def ptrTo(b:Nat):Value:=.pointer (some ⟨b,0,none⟩)
def pU(w:World)(ω:Own)(τ:Nat->Nat×Value):eD->Value->Prop
 | .cj,_=>True
 | .v x,y=>y=x
 | .J t k es,y=>bQ w ω t.R (.J k es) y/\t.dJ τ (k,y)
def tm(w:World)(ω:Own)(τ:Nat->Nat×Value)(t i j:Nat)(u:Value):Prop:=
 ∃(kT b off len cap:Nat) (arr:Array Value) (ty:TypeId) (cL:Nat×Nat),τ t=(kT,.slice (some ⟨b,off,none⟩) len cap)/\ω b=.tok t []/\w.heap[b]?=some (.cells arr ty cL)/\arr[off+i*kT+j]?=some u
def Sat(w:World)(ω:Own)(τ:Nat->Nat×Value):az->Value->Prop
 | .cj,_=>True
 | .v x,y=>y=x
 | .a' c,y=>y=.bool c
 | .J t k es,y=>bQ w ω t.R (.J k es) y/\t.dJ τ (k,y)
 | .ptr id off,y=>∃b,ω b=.box id/\y=.pointer (some ⟨b,off,none⟩)
 | .cB t k es i j,y=>∃b off cap,y=.pointer (some ⟨b,off+i*k+j,none⟩)/\i<es.length/\
   bQ w ω t.R (.J k es) (.slice (some ⟨b,off,none⟩) es.length cap)/\t.dJ τ (k,.slice (some ⟨b,off,none⟩) es.length cap)
 | .ha ds off,y=>∃b,y=.pointer (some ⟨b,off,none⟩)/\bQ w ω Tag.free.R (.ptr ds) (ptrTo b)
 | .fd d,y=>bQ w ω Tag.free.R d y
 | .fR g ids,y=>∃bs:List Nat,y=.func (.func g) #[] (bs.map ptrTo).toArray/\bs.length=ids.length/\∀(i:Nat) (id:Nat),ids[i]?=some id->∃b,bs[i]?=some b/\ω b=.box id
 | .c' t k es,y=>bQ w ω Tag.free.R (.J k es) y/\(cX<=t->τ t=(k,y))
 | .aO t i j k es m,y=>∃u,m.rel k es.length u y/\bQ w ω (fun q o=>o=.tok t ((i,j)::q)) (.J k es) u/\(m.home=true->tm w ω τ t i j u)
 | .eX t vs,y=>∃(b:Nat) (ty:TypeId) (arr:Array Value),y=ptrTo b/\ω b=.tok t []/\w.heap[b]?=some (.cells arr ty (0,0))/\arr.size=vs.length/\∀(j:Nat) (c:eD),vs[j]?=some c->∃u,arr[j]?=some u/\pU w ω τ c u
inductive bm where
 | one (l:az)
 | agg (ls:List az)
inductive aE where
 | aF (a:bm)
 | fv (as:List bm)
abbrev aE.one(l:az):aE:=.aF (.one l)
abbrev aE.agg(ls:List az):aE:=.aF (.agg ls)
abbrev aE.cj:aE:=.aF (.one .cj)
def jv(S:az->Value->Prop)(ls:List az)(vs:Array Value):Prop:=
 vs.size=ls.length/\∀(i:Nat) (l:az),ls[i]?=some l->∃u,vs[i]?=some u/\S l u
def ju(S:az->Value->Prop):bm->Value->Prop
 | .one l,y=>S l y
 | .agg ls,y=>∃vs,y=.agg vs/\jv S ls vs
def cE(S:az->Value->Prop):aE->Value->Prop
 | .aF a,y=>ju S a y
 | .fv as,y=>∃vs:Array Value,y=.tuple vs/\vs.size=as.length/\∀(i:Nat) (a:bm),as[i]?=some a->∃u,vs[i]?=some u/\ju S a u
structure aD where
 env:List aE
 boxes:List (Nat×List az)
def df(id:Nat):List (Nat×List az)->Option (List az)
 | []=>none
 | (i,ls)::r=>if i=id then some ls else df id r
def bm.map(f:az->az):bm->bm
 | .one l=>.one (f l)
 | .agg ls=>.agg (ls.map f)
def aE.map(f:az->az):aE->aE
 | .aF a=>.aF (a.map f)
 | .fv as=>.fv (as.map (bm.map f))
def aD.map(f:az->az)(s:aD):aD:=⟨s.env.map (aE.map f),s.boxes.map fun x=>(x.1,x.2.map f)⟩
variable{S:az->Value->Prop}
theorem jv.map{jN:az->Value->Prop}{f:az->az}(h:∀l v,S l v->jN (f l) v){ls:List az}{vs:Array Value}(ai:jv S ls vs):jv jN (ls.map f) vs:=by
 refine⟨by simpa using ai.1,fun i l ap=>?_⟩;rw[dr,bX]at ap;obtain⟨fo,b5,rfl⟩:=ap;obtain⟨u,h1,U⟩:=ai.2 i fo b5;exact⟨u,h1,h _ _ U⟩
theorem ju.map{jN:az->Value->Prop}{f:az->az}(h:∀l v,S l v->jN (f l) v):∀{a:bm} {y:Value},ju S a y->ju jN (a.map f) y
 | .one l,y,ai=>h _ _ ai
 | .agg ls,y,⟨vs,e,ai⟩=>⟨vs,e,ai.map h⟩
theorem cE.map{jN:az->Value->Prop}{f:az->az}(h:∀l v,S l v->jN (f l) v):∀{p:aE} {y:Value},cE S p y->cE jN (p.map f) y
 | .aF a,y,ai=>show ju jN (a.map f) y from ju.map h (show ju S a y from ai)
 | .fv as,y,⟨vs,e,a8,ai⟩=>⟨vs,e,by simpa using a8,fun i a ah=>by
   rw[dr,bX]at ah;obtain⟨a0,b5,rfl⟩:=ah;obtain⟨u,h1,U⟩:=ai i a0 b5;exact⟨u,h1,ju.map h U⟩⟩
theorem rJ(f:az->az)(id:Nat):∀bs:List (Nat×List az),df id (bs.map fun x=>(x.1,x.2.map f))=(df id bs).map (·.map f)
 | []=>rfl
 | (i,ls)::r=>by
  simp only[mn,df];split
  ·rfl
  exact rJ f id r
structure ee where
 w:World
 G:Nat->Prop
 H:Nat->Nat×Value
def ee.B7(B:ee)(b:Nat):Prop:=B.w.heap.size<=b\/B.G b
def H5:Bool:=true
structure fP (n:Nat) (w aM:World):Prop where
 below:Below n w aM
 drawn:H5=true->w.drawn<=aM.drawn
variable{n:Nat}
theorem fP.size(h:fP n w aM):w.heap.size<=aM.heap.size:=h.below.size
theorem fP.block(h:fP n w aM):∀k,k<n->aM.heap[k]?=w.heap[k]?:=h.below.block
theorem fP.refl(n:Nat)(w:World):fP n w w:=⟨Below.refl _ _,fun _=>ga _⟩
theorem fP.drew(h:fP n w aM):fP n w aM.drew:=⟨h.below.drew,fun ai=>Nat.le_succ_of_le (h.drawn ai)⟩
theorem fP.alloc(h:fP n w aM)(a8:n<=aM.heap.size)(o:Obj):fP n w (aM.alloc o):=⟨h.below.alloc a8 o,h.drawn⟩
def Af:List (Nat×List Int):=[]
def oE(w:World):Prop:=∀x∈Af,∃ty cL,w.heap[x.1]?=some (.cells (x.2.map (Value.int .u64)).toArray ty cL)
theorem oE.lt(h:oE w){x:Nat×List Int}(ak:x∈Af):x.1<w.heap.size:=by
 obtain⟨ty,cL,e⟩:=h x ak;rcases oA x.1 w.heap.size with h | h
 ·exact h
 simp[EM h]at e
def Tidy(w:World)(ω:Own):Prop:=oE w/\∀x∈Af,ω x.1=.bt
structure fO (B:ee) (w:World):Prop where
 os:w.os=B.w.os
 tape:w.tape=B.w.tape
 output:w.output=B.w.output
 size:B.w.heap.size<=w.heap.size
 block:∀k,k<B.w.heap.size->¬B.G k->w.heap[k]?=B.w.heap[k]?
 drawn:H5=true->B.w.drawn<=w.drawn
 laid:oE w
 free:∀x∈Go.Sx.Af,¬B.B7 x.1
theorem oE.next(h:oE w)(k:fP w.heap.size w aM):oE aM:=fun x ak=>by
 rw[k.below.block x.1 (h.lt ak)];exact h x ak
theorem fO.next{B:ee}(h:fO B w)(k:fP w.heap.size w aM):fO B aM:=
 ⟨k.below.os.trans h.os,k.below.tape.trans h.tape,k.below.output.trans h.output,sc h.size k.below.size,fun i hi av=>(k.below.block i (xu hi h.size)).trans (h.block i hi av),fun ai=>sc (h.drawn ai) (k.drawn ai),h.laid.next k,h.free⟩
def ee.of(w:World):ee:=⟨w,fun _=>False,fun _=>(0,undef)⟩
theorem fO.refl(B:ee)(h:oE B.w)(av:∀x∈Af,¬B.G x.1):fO B B.w:=⟨rfl,rfl,rfl,ga _,fun _ _ _=>rfl,fun _=>ga _,h,fun x ak hm=>by
 rcases hm with hm | hm
 ·exact absurd (h.lt ak) (by omega)
 exact av x ak hm⟩
theorem fO.start{H:Nat->Nat×Value}(h:Tidy w ω):fO ⟨w,fun b=>ω b≠.bt,H⟩ w:=fO.refl ⟨w,fun b=>ω b≠.bt,H⟩ h.1 fun x ak hm=>hm (h.2 x ak)
theorem fO.below(h:fO (ee.of w) aM):fP w.heap.size w aM:=⟨⟨h.os,h.tape,h.output,h.size,fun k hk=>h.block k hk (fun h=>h)⟩,h.drawn⟩
theorem fO.setRow{B:ee}(h:fO B w){b:Nat}(aw:B.B7 b)(arr:Array Value):fO B (w.setRow b arr):=
 ⟨h.os,h.tape,h.output,by simpa using h.size,fun k hk av=>by
  have:k≠b:=by
   rintro rfl;rcases aw with aw | aw
   ·omega
   exact av aw
  rw[setRow_other w b k arr this];exact h.block k hk av,h.drawn,fun x ak=>by
  have:x.1≠b:=fun e=>h.free x ak (e▸aw)
  rw[setRow_other w b x.1 arr this];exact h.laid x ak,h.free⟩
def mx(w0:ee)(w:World)(ω:Own):Prop:=∀b,ω b≠.bt->w0.B7 b/\∃arr ty,w.heap[b]?=some (.cells arr ty (0,0))
def sd(w:World)(ω:Own)(τ:Nat->Nat×Value)(id:Nat)(ls:List az):Prop:=
 ∃b arr ty,ω b=.box id/\(∀da,ω da=.box id->da=b)/\w.heap[b]?=some (.cells arr ty (0,0))/\jv (Sat w ω τ) ls arr
structure cr (w0:ee) (st:aD) (a:Act) (w:World) (ω:Own) (τ:Nat->Nat×Value):Prop where
 defers:a.defers=[]
 size:a.tmps.size=st.env.length
 below:fO w0 w
 owned:mx w0 w ω
 fixed:∀t,cX<=t->τ t=w0.H t
 pinned:∀id b,cX<=id->ω b=.box id->(w0.H id).1=b
 env:∀(i:Nat) (p:aE),st.env[i]?=some p->∃v,a.tmps[i]?=some v/\cE (Sat w ω τ) p v
 boxes:∀id ls,df id st.boxes=some ls->sd w ω τ id ls
def Rel(w0:ee)(st:aD)(a:Act)(w:World):Prop:=∃ω τ,cr w0 st a w ω τ
structure tL (B:ee) (w:World):Prop where
 os:w.os=B.w.os
 tape:w.tape=B.w.tape
 output:w.output=B.w.output
 size:B.w.heap.size<=w.heap.size
 block:∀k,k<B.w.heap.size->¬B.G k->w.heap[k]?=B.w.heap[k]?
 drawn:H5=true->B.w.drawn<=w.drawn
theorem tL.full{H:Nat->Nat×Value}(h:tL ⟨w,fun b=>ω b≠.bt,H⟩ aM)(bU:Tidy w ω):fO ⟨w,fun b=>ω b≠.bt,H⟩ aM:=
 ⟨h.os,h.tape,h.output,h.size,h.block,h.drawn,fun x ak=>by
  rw[h.block x.1 (bU.1.lt ak) fun a8=>a8 (bU.2 x ak)];exact bU.1 x ak,(fO.start (H:=H) bU).free⟩
variable{w0:ee}
theorem cr.tidy{st:aD}{a:Act}{a7:Own}{τ:Nat->Nat×Value}(h:cr w0 st a w ω τ)(c7:∀b,ω b=.bt->a7 b=.bt):Tidy w a7:=
 ⟨h.below.laid,fun x ak=>c7 _ (Classical.byContradiction fun a8=>h.below.free x ak (h.owned _ a8).1)⟩
theorem mx.lt(h:mx w0 w ω){b:Nat}(aw:ω b≠.bt):b<w.heap.size:=by
 obtain⟨_,arr,ty,e⟩:=h b aw;rcases oA b w.heap.size with h | h
 ·exact h
 simp[EM h]at e
theorem mx.fresh(h:mx w0 w ω){b:Nat}(aw:w.heap.size<=b):ω b=.bt:=by
 cases e:ω b with
 | bt=>rfl
 | box id=>have:=h.lt (b:=b) (by simp[e]);omega
 | tok t q=>have:=h.lt (b:=b) (by simp[e]);omega
end Go.Sx
namespace Go.Sx
open Go.RowKit
def eD.ct(g:Tag->Option Tag):eD->eD
 | .J t k es=>match g t with | some c5=>.J c5 k es | none=>.cj
 | c=>c
def az.ct(g:Tag->Option Tag)(p:Nat->Bool):az->az
 | .J t k es=>match g t with | some c5=>.J c5 k es | none=>.cj
 | .cB t k es i j=>match g t with | some c5=>.cB c5 k es i j | none=>.cj
 | .ptr id off=>if p id then .ptr id off else .cj
 | .fR f ids=>if ids.all p then .fR f ids else .cj
 | .aO t i j k es m=>match g (.own t) with | some (.own c5)=>if c5=t then .aO t i j k es m else .cj | _=>.cj
 | .eX t vs=>match g (.own t) with | some (.own c5)=>if c5=t then .eX t (vs.map (eD.ct g)) else .cj | _=>.cj
 | l=>l
structure kK (w:World) (ω:Own) (τ:Nat->Nat×Value) (aM:World) (a7:Own) (cI:Nat->Nat×Value) (g:Tag->Option Tag) (p:Nat->Bool):Prop where
 rep:∀t c5 b q,g t=some c5->b<w.heap.size->t.R q (ω b)->c5.R q (a7 b)/\aM.heap[b]?=w.heap[b]?
 dJ:∀t c5 y,g t=some c5->t.dJ τ y->c5.dJ cI y
 box:∀id b,p id=true->ω b=.box id->a7 b=.box id
 free:g .free=some .free
 fix:∀t,cX<=t->cI t=τ t
variable{w aM:World}{ω a7:Own}{τ cI:Nat->Nat×Value}{g:Tag->Option Tag}
theorem Cn(h:∀c u,pU w ω τ c u->pU aM a7 cI (eD.ct g c) u){arr:Array Value}{vs:List eD}
  (a8:arr.size=vs.length) (bz:∀(j:Nat) (c:eD),vs[j]?=some c->∃u,arr[j]?=some u/\pU w ω τ c u):
  arr.size=(vs.map (eD.ct g)).length/\∀(j:Nat) (c:eD),(vs.map (eD.ct g))[j]?=some c->∃u,arr[j]?=some u/\pU aM a7 cI c u:=by
 refine⟨by simpa using a8,fun j c al=>?_⟩;rw[dr,bX]at al;obtain⟨dk,b5,rfl⟩:=al;obtain⟨u,h1,U⟩:=bz j dk b5;exact⟨u,h1,h dk u U⟩
theorem kK.ku{p:Nat->Bool}(h:kK w ω τ aM a7 cI g p)(c:eD)(u:Value)(ai:pU w ω τ c u):pU aM a7 cI (eD.ct g c) u:=by
 cases c with
 | cj=>exact trivial
 | v x=>exact ai
 | J t k es=>
  simp only[eD.ct];cases av:g t with
  | none=>exact trivial
  | some c5=>exact⟨ai.1.frame fun b q aw aK=>h.rep t c5 b q av aw aK,h.dJ t c5 _ av ai.2⟩
theorem kK.sat{g:Tag->Option Tag}{p:Nat->Bool}(h:kK w ω τ aM a7 cI g p):
  ∀(l:az) (v:Value),Sat w ω τ l v->Sat aM a7 cI (l.ct g p) v:=by
 intro l v ai;cases l with
 | cj=>exact trivial
 | v x=>exact ai
 | a' c=>exact ai
 | J t k es=>
  simp only[az.ct];cases av:g t with
  | none=>exact trivial
  | some c5=>exact⟨ai.1.frame fun b q aw aK=>h.rep t c5 b q av aw aK,h.dJ t c5 _ av ai.2⟩
 | ptr id off=>
  simp only[az.ct];split
  ·obtain⟨b,aw,e⟩:=ai;exact⟨b,h.box id b ‹_› aw,e⟩
  exact trivial
 | fR f ids=>
  simp only[az.ct];split
  ·rename_i hp;obtain⟨bs,e,a8,hi⟩:=ai;refine⟨bs,e,a8,fun i id gh=>?_⟩;obtain⟨b,h1,U⟩:=hi i id gh;exact⟨b,h1,h.box id b (fx.1 hp id (fl gh)) U⟩
  exact trivial
 | ha ds off=>
  obtain⟨b,e,aH⟩:=ai;exact⟨b,e,aH.frame fun b q aw aK=>h.rep .free .free b q h.free aw aK⟩
 | fd d=>exact bQ.frame ai fun b q aw aK=>h.rep .free .free b q h.free aw aK
 | c' t k es=>exact⟨ai.1.frame fun b q aw aK=>h.rep .free .free b q h.free aw aK,fun bU=>(h.fix t bU).trans (ai.2 bU)⟩
 | aO t i j k es m=>
  simp only[az.ct];split
  ·rename_i c5 av;split
   ·rename_i bU;subst bU;obtain⟨u,hu,h1,hm⟩:=ai;refine⟨u,hu,h1.frame fun c q al aK=>h.rep _ _ c _ av al aK,fun bH=>?_⟩;obtain⟨kT,b,off,len,cap,arr,ty,cL,U,aY,ax,aJ⟩:=hm bH;have bJ:b<w.heap.size:=(iE.1 ax).1;have hk:=h.rep _ _ b [] av bJ aY;exact⟨kT,b,off,len,cap,arr,ty,cL,h.dJ _ _ _ av U,hk.1,hk.2.trans ax,aJ⟩
   exact trivial
  exact trivial
 | eX t vs=>
  simp only[az.ct];split
  ·rename_i c5 av;split
   ·rename_i bU;subst bU;obtain⟨b,ty,arr,e,aY,ax,a8,bz⟩:=ai;have bJ:b<w.heap.size:=(iE.1 ax).1;have hk:=h.rep _ _ b [] av bJ aY;exact⟨b,ty,arr,e,hk.1,hk.2.trans ax,Cn (h.ku) a8 bz⟩
   exact trivial
  exact trivial
 | cB t k es i j=>
  simp only[az.ct];cases av:g t with
  | none=>exact trivial
  | some c5=>
   obtain⟨b,off,cap,e,hi,aH,bH⟩:=ai;exact⟨b,off,cap,e,hi,aH.frame fun b q aw aK=>h.rep t c5 b q av aw aK,h.dJ t c5 _ av bH⟩
variable{a:Act}
theorem VX{d:Nat}{v:Value}{i:Nat}:(a.put (some d) v).tmps[i]?=if d=i/\i<a.tmps.size then some v else a.tmps[i]?:=by
 simp only[Act.put,Array.getElem?_setIfInBounds];by_cases h:d=i
 ·subst h;by_cases U:d<a.tmps.size
  ·simp[U]
  simp[U]
 simp[h]
variable{w0:ee}{st:aD}
theorem cr.put(h:cr w0 st a w ω τ){d:Nat}{p:aE}{v:Value}(ai:cE (Sat w ω τ) p v):
  cr w0 ⟨st.env.set d p,st.boxes⟩ (a.put (some d) v) w ω τ where
 defers:=h.defers
 size:=by simp[Act.put,h.size]
 below:=h.below
 owned:=h.owned
 fixed:=h.fixed
 pinned:=h.pinned
 boxes:=h.boxes
 env:=by
  intro i q aK;rw[nC]at aK;rw[VX];by_cases aG:d=i
  ·subst aG;simp only[gO]at aK;split at aK
   ·rename_i bJ;have e:=gP aK;subst e;exact⟨v,by rw[bM ⟨rfl,by rw[h.size];exact bJ⟩],ai⟩
   cases aK
  rw[bG aG]at aK;rw[bG (by simp[aG])];exact h.env i q aK
theorem cr.Fc{p:Nat->Bool}
  (h:cr w0 st a w ω τ) (e:kK w ω τ aM a7 cI g p) (p0:fO w0 aM) (o3:mx w0 aM a7) {bs:List (Nat×List az)}
  (q8:∀id ls,df id bs=some ls->sd aM a7 cI id ls) (uo:∀id b,cX<=id->a7 b=.box id->ω b=.box id) (sx:∀t,cX<=t->cI t=τ t:=by intros;rfl):cr w0 ⟨st.env.map (aE.map (az.ct g p)),bs⟩ a aM a7 cI where
 defers:=h.defers
 size:=by simp[h.size]
 below:=p0
 owned:=o3
 fixed:=fun t bU=>(sx t bU).trans (h.fixed t bU)
 pinned:=fun id b hi aw=>h.pinned id b hi (uo id b hi aw)
 boxes:=q8
 env:=by
  intro i q aK;rw[dr,bX]at aK;obtain⟨hE,b5,rfl⟩:=aK;obtain⟨v,h1,U⟩:=h.env i hE b5;exact⟨v,h1,cE.map e.sat U⟩
theorem l8(w:World)(o:Obj):(w.alloc o).heap[w.heap.size]?=some o:=by
 show (w.heap.push o)[_]?=_;simp
theorem u1(w:World)(o:Obj){i:Nat}(h:i<w.heap.size):(w.alloc o).heap[i]?=w.heap[i]?:=Below.heap_alloc w o i h
def ob(id:Nat):List (Nat×List az)->List (Nat×List az)
 | []=>[]
 | (i,ls)::r=>if i=id then ob id r else (i,ls)::ob id r
theorem H6(id:Nat):∀bs,df id (ob id bs)=none
 | []=>rfl
 | (i,ls)::r=>by
  simp only[ob];split
  ·exact H6 id r
  simp only[df];rw[bG ‹_›];exact H6 id r
theorem wF{id hn:Nat}(h:hn≠id):∀bs,df hn (ob id bs)=df hn bs
 | []=>rfl
 | (i,ls)::r=>by
  simp only[ob,df];by_cases h1:i=id
  ·rw[bM h1,bG (by omega)];exact wF h r
  rw[bG h1];simp only[df];split
  ·rfl
  exact wF h r
def qb:Tag->Option Tag:=some
def iO(id:Nat):Nat->Bool:=fun i=>decide (i≠id)
def aD.sJ(st:aD)(id:Nat)(ls:List az):aD:=
 let f:=az.ct qb (iO id)
 ⟨st.env.map (aE.map f),(id,ls.map f)::(ob id st.boxes).map fun x=>(x.1,x.2.map f)⟩
theorem cr.sJ(h:cr w0 st a w ω τ)(id:Nat)(gh:id<cX){ls:List az}{arr:Array Value}(ty:TypeId)
  (ai:jv (Sat w ω τ) ls arr):
  ∃a7,cr w0 (st.sJ id ls) a (w.alloc (.cells arr ty)) a7 τ/\a7 w.heap.size=.box id:=by
 let a7:Own:=fun b=>if b=w.heap.size then .box id else match ω b with | .box i=>if i=id then .bt else .box i | o=>o
 have fT:a7 w.heap.size=.box id:=by simp[a7]
 have hold:∀b,b<w.heap.size->a7 b=(match ω b with | .box i=>if i=id then .bt else .box i | o=>o):=by
  intro b aw;simp only[a7];rw[bG (by omega)]
 have hX:∀b,b≠w.heap.size->a7 b=(match ω b with | .box i=>if i=id then .bt else .box i | o=>o):=by
  intro b aw;simp only[a7];rw[bG aw]
 have bh:kK w ω τ (w.alloc (.cells arr ty)) a7 τ qb (iO id):=by
  refine⟨?_,?_,?_,rfl,fun _ _=>rfl⟩
  ·intro t c5 b q av aw aK;simp only[qb,aS]at av;subst av;refine⟨?_,u1 _ _ aw⟩;rw[hold b aw];cases t with
   | free=>simp only[Tag.R]at aK ⊢;rw[aK]
   | own s=>simp only[Tag.R]at aK ⊢;rw[aK]
   | ro s=>
    simp only[Tag.R]at aK ⊢;rcases aK with aK | ⟨dE,aK⟩
    ·rw[aK];exact .inl rfl
    rw[aK];exact .inr ⟨dE,rfl⟩
  ·intro t c5 y av bD;simp only[qb,aS]at av;subst av;exact bD
  intro i b hp aw;have bJ:=h.owned.lt (b:=b) (by simp[aw]);rw[hold b bJ,aw];simp only[iO,cW]at hp;simp[hp]
 have p0:fO w0 (w.alloc (.cells arr ty)):=h.below.next ((fP.refl _ _).alloc (ga _) _);have o3:mx w0 (w.alloc (.cells arr ty)) a7:=by
  intro b aw;by_cases a8:b=w.heap.size
  ·subst a8;exact⟨.inl h.below.size,arr,ty,l8 _ _⟩
  rw[hX b a8]at aw;have U:ω b≠.bt:=by intro e;rw[e]at aw;exact aw rfl
  obtain⟨ax,b9,pN,e⟩:=h.owned b U;exact⟨ax,b9,pN,(u1 _ _ (h.owned.lt U)).trans e⟩
 refine⟨a7,?_,fT⟩;refine h.Fc bh p0 o3 ?_ (fun i b hi aw=>?_)
 case refine_2=>
  by_cases a8:b=w.heap.size
  ·subst a8;rw[fT]at aw;simp only[c0.box.injEq]at aw;omega
  rw[hX b a8]at aw;cases e:ω b with
  | bt=>simp[e]at aw
  | tok t q=>simp[e]at aw
  | box j=>
   simp only[e]at aw;split at aw
   ·cases aw
   exact aw
 intro i e6 ap;simp only[df]at ap;split at ap
 ·rename_i hi;subst hi;have e:=gP ap;subst e;refine⟨w.heap.size,arr,ty,fT,?_,l8 _ _,ai.map bh.sat⟩;intro da eh;by_cases a8:da=w.heap.size
  ·exact a8
  rw[hX da a8]at eh;cases e:ω da with
  | bt=>simp[e]at eh
  | tok t q=>simp[e]at eh
  | box j=>
   simp only[e]at eh;split at eh
   ·cases eh
   rename_i c3;simp only[c0.box.injEq]at eh;exact absurd eh c3
 rename_i hi;rw[rJ,bX]at ap;obtain⟨ij,b5,rfl⟩:=ap;have c3:i≠id:=fun e=>hi e.symm
 rw[wF c3]at b5;obtain⟨b,b9,pN,aw,hu,bH,ei⟩:=h.boxes i ij b5;have bJ:=h.owned.lt (b:=b) (by simp[aw]);refine⟨b,b9,pN,bh.box i b (by simp[iO,c3]) aw,?_,(u1 _ _ bJ).trans bH,ei.map bh.sat⟩;intro da eh;by_cases a8:da=w.heap.size
 ·subst a8;rw[fT]at eh;simp only[c0.box.injEq]at eh;exact absurd eh.symm c3
 rw[hX da a8]at eh;refine hu da ?_;cases e:ω da with
 | bt=>simp[e]at eh
 | tok t q=>simp[e]at eh
 | box j=>
  simp only[e]at eh;split at eh
  ·cases eh
  exact eh
end Go.Sx
namespace Go.Sx
open Go.RowKit
inductive cz where
 | one (d:D)
 | agg (ds:List D)
inductive aT where
 | vals (rs:List cz)
 | im (src:List (Option Nat)) (ds:List D)
abbrev aT.new (ds : List D) : aT := .im [] ds
inductive gQ where
 | normal
 | exit (id:Nat)
 | ret
inductive b4 where
 | own
 | sub
 | qE (uD:List (List (Option (Option (List (List D)))))) (src:Nat) (ds:List D) (rs:List cz)
 | res (rs:List cz)
 | dg (uD:List (Option (List D))) (r:aT)
 | loop (B8:List (Nat×Nat×Nat)) (fe boxes:List Nat) (e:gQ) (st:aD)
 | nI (b:Bool)
 | el (ds:List D)
 | wr
 | eq (c:Bool)
 | num (n:Int)
 | nc (p:aE)
 | hK (st:aD)
def cA:List Prop->Prop
 | []=>True
 | p::r=>p/\cA r
theorem cA.append:∀{a b:List Prop},cA (a++b)->cA a/\cA b
 | [],_,h=>⟨aa,h⟩
 | _::_,_,h=>⟨⟨h.1,(cA.append h.2).1⟩,(cA.append h.2).2⟩
abbrev i':=Option (aE×List b4×List Prop)
def Bn:Value->aE
 | .agg cs=>.agg (cs.toList.map .v)
 | v=>.one (.v v)
def aD.bh(st:aD):Operand->aE
 | .tmp t=>st.env.getD t .cj
 | .const v=>Bn v
 | .func f=>.one (.fd (.cl f []))
 | _=>.cj
theorem ajN(w:World)(ω:Own)(τ:Nat->Nat×Value)(v:Value):cE (Sat w ω τ) (Bn v) v:=by
 unfold Bn;split
 ·rename_i cs;refine⟨cs,rfl,by simp,fun i l ap=>?_⟩;rw[dr,bX]at ap;obtain⟨u,hu,rfl⟩:=ap;exact⟨u,by simpa using hu,rfl⟩
 exact rfl
variable{w:World}{ω:Own}{τ:Nat->Nat×Value}
theorem cr.bh{w0:ee}{st:aD}{a:Act}(h:cr w0 st a w ω τ)(x:Operand):cE (Sat w ω τ) (st.bh x) (a.eval x):=by
 cases x with
 | tmp t=>
  simp only[aD.bh,Act.eval];cases e:st.env[t]? with
  | none=>
   rw[jY,e];exact trivial
  | some p=>
   obtain⟨v,bz,ai⟩:=h.env t p e;rw[jY,e];simpa[er,bz]using ai
 | const v=>exact ajN w ω τ v
 | global g=>exact trivial
 | func f=>exact bQ.cl _ f [] #[] (fun _=>undef) rfl (fun j d aG=>by simp at aG) (fun j d aG=>by simp at aG)
def az.val:az->Option Value
 | .v x=>some x
 | .a' c=>some (.bool c)
 | _=>none
variable{y:Value}
theorem az.TN{l:az}{x:Value}(h:l.val=some x)(ai:Sat w ω τ l y):y=x:=by
 cases l<;>simp[az.val]at h
 ·subst h;exact ai
 subst h;exact ai
def aE.leaf:aE->Option az
 | .aF (.one l)=>some l
 | _=>none
theorem aE.du{S:az->Value->Prop}{p:aE}{l:az}(h:p.leaf=some l)(ai:cE S p y):S l y:=by
 cases p with
 | fv as=>cases h
 | aF a=>
  cases a with
  | agg ls=>cases h
  | one fU=>simp only[aE.leaf,aS]at h;subst h;exact ai
def aE.int(p:aE):Option (IntKind×Int):=
 match p.leaf with
 | some (.v (.int k n))=>some (k,n)
 | _=>none
variable{p:aE}{k:IntKind}
theorem aE.mR{n:Int}(h:p.int=some (k,n))(ai:cE (Sat w ω τ) p y):y=.int k n:=by
 unfold aE.int at h;split at h
 ·rename_i ch X3 e;simp only[aS,bq]at h;obtain⟨rfl,rfl⟩:=h;exact aE.du e ai
 cases h
def aE.vals:aE->Option (List Value)
 | .aF (.agg ls)=>ls.mapM az.val
 | _=>none
theorem Ob{w:World}{ω:Own}{τ:Nat->Nat×Value}:∀{ls:List az} {xs:List Value},ls.mapM az.val=some xs->∀{vs:List Value},vs.length=ls.length->(∀(i:Nat) (l:az),ls[i]?=some l->∃u,vs[i]?=some u/\Sat w ω τ l u)->vs=xs
 | [],xs,h,vs,a8,_=>by
  simp at h;subst h;exact xt a8
 | l::ls,xs,h,vs,a8,ai=>by
  rw[xv]at h;cases e:l.val with
  | none=>simp[e]at h
  | some x=>
   cases e2:ls.mapM az.val with
   | none=>simp[e,e2]at h
   | some ys=>
    simp[e,e2]at h;subst h;cases vs with
    | nil=>simp at a8
    | cons v vs=>
     obtain⟨u,hu,ei⟩:=ai 0 l rfl;simp at hu;subst hu;rw[az.TN e ei]
     congr 1
     exact Ob e2 (by simpa using a8) (fun i fU ap=>by have:=ai (i+1) fU (by simpa using ap);simpa using this)
theorem aE.asw{xs:List Value}(h:p.vals=some xs)(ai:cE (Sat w ω τ) p y):y=.agg xs.toArray:=by
 cases p with
 | fv as=>cases h
 | aF a=>
  cases a with
  | one l=>cases h
  | agg ls=>
   obtain⟨vs,rfl,a8,bz⟩:=ai;have:=Ob (w:=w) (ω:=ω) (τ:=τ) h (vs:=vs.toList) (by simpa using a8) (fun i l ap=>by obtain⟨u,h1,U⟩:=bz i l ap;exact⟨u,by simpa using h1,U⟩);rw[<-this]
def aI(k:IntKind)(e:Int):Prop:=
 match k with
 | .i64=>-9223372036854775808<=e/\e<=9223372036854775807
 | k=>k.wrap e=e
theorem aI.wrap{e:Int}(h:aI k e):k.wrap e=e:=by
 cases k<;>first | exact h | (simp only[aI]at h;rw[IntKind.wrap_i64];omega)
def arith(k:IntKind)(e:Int)(ans:List b4):i':=
 match ans with
 | .wr::r=>some (.one (.v (.int k (k.wrap e))),r,[])
 | _=>some (.one (.v (.int k e)),ans,[aI k e])
variable{ans b':List b4}{obs:List Prop}
theorem wG{e:Int}(h:arith k e ans=some (p,b',obs))(aZ:cA obs):cE (Sat w ω τ) p (.int k (k.wrap e)):=by
 unfold arith at h;split at h
 ·simp only[aS,bq]at h;obtain⟨rfl,_,_⟩:=h;exact rfl
 simp only[aS,bq]at h;obtain⟨rfl,_,rfl⟩:=h;rw[aZ.1.wrap];exact rfl
def k4(P:Program)(op:BinOp)(t:TypeId)(x y:Operand)(u v c:Value):Prop:=
 ∀w:World,((do eqGuard op t x y u v;binOp op t u v:Sem Value)).run P w=.ok c w
def H7(op:BinOp)(k:IntKind)(x y:Int)(ans:List b4):i':=
 match op with
 | .add=>arith k (x+y) ans
 | .sub=>arith k (x-y) ans
 | .mul=>arith k (x*y) ans
 | .quo=>(arith k (x.tdiv y) ans).map fun r=>(r.1,r.2.1,(y≠0)::r.2.2)
 | .rem=>some (.one (.v (.int k (x.tmod y))),ans,[y≠0])
 | .eql=>some (.one (.a' (x==y)),ans,[])
 | .neq=>some (.one (.a' (x != y)),ans,[])
 | .lss=>some (.one (.a' (decide (x<y))),ans,[])
 | .leq=>some (.one (.a' (decide (x<=y))),ans,[])
 | .gtr=>some (.one (.a' (decide (x>y))),ans,[])
 | .geq=>some (.one (.a' (decide (x>=y))),ans,[])
 | _=>none
variable{P:Program}{op:BinOp}
theorem ajO{x y:Int}(t:TypeId)(Yb Yc:Operand)
  (h:H7 op k x y ans=some (p,b',obs)) (aZ:cA obs):
  ∃v,((do eqGuard op t Yb Yc (.int k x) (.int k y);binOp op t (.int k x) (.int k y):Sem Value)).run P w=.ok v w/\cE (Sat w ω τ) p v:=by
 rw[eqGuard_at_int];simp only[Sem.run_bind,Sem.run_pure,Result.andThen_ok];cases op<;>simp only[H7,aS,bq,reduceCtorEq]at h
 case add=>exact⟨_,by rw[binOp_add];rfl,wG h aZ⟩
 case sub=>exact⟨_,by rw[binOp_sub];rfl,wG h aZ⟩
 case mul=>exact⟨_,by rw[binOp_mul];rfl,wG h aZ⟩
 case quo=>
  rw[bX]at h;obtain⟨⟨pk,cx,pg⟩,h1,U⟩:=h;simp only[bq]at U;obtain⟨rfl,rfl,rfl⟩:=U;refine⟨_,?_,wG h1 aZ.2⟩;rw[binOp_quo];simp[Op.intDiv,aZ.1]
 case rem=>
  obtain⟨rfl,_,rfl⟩:=h;refine⟨_,?_,rfl⟩;rw[binOp_rem];simp[Op.intDiv,aZ.1]
 case eql=>obtain⟨rfl,_,rfl⟩:=h;exact⟨_,by rw[binOp_eql];rfl,rfl⟩
 case neq=>obtain⟨rfl,_,rfl⟩:=h;exact⟨_,by rw[binOp_neq];rfl,rfl⟩
 case lss=>obtain⟨rfl,_,rfl⟩:=h;exact⟨_,by rw[binOp_lss];rfl,rfl⟩
 case leq=>obtain⟨rfl,_,rfl⟩:=h;exact⟨_,by rw[binOp_leq];rfl,rfl⟩
 case gtr=>obtain⟨rfl,_,rfl⟩:=h;exact⟨_,by rw[binOp_gtr];rfl,rfl⟩
 case geq=>obtain⟨rfl,_,rfl⟩:=h;exact⟨_,by rw[binOp_geq];rfl,rfl⟩
def aE.value(p:aE):Option Value:=
 match p with
 | .aF (.one l)=>l.val
 | p=>p.vals.map fun xs=>.agg xs.toArray
theorem aE.xm{x:Value}(h:p.value=some x)(ai:cE (Sat w ω τ) p y):y=x:=by
 unfold aE.value at h;split at h
 ·exact az.TN h ai
 rw[bX]at h;obtain⟨xs,h1,rfl⟩:=h;exact aE.asw h1 ai
def u2(P:Program)(t:TypeId):Option Bool:=
 match P.underlying t with
 | some (.struct _) | some (.array _ _)=>some true
 | some _=>some false
 | none=>none
variable{t:TypeId}
theorem wH{b:Bool}(h:u2 P t=some b)(w:World):(isAgg t).run P w=.ok b w:=by
 unfold u2 at h;unfold isAgg;split at h
 ·rename_i hu;simp only[aS]at h;subst h;simp[run_underlying hu]
 ·rename_i hu;simp only[aS]at h;subst h;simp[run_underlying hu]
 ·rename_i d h1 U hu;simp only[aS]at h;subst h;rw[Sem.run_bind,run_underlying hu];cases d<;>first | rfl | (exact absurd rfl (h1 _)) | (exact absurd rfl (U _ _))
 cases h
def Cb(P:Program)(t:TypeId)(cs:Array Value)(off:Nat):Option Value:=
 match u2 P t,P.info? t with
 | some true,some i=>some (.agg (cs.extract off (off+i.size)))
 | some false,_=>cs[off]?
 | _,_=>none
variable{v:Value}
theorem Oc{cs:Array Value}{off:Nat}(h:Cb P t cs off=some v)(w:World):(part t cs off).run P w=.ok v w:=by
 unfold Cb at h;split at h
 ·rename_i i e1 e2;simp only[aS]at h;subst h;simp[part,wH e1,sizeOf,typeInfo,e2]
 ·rename_i e1;simp[part,wH e1,h]
 cases h
def xR(P:Program)(f:TypeId->Value->Value->Option Bool)(xs ys:Array Value):List Field->Option Bool
 | []=>some true
 | fd::r=>
  if fd.name = "_" then none else
  match Cb P fd.type xs fd.offset,Cb P fd.type ys fd.offset with
  | some a,some b=>
   match f fd.type a b with
   | some c=>
    match r with
    | []=>some c
    | r=>(xR P f xs ys r).map fun jc=>c&&jc
   | none=>none
  | _,_=>none
def vI(P:Program):Nat->TypeId->Value->Value->Option Bool
 | 0,_,_,_=>none
 | m+1,t,x,y=>
  match P.underlying t,x,y with
  | some .bool,.bool a,.bool b=>some (a==b)
  | some (.int _),.int k a,.int ch b=>if k=ch then some (a==b) else none
  | some .string,.string a,.string b=>some (a.toList==b.toList)
  | some (.struct ew),.agg xs,.agg ys=>if P.stoodInHeld t then none else xR P (vI P m) xs ys ew.toList
  | _,_,_=>none
theorem N2{d:Nat}{f:TypeId->Value->Value->Option Bool}(b0:∀t x y c,f t x y=some c->∀w,(Op.equalIn d t x y).run P w=.ok c w){xs ys:Array Value}:
  ∀{ew:List Field} {c:Bool},xR P f xs ys ew=some c->∀w,(Op.eqFields d xs ys ew).run P w=.ok c w
 | [],c,h,w=>by simp only[xR,aS]at h;subst h;simp[Op.eqFields]
 | fd::r,c,h,w=>by
  simp only[xR]at h;split at h
  ·cases h
  rename_i a8;split at h
  ·rename_i a b e1 e2;split at h
   ·rename_i c1 cb;simp only [Op.eqFields, bM (show fd.name ≠ "_" from a8), Sem.run_bind, Oc e1, Oc e2, Result.andThen_ok, b0 _ _ _ _ cb, Sem.run_ite];split at h
    ·simp only[aS]at h;subst h;cases c1<;>simp[Op.eqFields]
    ·rw[bX]at h;obtain⟨c2,h1,rfl⟩:=h;have:=N2 b0 h1 w;cases c1<;>simp[this]
   cases h
  cases h
theorem N3:∀{m:Nat} {t:TypeId} {x y:Value} {c:Bool},vI P m t x y=some c->∀(d:Nat) (w:World),(Op.equalIn (d+m) t x y).run P w=.ok c w
 | 0,_,_,_,_,h,_,_=>by cases h
 | m+1,t,x,y,c,h,d,w=>by
  rw[show d+(m+1)=(d+m)+1 from rfl];simp only[vI]at h;split at h
  ·rename_i a b e;simp only[aS]at h;subst h;exact run_equalIn_bool w _ t a b e
  ·rename_i ch k a b8 b e;split at h
   ·rename_i hk;subst hk;simp only[aS]at h;subst h;exact run_equalIn_int w _ t k ch a b e
   cases h
  ·rename_i a b e;simp only[aS]at h;subst h;exact run_equalIn_string w _ t a b e
  ·rename_i ew xs ys e;split at h
   ·cases h
   rename_i ai;have MX:P.fieldsOf t=ew:=by simp[Program.fieldsOf,e]
   rw[run_equalIn_struct w _ t xs ys (by rw[MX];exact e) (by simpa using ai),MX];exact N2 (fun t x y c h w=>N3 h d w) h w
  cases h
def Fb(P:Program)(op:BinOp)(t:TypeId)(u v:Value):Option Bool:=
 match op,u,v with
 | .eql,.agg xs,.agg ys=>if P.eqGuardType P.depth t then none else vI P 20 t (.agg xs) (.agg ys)
 | .neq,.agg xs,.agg ys=>if P.eqGuardType P.depth t then none else (vI P 20 t (.agg xs) (.agg ys)).map fun c=>!c
 | .eql,.bool a,.bool b=>match P.underlying t with | some .bool=>some (a==b) | _=>none
 | .neq,.bool a,.bool b=>match P.underlying t with | some .bool=>some (!(a==b)) | _=>none
 | .eql,.string a,.string b=>match P.underlying t with | some .string=>some (a.toList==b.toList) | _=>none
 | .neq,.string a,.string b=>match P.underlying t with | some .string=>some (!(a.toList==b.toList)) | _=>none
 | _,_,_=>none
theorem ajP{x y:Operand}{u:Value}{c:Bool}(h:Fb P op t u v=some c):k4 P op t x y u v (.bool c):=by
 intro w;have eM:∀{x y:Value} {c:Bool},vI P 20 t x y=some c->(Op.equalIn 10000 t x y).run P w=.ok c w:=fun h=>N3 h 9980 w
 unfold Fb at h;split at h
 ·rename_i xs ys;split at h
  ·cases h
  rename_i av;simp[run_eqGuard_agg w .eql t x y xs ys (by simpa using av),run_eql_struct,eM h]
 ·rename_i xs ys;split at h
  ·cases h
  rename_i av;rw[bX]at h;obtain⟨jc,h1,rfl⟩:=h;simp[run_eqGuard_agg w .neq t x y xs ys (by simpa using av),run_neq_struct,eM h1]
 ·rename_i a b;split at h
  ·rename_i e;simp only[aS]at h;subst h;simp[eqGuard,binOp,run_equal_bool w t a b e]
  cases h
 ·rename_i a b;split at h
  ·rename_i e;simp only[aS]at h;subst h;simp[eqGuard,binOp,run_equal_bool w t a b e]
  cases h
 ·rename_i a b;split at h
  ·simp only[aS]at h;subst h;simp[eqGuard,binOp,Op.stringOp,beq_toListBytes]
  cases h
 ·rename_i a b;split at h
  ·simp only[aS]at h;subst h;simp[eqGuard,binOp,Op.stringOp,beq_toListBytes]
  cases h
 cases h
def H8(P:Program)(op:BinOp)(t:TypeId)(x y:Operand)(p q:aE)(ans:List b4):i':=
 match p.int,q.int with
 | some (k,a),some (ch,b)=>
  match (if k=ch then H7 op k a b ans else none) with
  | some r=>some r
  | none=>
   match ans with
   | .nc (.aF (.one (.v c)))::r=>some (.one (.v c),r,[k4 P op t x y (.int k a) (.int ch b) c])
   | _=>none
 | _,_=>
  match (match p.value,q.value with | some u,some v=>Fb P op t u v | _,_=>none) with
  | some c=>some (.one (.a' c),ans,[])
  | none=>
  match p.value,q.value,ans with
  | some u,some v,.eq c::r=>some (.one (.a' c),r,[k4 P op t x y u v (.bool c)])
  | some u,some v,.nc (.aF (.one (.v c)))::r=>some (.one (.v c),r,[k4 P op t x y u v c])
  | _,_,_=>none
theorem ajQ{x y:Operand}{q r:aE}{u:Value}
  (hp:cE (Sat w ω τ) p u) (aK:cE (Sat w ω τ) q v) (h:H8 P op t x y p q ans=some (r,b',obs)) (aZ:cA obs):
  ∃z,((do eqGuard op t x y u v;binOp op t u v:Sem Value)).run P w=.ok z w/\cE (Sat w ω τ) r z:=by
 unfold H8 at h;split at h
 ·rename_i k a ch b e1 e2;rw[aE.mR e1 hp,aE.mR e2 aK];split at h
  ·rename_i lH cb;simp only[aS]at h;subst h;split at cb
   ·rename_i hk;subst hk;exact ajO t x y cb aZ
   cases cb
  split at h
  ·rename_i c lH _;simp only[aS,bq]at h;obtain⟨rfl,_,rfl⟩:=h;exact⟨_,aZ.1 w,rfl⟩
  cases h
 split at h
 ·rename_i c bB;simp only[aS,bq]at h;obtain⟨rfl,_,_⟩:=h;split at bB
  ·rename_i sa oq e1 e2;rw[aE.xm e1 hp,aE.xm e2 aK];exact⟨_,ajP bB w,rfl⟩
  cases bB
 split at h
 ·rename_i sa oq c lH e1 e2;simp only[aS,bq]at h;obtain⟨rfl,_,rfl⟩:=h;rw[aE.xm e1 hp,aE.xm e2 aK];exact⟨_,aZ.1 w,rfl⟩
 ·rename_i sa oq c lH e1 e2;simp only[aS,bq]at h;obtain⟨rfl,_,rfl⟩:=h;rw[aE.xm e1 hp,aE.xm e2 aK];exact⟨_,aZ.1 w,rfl⟩
 cases h
end Go.Sx
namespace Go.Sx
open Go.RowKit
def Tag.DS:Tag->Tag
 | .free=>.free
 | .own t=>.ro t
 | .ro t=>.ro t
theorem Tag.K2{t:Tag}{q dE:List (Nat×Nat)}{o:c0}(h:t.R q o):t.DS.R dE o:=by
 cases t with
 | free=>exact h
 | own s=>exact .inr ⟨q,h⟩
 | ro s=>exact h
variable{τ:Nat->Nat×Value}
theorem Tag.K3{t:Tag}{y:Nat×Value}:t.DS.dJ τ y:=by cases t<;>exact trivial
def D.leaf(t:Tag):D->az
 | .v (.bool c)=>.a' c
 | .v x=>.v x
 | .J k es=>.J t.DS k es
 | .ptr ds=>match t with | .free=>.ha ds 0 | _=>.cj
 | .cl g br=>match t with | .free=>.fd (.cl g br) | _=>.cj
variable{w:World}{ω:Own}
theorem D.du{τ:Nat->Nat×Value}{t:Tag}{p:Nat×Nat}{d:D}{u:Value}(h:bQ w ω (fun q=>t.R (p::q)) d u):Sat w ω τ (d.leaf t) u:=by
 cases d with
 | v x=>
  have e:u=x:=by cases h;rfl
  subst e;unfold D.leaf;split
  ·rename_i h;cases h;exact rfl
  ·rename_i h;cases h;exact rfl
  ·grind
  ·grind
  grind
 | J k es=>exact⟨h.frame fun b q aw aK=>⟨Tag.K2 aK,rfl⟩,Tag.K3⟩
 | ptr ds=>
  cases t with
  | free=>
   have U:bQ w ω Tag.free.R (.ptr ds) u:=h;have ax:=U;cases ax with
   | ptr R ds b arr ty cL us aw dG ai hu aG=>exact⟨b,rfl,U⟩
  | own s=>exact trivial
  | ro s=>exact trivial
 | cl g br=>
  cases t with
  | free=>exact h
  | own s=>exact trivial
  | ro s=>exact trivial
def D.NL(t i j:Nat):D->az
 | .J k es=>.aO t i j k es .here
 | d=>d.leaf (.own t)
def sU(t i:Nat):Nat->List D->List az
 | _,[]=>[]
 | j,d::ds=>d.NL t i j::sU t i (j+1) ds
theorem N4(t i:Nat):∀(ds:List D) (j x:Nat),(sU t i j ds)[x]?=(ds[x]?).map (D.NL t i (j+x))
 | [],_,_=>by simp[sU]
 | d::ds,j,0=>by simp[sU]
 | d::ds,j,x+1=>by
  simp only[sU,nD,N4 t i ds (j+1) x];rw[show j+1+x=j+(x+1) by omega]
theorem N5(t i:Nat):∀(ds:List D) (j:Nat),(sU t i j ds).length=ds.length
 | [],_=>rfl
 | d::ds,j=>by simp[sU,N5 t i ds (j+1)]
def H9(P:Program)(s:TypeId)(f:Nat):Option Nat:=
 match P.underlying s with
 | some (.struct ew)=>
  match ew[f]? with
  | some fd=>
   match P.info? fd.type with
   | some i=>if i.size=0 then none else some fd.offset
   | none=>none
  | none=>none
 | _=>none
theorem pr(b off n:Nat):(⟨b,off,none⟩:Addr).add n=⟨b,off+n,none⟩:=by
 simp_all[Addr.add]
variable{P:Program}{off:Nat}
theorem Co{s:TypeId}{f:Nat}(h:H9 P s f=some off)(w:World)(b o:Nat):
  (Instr.fieldAt s (.pointer (some ⟨b,o,none⟩)) f).run P w=.ok (.pointer (some ⟨b,o+off,none⟩)) w:=by
 unfold H9 at h;split at h
 ·rename_i ew hu;split at h
  ·rename_i fd b0;split at h
   ·rename_i i hi;split at h
    ·cases h
    rename_i bl;simp only[aS]at h;subst h;simp[Instr.fieldAt,run_underlying hu,b0,Instr.sureAddr,fieldPlace,sizeOf,typeInfo,hi,bl,pr]
   cases h
  cases h
 cases h
def H'(P:Program)(s:TypeId)(p:aE)(f:Nat)(ans:List b4):i':=
 match H9 P s f,p.leaf with
 | some off,some (.ptr id o)=>some (.one (.ptr id (o+off)),ans,[])
 | some off,some (.cB t k es i j)=>some (.one (.cB t k es i (j+off)),ans,[])
 | some off,some (.ha ds o)=>some (.one (.ha ds (o+off)),ans,[])
 | some off,some (.aO t i j k es (.at_ x y))=>some (.one (.aO t i j k es (.at_ x (y+off))),ans,[])
 | _,_=>none
variable{p r:aE}{v:Value}{ans b':List b4}{obs:List Prop}
theorem ajR{s:TypeId}{f:Nat}
  (hp:cE (Sat w ω τ) p v) (h:H' P s p f ans=some (r,b',obs)):
  ∃z,(Instr.fieldAt s v f).run P w=.ok z w/\cE (Sat w ω τ) r z:=by
 unfold H' at h;split at h
 ·rename_i off id o e1 e2;simp only[aS,bq]at h;obtain⟨rfl,_,rfl⟩:=h;obtain⟨b,aw,rfl⟩:=aE.du e2 hp;exact⟨_,Co e1 w b o,b,aw,rfl⟩
 ·rename_i off t k es i j e1 e2;simp only[aS,bq]at h;obtain⟨rfl,_,rfl⟩:=h;obtain⟨b,o,cap,rfl,hi,aH,bH⟩:=aE.du e2 hp;exact⟨_,Co e1 w b _,b,o,cap,by grind,hi,aH,bH⟩
 ·rename_i off ds o e1 e2;simp only[aS,bq]at h;obtain⟨rfl,_,rfl⟩:=h;obtain⟨b,rfl,aH⟩:=aE.du e2 hp;exact⟨_,Co e1 w b o,b,rfl,aH⟩
 ·rename_i off t i j k es x y e1 e2;simp only[aS,bq]at h;obtain⟨rfl,_,rfl⟩:=h;obtain⟨u,⟨b,o,cap,rfl,rfl,ak⟩,aH,hm⟩:=aE.du e2 hp;exact⟨_,Co e1 w b _,_,⟨b,o,cap,rfl,by grind,ak⟩,aH,fun _=>hm rfl⟩
 cases h
def ps(P:Program)(t:TypeId):Option (TypeId×Nat):=
 match P.underlying t with
 | some (.slice e)=>(P.info? e).map fun i=>(e,i.size)
 | _=>none
variable{t:TypeId}
theorem u3{e:TypeId}{k:Nat}(h:ps P t=some (e,k)):P.underlying t=some (.slice e)/\∃i,P.info? e=some i/\i.size=k:=by
 unfold ps at h;split at h
 ·rename_i e' hu;rw[bX]at h;grind
 cases h
def az.flat:az->az
 | .c' _ k es=>.J .free k es
 | l=>l
def aE.jT(p:aE):Option az:=p.leaf.map az.flat
variable{y:Value}{l:az}
theorem aE.uz(h:p.jT=some l)(ai:cE (Sat w ω τ) p y):Sat w ω τ l y:=by
 unfold aE.jT at h;rw[bX]at h;obtain⟨fo,b5,rfl⟩:=h;have:=aE.du b5 ai;unfold az.flat;split
 ·exact⟨this.1,aa⟩
 exact this
def HE(P:Program)(t:TypeId)(p q:aE)(ans:List b4):i':=
 match ps P t,p.jT,q.int with
 | some (_,k),some (.J tag ch es),some (_,n)=>if k=ch then some (.one (.cB tag ch es n.toNat 0),ans,[0<=n,n<(es.length:Int)]) else none
 | some (_,k),some (.aO s i j ch es .here),some (_,n)=>if k=ch then some (.one (.aO s i j ch es (.at_ n.toNat 0)),ans,[0<=n,n<(es.length:Int)]) else none
 | _,_,_=>none
theorem ajS{q:aE}{u:Value}
  (hp:cE (Sat w ω τ) p u) (aK:cE (Sat w ω τ) q v) (h:HE P t p q ans=some (r,b',obs)) (aZ:cA obs):
  ∃z,(Instr.indexAt t u v).run P w=.ok z w/\cE (Sat w ω τ) r z:=by
 unfold HE at h;split at h
 ·rename_i e k tag ch es yI n e1 e2 cb;split at h
  ·rename_i hk;subst hk;simp only[aS,bq]at h;obtain⟨rfl,_,rfl⟩:=h;obtain⟨hu,i,hi,bl⟩:=u3 e1;obtain⟨aH,bH⟩:=aE.uz e2 hp;rw[aE.mR cb aK];have b5:0<=n:=aZ.1;have h1:n<(es.length:Int):=aZ.2.1;cases aH with
   | nil=>grind
   | row R k es b off cap arr ty cL us aw dG al ai hk iL aG=>
    refine⟨.pointer (some ⟨b,off+n.toNat*k+0,none⟩),?_,b,off,cap,rfl,by omega,.row _ k es b off cap arr ty cL us aw dG al ai hk iL aG,bH⟩;simp[Instr.indexAt,run_underlying hu,asIntOf,b5,h1,sizeOf,typeInfo,hi,bl,pr]
  cases h
 ·rename_i e k s Ad Ae ch es yI n e1 e2 cb;split at h
  ·rename_i hk;subst hk;simp only[aS,bq]at h;obtain⟨rfl,_,rfl⟩:=h;obtain⟨hu,i,hi,bl⟩:=u3 e1;obtain⟨hx,rfl,aH,hm⟩:=aE.uz e2 hp;rw[aE.mR cb aK];have b5:0<=n:=aZ.1;have h1:n<(es.length:Int):=aZ.2.1;cases aH with
   | nil=>grind
   | row R k es b off cap arr ty cL us aw dG al ai hk iL aG=>
    refine⟨.pointer (some ⟨b,off+n.toNat*k+0,none⟩),?_,_,⟨b,off,cap,rfl,rfl,by omega⟩,.row _ k es b off cap arr ty cL us aw dG al ai hk iL aG,hm⟩;simp[Instr.indexAt,run_underlying hu,asIntOf,b5,h1,sizeOf,typeInfo,hi,bl,pr]
  cases h
 cases h
theorem ajT{P:Program}{b n:Nat}{arr:Array Value}{ty:TypeId}{cL:Nat×Nat}(aw:w.heap[b]?=some (.cells arr ty cL))(a8:off+n<=arr.size):
  (loadCells ⟨b,off,none⟩ n).run P w=.ok (arr.extract off (off+n)) w:=by
 have ap:((arr.extract off (off+n)).toList).length=n:=by simp;omega
 have:=run_loadCells_list (P:=P) w ⟨b,off,none⟩ (arr.extract off (off+n)).toList (fun j v bz=>by
  rw[pr,cell_of_row w b (off+j) arr ty cL aw];grind)
 rw[ap,Array.toArray_toList]at this;exact this
def qq(agg:Bool)(n:Nat)(ls:List az)(off:Nat):Option aE:=
 if agg then (if off+n<=ls.length then some (.agg ((ls.drop off).take n)) else none)
 else (ls[off]?).map fun l=>.one l
theorem wI{P:Program}{ω:Own}{τ:Nat->Nat×Value}{agg:Bool}{i:TypeInfo}{ls:List az}(ah:u2 P t=some agg)(hi:P.info? t=some i)
  (h:qq agg i.size ls off=some p) {b base:Nat} {arr:Array Value} {ty:TypeId} {cL:Nat×Nat} (aw:w.heap[b]?=some (.cells arr ty cL)) (dN:base+ls.length<=arr.size)
  (ai:∀(j:Nat) (l:az),ls[j]?=some l->∃u,arr[base+j]?=some u/\Sat w ω τ l u):
  ∃z,(loadVar t ⟨b,base+off,none⟩).run P w=.ok z w/\cE (Sat w ω τ) p z:=by
 unfold qq at h;cases agg with
 | true=>
  simp only[gO]at h;split at h
  ·rename_i hle;simp only[aS]at h;subst h;refine⟨.agg (arr.extract (base+off) (base+off+i.size)),?_,?_⟩
   ·simp[loadVar,wH ah,sizeOf,typeInfo,hi,ajT (P:=P) aw (show base+off+i.size<=arr.size by omega)]
   refine⟨_,rfl,by simp;omega,fun j l ap=>?_⟩;grind
  cases h
 | false=>
  simp only[oy,lK,bX]at h;obtain⟨l,ap,rfl⟩:=h;obtain⟨u,h1,U⟩:=ai _ l ap;refine⟨u,?_,U⟩;simp[loadVar,wH ah,cell_of_row w b (base+off) arr ty cL aw,h1]
def Cp(P:Program)(st:aD)(t:TypeId)(p:aE)(ans:List b4):i':=
 match u2 P t,P.info? t,p.leaf with
 | some agg,some i,some (.ptr id off)=>
  match df id st.boxes with
  | some ls=>(qq agg i.size ls off).map fun r=>(r,ans,[])
  | none=>none
 | some agg,some i,some (.cB tag k es x j)=>
  match ans with
  | .el ds::r=>if ds.length=k then (qq agg i.size (ds.map (D.leaf tag)) j).map fun v=>(v,r,[es[x]?=some ds]) else none
  | .sub::.el ds::r=>
   match tag with
   | .own t=>if ds.length=k then (qq agg i.size (sU t x 0 ds) j).map fun v=>(v,r,[es[x]?=some ds]) else none
   | _=>none
  | _=>none
 | some agg,some i,some (.ha ds off)=>(qq agg i.size (ds.map (D.leaf .free)) off).map fun r=>(r,ans,[])
 | some agg,some i,some (.aO s _ _ k es (.at_ x y))=>
  match ans with
  | .el ds::r=>if ds.length=k then (qq agg i.size (ds.map (D.leaf (.ro s))) y).map fun v=>(v,r,[es[x]?=some ds]) else none
  | _=>none
 | _,_,_=>none
variable{w0:ee}{a:Act}{st:aD}
theorem ajU
  (aU:cr w0 st a w ω τ) (hp:cE (Sat w ω τ) p v) (h:Cp P st t p ans=some (r,b',obs)) (aZ:cA obs):
  ∃z,(Instr.loadAt t v).run P w=.ok z w/\cE (Sat w ω τ) r z:=by
 unfold Cp at h;split at h
 ·rename_i agg i id off e1 e2 cb;split at h
  ·rename_i ls cY;rw[bX]at h;obtain⟨lH,h1,h⟩:=h;simp only[bq]at h;obtain⟨rfl,rfl,rfl⟩:=h;obtain⟨b,aw,rfl⟩:=aE.du cb hp;obtain⟨da,arr,ty,eh,BY,FR,dN,ei⟩:=aU.boxes id ls cY;have:=BY b aw;subst this;have:=wI (P:=P) e1 e2 h1 FR (base:=0) (by omega) (fun j l ap=>by simpa using ei j l ap);grind[Instr.loadAt,Instr.sureAddr]
  cases h
 ·rename_i agg i tag k es x j e1 e2 cb;split at h
  ·rename_i ds gN;split at h
   ·rename_i hlen;rw[bX]at h;obtain⟨lH,h1,h⟩:=h;simp only[bq]at h;obtain⟨rfl,rfl,rfl⟩:=h;have ey:es[x]?=some ds:=aZ.1;obtain⟨b,off,cap,rfl,hi,aH,bH⟩:=aE.du cb hp;cases aH with
    | nil=>simp at hi
    | row R k es b off cap arr ty cL us aw dG al ai hk hu aG=>
     have M3:x*k+k<=cap*k:=by
      have:(x+1)*k<=cap*k:=gW k (by omega);grind
     have:=wI (P:=P) (τ:=τ) (ω:=ω) e1 e2 h1 aw (base:=off+x*k) (by grind) (fun ii l ap=>by
      rw[dr,bX]at ap;obtain⟨d,U,rfl⟩:=ap;have al:cQ es x ii=some d:=by grind[cQ]
      exact⟨us x ii,hu x ii d al,D.du (aG x ii d al)⟩)
     grind[Instr.loadAt,Instr.sureAddr]
   cases h
  ·rename_i ds gN;split at h
   ·rename_i t;split at h
    ·rename_i hlen;rw[bX]at h;obtain⟨lH,h1,h⟩:=h;simp only[bq]at h;obtain⟨rfl,rfl,rfl⟩:=h;have ey:es[x]?=some ds:=aZ.1;obtain⟨b,off,cap,rfl,hi,aH,bH⟩:=aE.du cb hp;cases aH with
     | nil=>simp at hi
     | row R k es b off cap arr ty cL us aw dG al ai hk hu aG=>
      have M3:x*k+k<=cap*k:=by
       have:(x+1)*k<=cap*k:=gW k (by omega);grind
      have:=wI (P:=P) (τ:=τ) (ω:=ω) e1 e2 h1 aw (base:=off+x*k) (by grind[N5]) (fun ii l ap=>by
       rw[N4,bX]at ap;obtain⟨d,U,rfl⟩:=ap;rw[dF];have al:cQ es x ii=some d:=by grind[cQ]
       have BF:=aG x ii d al;refine⟨us x ii,hu x ii d al,?_⟩;cases d with
       | J b8 bL=>exact⟨_,rfl,BF,fun _=>⟨k,b,off,es.length,cap,arr,ty,cL,bH,dG,aw,hu x ii _ al⟩⟩
       | v z=>exact D.du (t:=.own t) (p:=(x,ii)) BF
       | ptr ds=>exact D.du (t:=.own t) (p:=(x,ii)) BF
       | cl g cs=>exact D.du (t:=.own t) (p:=(x,ii)) BF)
      grind[Instr.loadAt,Instr.sureAddr]
    cases h
   cases h
  cases h
 ·rename_i agg i ds off e1 e2 cb;rw[bX]at h;obtain⟨lH,h1,h⟩:=h;simp only[bq]at h;obtain⟨rfl,rfl,rfl⟩:=h;obtain⟨b,rfl,aH⟩:=aE.du cb hp;have et:bQ w ω Tag.free.R (.ptr ds) (.pointer (some ⟨b,0,none⟩)):=aH;cases et with
  | ptr R ds b arr ty cL us aw dG ai hu aG=>
   have:=wI (P:=P) (τ:=τ) (ω:=ω) e1 e2 h1 aw (base:=0) (by simp;omega) (fun ii l ap=>by
    rw[dr,bX]at ap;obtain⟨d,U,rfl⟩:=ap;exact⟨us ii,by grind,D.du (p:=(0,ii)) (aG ii d U)⟩)
   grind[Instr.loadAt,Instr.sureAddr]
 ·rename_i agg i s Ad Ae k es x y e1 e2 cb;split at h
  ·rename_i ds gN;split at h
   ·rename_i hlen;rw[bX]at h;obtain⟨lH,h1,h⟩:=h;simp only[bq]at h;obtain⟨rfl,rfl,rfl⟩:=h;have ey:es[x]?=some ds:=aZ.1;obtain⟨hx,⟨b,off,cap,rfl,rfl,hi⟩,aH,hm⟩:=aE.du cb hp;cases aH with
    | nil=>simp at hi
    | row R k es b off cap arr ty cL us aw dG al ai hk hu aG=>
     have M3:x*k+k<=cap*k:=by
      have:(x+1)*k<=cap*k:=gW k (by omega);grind
     have:=wI (P:=P) (τ:=τ) (ω:=ω) e1 e2 h1 aw (base:=off+x*k) (by grind) (fun ii l ap=>by
      rw[dr,bX]at ap;obtain⟨d,U,rfl⟩:=ap;have al:cQ es x ii=some d:=by grind[cQ]
      refine⟨us x ii,hu x ii d al,D.du (t:=.ro s) (p:=(x,ii)) ((aG x ii d al).frame fun b q _ aK=>⟨.inr ⟨_,aK⟩,rfl⟩)⟩)
     grind[Instr.loadAt,Instr.sureAddr]
   cases h
  cases h
 cases h
def HF(P:Program)(t:TypeId)(p:aE)(ans:List b4):i':=
 match P.underlying t,p.jT with
 | some (.slice _),some (.J _ _ es)=>some (.one (.v (.int .i64 es.length)),ans,[])
 | some (.slice _),some (.v (.slice _ n _))=>some (.one (.v (.int .i64 n)),ans,[])
 | some (.slice _),some (.aO _ _ _ _ es .here)=>some (.one (.v (.int .i64 es.length)),ans,[])
 | some (.slice _),some (.aO _ _ _ _ es .kL)=>some (.one (.v (.int .i64 es.length)),ans,[])
 | some .string,some (.v (.string s))=>some (.one (.v (.int .i64 s.size)),ans,[])
 | _,_=>none
theorem bQ.len{R:List (Nat×Nat)->c0->Prop}{k:Nat}{es:List (List D)}(h:bQ w ω R (.J k es) y):∃b c,y=.slice b es.length c:=by
 cases h with
 | nil=>simp_all
 | row R k es b off cap arr ty cL us aw dG al ai hk hu aG=>grind
theorem ajV{ty:TypeId}
  (hp:cE (Sat w ω τ) p v) (h:HF P t p ans=some (r,b',obs)):
  ∃z,(Builtin.len_ #[t] ty #[v]).run P w=.ok z w/\cE (Sat w ω τ) r z:=by
 unfold HF at h;split at h
 ·rename_i e TK k es e1 e2;simp only[aS,bq]at h;obtain⟨rfl,_,rfl⟩:=h;obtain⟨aH,_⟩:=aE.uz e2 hp;obtain⟨b,c,rfl⟩:=aH.len;exact⟨_,by simp[Builtin.len_,run_underlying e1];rfl,rfl⟩
 ·rename_i e b n c e1 e2;simp only[aS,bq]at h;obtain⟨rfl,_,rfl⟩:=h;have:v=.slice b n c:=aE.uz e2 hp;subst this;exact⟨_,by simp[Builtin.len_,run_underlying e1];rfl,rfl⟩
 ·rename_i e s Ad Ae k es e1 e2;simp only[aS,bq]at h;obtain⟨rfl,_,rfl⟩:=h;obtain⟨hx,rfl,aH,_⟩:=aE.uz e2 hp;obtain⟨b,c,rfl⟩:=aH.len;exact⟨_,by simp[Builtin.len_,run_underlying e1];rfl,rfl⟩
 ·rename_i e s Ad Ae k es e1 e2;simp only[aS,bq]at h;obtain⟨rfl,_,rfl⟩:=h;obtain⟨hx,rfl,aH,_⟩:=aE.uz e2 hp;obtain⟨b,c,rfl⟩:=aH.len;exact⟨_,by simp[Builtin.len_,run_underlying e1];rfl,rfl⟩
 ·rename_i s e1 e2;simp only[aS,bq]at h;obtain⟨rfl,_,rfl⟩:=h;have:v=.string s:=aE.uz e2 hp;subst this;exact⟨_,by simp[Builtin.len_,run_underlying e1];rfl,rfl⟩
 cases h
theorem N6{es:List (List D)}{l n i j:Nat}{d:D}(h:cQ ((es.drop l).take n) i j=some d):i<n/\cQ es (l+i) j=some d:=by
 grind[cQ]
theorem bQ.sub{R hS:List (Nat×Nat)->c0->Prop}{k:Nat}{es:List (List D)}{b cap:Nat}(h:bQ w ω R (.J k es) (.slice (some ⟨b,off,none⟩) es.length cap))
  {l m:Nat} (ap:l<=m) (hm:m<=es.length) (Bx:∀o,R [] o->hS [] o) (atC:∀i j q o,l<=i->R ((i,j)::q) o->hS ((i-l,j)::q) o):
  bQ w ω hS (.J k ((es.drop l).take (m-l))) (sliced (some ⟨b,off,none⟩) l m cap k):=by
 cases h with
 | nil=>
  grind[sliced,bQ.nil]
 | row R k es b off cap arr ty cL us aw dG al ai hk hu aG=>
  have hlen:((es.drop l).take (m-l)).length=m-l:=by simp;omega
  have hmul:l*k+(cap-l)*k=cap*k:=by rw[<-gB];grind
  have key:∀pg:Nat,(cap=l\/pg=off+l*k)->pg+(cap-l)*k<=arr.size->
    bQ w ω hS (.J k ((es.drop l).take (m-l))) (.slice (some ⟨b,pg,none⟩) (m-l) (cap-l)):=by
   intro pg aZ dN;have bl:cap=l->m-l=0:=fun e=>by omega
   have aH:=bQ.row (w:=w) (ω:=ω) hS k ((es.drop l).take (m-l)) b pg (cap-l) arr ty cL (fun i j=>us (l+i) j) aw (Bx _ dG) (by omega) dN
    (fun e he=>hk e (EI (AX he)))
    (fun i j d uf=>by
     obtain⟨hi,MP⟩:=N6 uf;grind)
    (fun i j d uf=>by
     obtain⟨hi,MP⟩:=N6 uf;refine (aG (l+i) j d MP).frame fun b q _ aK=>⟨?_,rfl⟩
     grind)
   grind
  unfold sliced;split
  ·grind
  simp only[qL,pr];grind
def az.view:az->az
 | .aO t _ _ k es .here=>.J (.ro t) k es
 | .aO t _ _ k es .kL=>.J (.ro t) k es
 | .c' _ k es=>.J .free k es
 | l=>l
theorem az.K7(ai:Sat w ω τ l y):Sat w ω τ l.view y:=by
 unfold az.view;split
 ·obtain⟨hx,rfl,aH,_⟩:=ai;exact⟨aH.frame fun b q _ aK=>⟨.inr ⟨_,aK⟩,rfl⟩,aa⟩
 ·obtain⟨hx,rfl,aH,_⟩:=ai;exact⟨aH.frame fun b q _ aK=>⟨.inr ⟨_,aK⟩,rfl⟩,aa⟩
 ·exact⟨ai.1,aa⟩
 exact ai
theorem aE.K7(h:p.leaf.map az.view=some l)(ai:cE (Sat w ω τ) p y):Sat w ω τ l y:=by
 rw[bX]at h;obtain⟨fo,b5,rfl⟩:=h;grind[az.K7,aE.du]
def kY(st:aD):Option Operand->Option (Option Int)
 | none=>some none
 | some x=>((st.bh x).int).map fun p=>some p.2
def Cq(P:Program)(st:aD)(t:TypeId)(p:aE)(cP hi h0:Option Operand)(ans:List b4):i':=
 match ps P t,p.leaf.map az.view,h0 with
 | some (_,k),some (.J tag ch es),none=>
  if k=ch then
   match kY st cP,kY st hi with
   | some l,some h=>some (.one (.J tag.DS k ((es.drop (l.getD 0).toNat).take ((h.getD es.length).toNat-(l.getD 0).toNat))),ans,[0<=l.getD 0,l.getD 0<=h.getD es.length,h.getD es.length<=es.length])
   | _,_=>none
  else none
 | _,_,_=>none
theorem y3{len cap:Nat}{cP hi:Option Value}{l h:Int}(ap:cP=none/\l=0\/∃k,cP=some (.int k l))(bH:hi=none/\h=len\/∃k,hi=some (.int k h))
  (b5:0<=l) (h1:l<=h) (U:h<=cap):(Instr.sliceBounds true len cap cP hi none).run P w=.ok (l.toNat,h.toNat,cap) w:=by
 have ato:(h.toNat:Int)=h:=Int.toNat_of_nonneg (by omega);have ax:0<=h:=by omega
 rcases ap with⟨rfl,rfl⟩ | ⟨k,rfl⟩<;>rcases bH with⟨rfl,rfl⟩ | ⟨ch,rfl⟩<;>
  simp_all[Instr.sliceBounds,run_sliceBound]
theorem y4(aU:cr w0 st a w ω τ){x:Option Operand}{r:Option Int}(h:kY st x=some r):
  (x.map a.eval=none/\r=none)\/∃k n,x.map a.eval=some (.int k n)/\r=some n:=by
 cases x with
 | none=>simp_all[kY]
 | some x=>
  simp only[kY,bX]at h;obtain⟨⟨k,n⟩,h1,U⟩:=h;exact .inr ⟨k,n,by simp[aE.mR h1 (aU.bh x)],U.symm⟩
theorem ajW{cP hi h0:Option Operand}
  (aU:cr w0 st a w ω τ) (hp:cE (Sat w ω τ) p v) (h:Cq P st t p cP hi h0 ans=some (r,b',obs)) (aZ:cA obs):
  ∃z,(Instr.sliceAt t v (cP.map a.eval) (hi.map a.eval) (h0.map a.eval)).run P w=.ok z w/\cE (Sat w ω τ) r z:=by
 unfold Cq at h;split at h
 ·rename_i e k tag ch es e1 e2;split at h
  ·rename_i hk;subst hk;split at h
   ·rename_i l bH cb d';simp only[aS,bq]at h;obtain⟨rfl,_,rfl⟩:=h;obtain⟨hu,i,nW,bl⟩:=u3 e1;obtain⟨aH,_⟩:=aE.K7 e2 hp;obtain⟨cy,ca,cC,_⟩:=aZ;have ax:=y4 aU cb;have aJ:=y4 aU d';have oX:(cP.map a.eval=none/\l.getD 0=0)\/∃k,cP.map a.eval=some (.int k (l.getD 0)):=by
     grind
    have rc:(hi.map a.eval=none/\bH.getD es.length=es.length)\/∃k,hi.map a.eval=some (.int k (bH.getD es.length)):=by
     grind
    cases aH with
    | nil _ _ a0=>
     simp only[dR] at*;have bB:l.getD 0=0:=by omega
     have VM:bH.getD ((0:Nat):Int)=0:=by omega
     refine⟨.slice a0 0 0,?_,?_⟩
     ·simp only[Instr.sliceAt,Sem.run_bind,run_underlying hu,Result.andThen_ok,Instr.slice,Option.map_none];rw[y3 oX rc cy ca cC];simp_all[sizeOf,typeInfo]
     refine⟨?_,Tag.K3⟩;simp only[List.drop_nil,List.take_nil];exact .nil _ _ _
    | row R k es b off cap arr ty cL us aw dG al ai hk iL aG=>
     refine⟨sliced (some ⟨b,off,none⟩) (l.getD 0).toNat (bH.getD es.length).toNat cap k,?_,?_,Tag.K3⟩
     ·simp only[Instr.sliceAt,Sem.run_bind,run_underlying hu,Result.andThen_ok,Instr.slice,Option.map_none];rw[y3 oX rc cy ca (by omega)];simp_all[sizeOf,typeInfo,sliced]
     exact bQ.sub (.row _ k es b off cap arr ty cL us aw dG al ai hk iL aG) (by omega) (by omega) (fun o h=>Tag.K2 h) (fun i j q o _ h=>Tag.K2 h)
   cases h
  cases h
 cases h
end Go.Sx
namespace Go.Sx
open Go.RowKit
def az.ok:az->Bool
 | .cj=>false
 | .v x=>x.oneCell'
 | _=>true
variable{w:World}{ω:Own}{y:Value}
theorem bQ.oa{R:List (Nat×Nat)->c0->Prop}{d:D}(h:bQ w ω R d y):y.oneCell'=true:=by
 cases h with
 | v R x h1=>exact h1
 | nil=>rfl
 | row=>rfl
 | ptr=>rfl
 | cl=>rfl
variable{τ:Nat->Nat×Value}
theorem az.NV{l:az}(h:l.ok=true)(ai:Sat w ω τ l y):y.oneCell'=true:=by
 cases l with
 | cj=>cases h
 | v x=>have:y=x:=ai;subst this;exact h
 | a' c=>have:y=.bool c:=ai;subst this;rfl
 | J t k es=>exact ai.1.oa
 | ptr id off=>obtain⟨b,_,rfl⟩:=ai;rfl
 | cB t k es i j=>obtain⟨b,off,cap,rfl,_⟩:=ai;rfl
 | ha ds off=>obtain⟨b,rfl,_⟩:=ai;rfl
 | fd d=>exact bQ.oa ai
 | c' t k es=>exact ai.1.oa
 | fR g ids=>obtain⟨bs,rfl,_⟩:=ai;rfl
 | aO t i j k es m=>
  obtain⟨u,hu,aH,_⟩:=ai;cases m with
  | at_ x y=>obtain⟨b,off,cap,_,rfl,_⟩:=hu;rfl
  | here=>have:y=u:=hu;subst this;exact aH.oa
  | kL=>have:y=u:=hu;subst this;exact aH.oa
 | eX t vs=>obtain⟨b,ty,arr,rfl,_⟩:=ai;rfl
theorem y5(h:y.oneCell'=true):y.cells=#[y]:=by
 cases y<;>first | rfl | grind[Value.oneCell']
def aE.leaves:aE->Option (List az)
 | .aF (.one l)=>if l.ok then some [l] else none
 | .aF (.agg ls)=>if ls.all az.ok then some ls else none
 | _=>none
variable{p:aE}{ls:List az}
theorem aE.wl(h:p.leaves=some ls)(ai:cE (Sat w ω τ) p y):
  jv (Sat w ω τ) ls y.cells/\∀u∈y.cells.toList,u.oneCell'=true:=by
 unfold aE.leaves at h;split at h
 ·rename_i l;split at h
  ·rename_i cJ;simp only[aS]at h;subst h;have h1:=az.NV cJ ai;rw[y5 h1];refine⟨⟨rfl,fun i fU ap=>?_⟩,by grind⟩;cases i with
   | zero=>simp at ap;subst ap;exact⟨y,rfl,ai⟩
   | succ i=>simp at ap
  cases h
 ·rename_i e6;split at h
  ·rename_i cJ;simp only[aS]at h;subst h;obtain⟨vs,rfl,a8,bz⟩:=ai;refine⟨⟨a8,bz⟩,fun u hu=>?_⟩;obtain⟨i,hi⟩:=ow.1 hu;have bJ:i<e6.length:=by
    grind[Value.cells]
   obtain⟨sa,h1,U⟩:=bz i e6[i] (by simp);have e:u=sa:=by
    have:(Value.agg vs).cells.toList[i]?=vs[i]?:=by simp[Value.cells]
    grind
   grind[az.NV,qM]
  cases h
 cases h
theorem N7(off:Nat):∀(vs:List Value) (k:Nat) (cells:Array Value) (i:Nat),off+k+vs.length<=cells.size->
  ((vs.zipIdx k).foldl (fun cs (x:Value×Nat)=>cs.setIfInBounds (off+x.2) x.1) cells)[i]?=if off+k<=i/\i<off+k+vs.length then vs[i-(off+k)]? else cells[i]?
 | [],k,cells,i,_=>by simp;grind
 | v::vs,k,cells,i,h=>by
  simp only[List.zipIdx_cons,List.foldl_cons,hz]at h ⊢;rw[N7 off vs (k+1) _ i (by simp;omega),Array.getElem?_setIfInBounds];grind
theorem N8(off:Nat):∀(l:List (Value×Nat)) (cells:Array Value),(l.foldl (fun cs (x:Value×Nat)=>cs.setIfInBounds (off+x.2) x.1) cells).size=cells.size
 | [],_=>rfl
 | x::l,cells=>by simp_all[List.foldl_cons,N8]
def sk(ls:List az)(off:Nat)(xs:List az):List az:=ls.take off++(xs++ls.drop (off+xs.length))
variable{off:Nat}
theorem N9{xs:List az}{i:Nat}(h:off+xs.length<=ls.length):(sk ls off xs)[i]?=if off<=i/\i<off+xs.length then xs[i-off]? else ls[i]?:=by
 unfold sk;grind
theorem HG{xs:List az}(h:off+xs.length<=ls.length):(sk ls off xs).length=ls.length:=by
 grind[sk]
def pX(place:Nat->Option (Nat×Nat))(ls:List az):List (Nat×aE)->Option (List az)
 | []=>some ls
 | (i,p)::rest=>
  match place i,p.leaves with
  | some (off,size),some xs=>if xs.length=size/\off+size<=ls.length then pX place (sk ls off xs) rest else none
  | _,_=>none
theorem HH{place:Nat->Option (Nat×Nat)}:∀{parts:List (Nat×aE)} {vals:List (Nat×Value)} {ls r:List az} {cells:Array Value},
  parts.length=vals.length->(∀(j:Nat) i p,parts[j]?=some (i,p)->∃v,vals[j]?=some (i,v)/\cE (Sat w ω τ) p v)->pX place ls parts=some r->jv (Sat w ω τ) ls cells->
  ∃out,Instr.fill place cells vals=some out/\jv (Sat w ω τ) r out
 | [],vals,ls,r,cells,a8,_,h,ai=>by
  have:vals=[]:=xt (by grind);subst this;simp only[pX,aS]at h;subst h;exact⟨cells,rfl,ai⟩
 | (i,p)::parts,vals,ls,r,cells,a8,hp,h,ai=>by
  obtain⟨v,bz,ei⟩:=hp 0 i p rfl;cases vals with
  | nil=>simp at bz
  | cons x vals=>
   simp only[kI,aS]at bz;subst bz;simp only[pX]at h;split at h
   ·rename_i off size xs e1 e2;split at h
    ·rename_i al;obtain⟨kQ,ko⟩:=al;obtain⟨⟨dN,yD⟩,_⟩:=aE.wl e2 ei;have we:v.cells.size=size:=by omega
     have nU:off+v.cells.size<=cells.size:=by have:=ai.1;omega
     have fT:jv (Sat w ω τ) (sk ls off xs) (v.cells.zipIdx.foldl (fun cs (c,j)=>cs.setIfInBounds (off+j) c) cells):=by
      have e:v.cells.zipIdx.foldl (fun cs (c,j)=>cs.setIfInBounds (off+j) c) cells=(v.cells.toList.zipIdx 0).foldl (fun cs (x:Value×Nat)=>cs.setIfInBounds (off+x.2) x.1) cells:=by
       rw[<-Array.foldl_toList];simp
      rw[e];refine⟨by rw[N8,HG (by omega)];exact ai.1,fun j l ap=>?_⟩;rw[N9 (by omega)]at ap;rw[N7 off _ 0 _ _ (by simp;omega)];simp only[Mc,mq];by_cases bg:off<=j/\j<off+xs.length
      ·grind
      rw[bG bg]at ap;rw[bG (by omega)];exact ai.2 _ _ ap
     obtain⟨out,h1,U⟩:=HH (parts:=parts) (vals:=vals) (by grind) (fun j fm pk bg=>by have:=hp (j+1) fm pk (by grind);grind) h fT;simp_all[Instr.fill,bG]
    cases h
   cases h
def HI(P:Program)(t:TypeId)(f:Nat):Option (Nat×Nat):=
 match P.underlying t with
 | some (.struct ew)=>
  match ew[f]? with
  | some fd=>(P.info? fd.type).map fun i=>(fd.offset,i.size)
  | none=>none
 | _=>none
def Cr(P:Program)(st:aD)(t:TypeId)(parts:List (Nat×Operand))(ans:List b4):i':=
 match P.underlying t,P.info? t with
 | some (.struct ew),some i=>
  match i.zero with
  | some z=>
   if ew.toList.all fun f=>(P.info? f.type).isSome then
    (pX (HI P t) (z.cells.toList.map .v) (parts.map fun x=>(x.1,st.bh x.2))).map fun ls=>(.agg ls,ans,[])
   else none
  | none=>none
 | _,_=>none
theorem N'{P:Program}(w:World):∀(ew:List Field),(∀f∈ew,(P.info? f.type).isSome=true)->
  (ew.mapM fun f=>(do pure (f.offset,<-sizeOf f.type):Sem (Nat×Nat))).run P w=.ok (ew.map fun f=>(f.offset,((P.info? f.type).map (·.size)).getD 0)) w
 | [],_=>by simp
 | f::ew,h=>by
  obtain⟨i,hi⟩:=pQ.1 (h f (by simp));have eH:=N' (P:=P) w ew (fun g av=>h g (by simp[av]));simp only[xv,Sem.run_bind,sizeOf,typeInfo,run_program,Result.andThen_ok,hi,Sem.run_pure,mn,qL,jZ];simp_all[Sem.run_bind,sizeOf,typeInfo,Sem.run_pure]
theorem Cs{P:Program}{α β:Type}(f:α->Sem β)(xs:Array α)(w:World)(r:List β)(h:(xs.toList.mapM f).run P w=.ok r w):(xs.mapM f).run P w=.ok r.toArray w:=by
 rw[<-Array.toArray_toList (xs:=xs),List.mapM_toArray];simp_all
variable{P:Program}{w0:ee}{a:Act}{st:aD}{t:TypeId}{r:aE}{ans b':List b4}{obs:List Prop}
theorem ajn{parts:Array (Nat×Operand)}
  (aU:cr w0 st a w ω τ) (h:Cr P st t parts.toList ans=some (r,b',obs)):
  ∃z,(Instr.build t (parts.map fun (i,x)=>(i,a.eval x))).run P w=.ok z w/\cE (Sat w ω τ) r z:=by
 unfold Cr at h;split at h
 ·rename_i ew i hu hi;split at h
  ·rename_i z bl;split at h
   ·rename_i hD;rw[bX]at h;obtain⟨ls,h1,h⟩:=h;simp only[bq]at h;obtain⟨rfl,_,_⟩:=h;have GZ:jv (Sat w ω τ) (z.cells.toList.map .v) z.cells:=by
     refine⟨by simp,fun j l ap=>?_⟩;rw[dr,bX]at ap;obtain⟨u,hu,rfl⟩:=ap;exact⟨u,by grind,rfl⟩
    obtain⟨out,U,ax⟩:=HH (vals:=parts.toList.map fun x=>(x.1,a.eval x.2)) (by simp) (fun j fm p bg=>by
     rw[dr,bX]at bg;obtain⟨⟨i2,x⟩,ak,e⟩:=bg;simp only[bq]at e;obtain⟨rfl,rfl⟩:=e;exact⟨a.eval x,by grind,aU.bh x⟩) h1 GZ
    have hm:=Cs (P:=P) (fun f:Field=>(do pure (f.offset,<-sizeOf f.type):Sem (Nat×Nat))) ew w _ (N' (P:=P) w ew.toList (fun f b0=>fx.1 hD f b0));have nZ:(fun x=>(ew.toList.map fun f=>(f.offset,((P.info? f.type).map (·.size)).getD 0)).toArray[x]?)=HI P t:=by
     funext x;simp only[nA,dr,lI,HI,hu];cases ak:ew[x]? with
     | none=>rfl
     | some fd=>
      have:(P.info? fd.type).isSome=true:=fx.1 hD fd (by grind);obtain⟨fm,nW⟩:=pQ.1 this;simp[nW]
    refine⟨.agg out,?_,out,rfl,ax⟩;simp only[Instr.build,Sem.run_bind,zeroValue,typeInfo,run_program,Result.andThen_ok,hi,Sem.run_pure,bl,run_underlying hu,hm,nZ];simp_all
   cases h
  cases h
 cases h
def HJ(p:aE)(o':Nat)(ans:List b4):i':=
 match p with
 | .fv as=>(as[o']?).map fun a=>(.aF a,ans,[])
 | _=>none
variable{v:Value}
theorem ajo{P:Program}{o':Nat}
  (hp:cE (Sat w ω τ) p v) (h:HJ p o' ans=some (r,b',obs)):∃z,(Instr.extract v o').run P w=.ok z w/\cE (Sat w ω τ) r z:=by
 unfold HJ at h;split at h
 ·rename_i as;rw[bX]at h;obtain⟨aF,h1,h⟩:=h;simp only[bq]at h;obtain⟨rfl,_,_⟩:=h;obtain⟨vs,rfl,a8,bz⟩:=hp;obtain⟨u,U,ax⟩:=bz _ _ h1;exact⟨u,by simp[Instr.extract,U],ax⟩
 cases h
def HK(P:Program)(t:TypeId)(p:aE)(f:Nat)(ans:List b4):i':=
 match P.underlying t with
 | some (.struct ew)=>
  match ew[f]? with
  | some fd=>
   match u2 P fd.type,P.info? fd.type,p with
   | some agg,some i,.aF (.agg ls)=>(qq agg i.size ls fd.offset).map fun r=>(r,ans,[])
   | _,_,_=>none
  | none=>none
 | _=>none
theorem ajp{f:Nat}
  (hp:cE (Sat w ω τ) p v) (h:HK P t p f ans=some (r,b',obs)):∃z,(Instr.field t v f).run P w=.ok z w/\cE (Sat w ω τ) r z:=by
 unfold HK at h;split at h
 ·rename_i ew hu;split at h
  ·rename_i fd b0;split at h
   ·rename_i agg i ls e1 e2;rw[bX]at h;obtain⟨lH,h1,h⟩:=h;simp only[bq]at h;obtain⟨rfl,_,_⟩:=h;obtain⟨vs,rfl,a8,bz⟩:=hp;unfold qq at h1;cases agg with
    | true=>
     simp only[gO]at h1;split at h1
     ·rename_i hle;simp only[aS]at h1;subst h1;refine⟨.agg (vs.extract fd.offset (fd.offset+i.size)),by simp[Instr.field,run_underlying hu,b0,asAgg,part,wH e1,sizeOf,typeInfo,e2],_,rfl,by simp;omega,fun j l ap=>?_⟩;grind
     cases h1
    | false=>
     simp only[oy,lK,bX]at h1;obtain⟨l,ap,rfl⟩:=h1;obtain⟨u,h1,U⟩:=bz _ l ap;exact⟨u,by simp_all[Instr.field,run_underlying,asAgg,part,wH],U⟩
   cases h
  cases h
 cases h
def HL(op:UnOp)(p:aE)(ans:List b4):i':=
 match op,p.leaf with
 | .not,some (.a' c)=>some (.one (.a' (!c)),ans,[])
 | .not,some (.v (.bool c))=>some (.one (.v (.bool (!c))),ans,[])
 | .neg,some (.v (.int k n))=>arith k (0-n) ans
 | _,_=>none
theorem ajq{op:UnOp}
  (hp:cE (Sat w ω τ) p v) (h:HL op p ans=some (r,b',obs)) (aZ:cA obs):∃z,(Op.unary op v).run P w=.ok z w/\cE (Sat w ω τ) r z:=by
 unfold HL at h;split at h
 ·rename_i c e;simp only[aS,bq]at h;obtain⟨rfl,_,_⟩:=h;have:v=.bool c:=aE.du e hp;subst this;exact⟨_,rfl,rfl⟩
 ·rename_i c e;simp only[aS,bq]at h;obtain⟨rfl,_,_⟩:=h;have:v=.bool c:=aE.du e hp;subst this;exact⟨_,rfl,rfl⟩
 ·rename_i k n e;have:v=.int k n:=aE.du e hp;subst this;exact⟨_,rfl,wG h aZ⟩
 cases h
def eB(c a b:aE)(ans:List b4):i':=
 match c.leaf with
 | some (.v (.bool true))=>some (a,ans,[])
 | some (.v (.bool false))=>some (b,ans,[])
 | some (.a' c)=>
  match ans with
  | .nI true::r=>some (a,r,[c=true])
  | .nI false::r=>some (b,r,[c=false])
  | _=>none
 | _=>none
variable{u:Value}
theorem ajr{c a b:aE}{x:Value}
  (al:cE (Sat w ω τ) c u) (ah:cE (Sat w ω τ) a x) (aw:cE (Sat w ω τ) b y) (h:eB c a b ans=some (r,b',obs)) (aZ:cA obs):
  ∃z,(do pure (.value (if <-asBool u then x else y)):Sem Next).run P w=.ok (.value z) w/\cE (Sat w ω τ) r z:=by
 unfold eB at h;split at h
 ·rename_i e;simp only[aS,bq]at h;obtain⟨rfl,_,_⟩:=h;have:u=.bool true:=aE.du e al;subst this;exact⟨x,rfl,ah⟩
 ·rename_i e;simp only[aS,bq]at h;obtain⟨rfl,_,_⟩:=h;have:u=.bool false:=aE.du e al;subst this;exact⟨y,rfl,aw⟩
 ·rename_i jc e;have:u=.bool jc:=aE.du e al;subst this;split at h
  ·simp only[aS,bq]at h;obtain⟨rfl,_,rfl⟩:=h;have uf:jc=true:=aZ.1;subst uf;exact⟨x,rfl,ah⟩
  ·simp only[aS,bq]at h;obtain⟨rfl,_,rfl⟩:=h;have uf:jc=false:=aZ.1;subst uf;exact⟨y,rfl,aw⟩
  cases h
 cases h
def wv:List (List D)->Option (List Int)
 | []=>some []
 | [.v (.int .u8 n)]::r=>(wv r).map (n::·)
 | _=>none
theorem Oa:∀{es:List (List D)} {xs:List Int},wv es=some xs->xs.length=es.length/\∀i,i<xs.length->cQ es i 0=some (.v (.int .u8 (xs.getD i 0)))/\∀e,es[i]?=some e->e.length=1
 | [],xs,h=>by
  simp_all[wv,aS]
 | e::r,xs,h=>by
  unfold wv at h;split at h
  ·grind
  ·rename_i n lH he;obtain⟨rfl,rfl⟩:=asY he;rw[bX]at h;obtain⟨ys,h1,rfl⟩:=h;obtain⟨U,ax⟩:=Oa h1;refine⟨by simp[U],fun i hi=>?_⟩;cases i with
   | zero=>exact⟨rfl,fun e he=>by grind⟩
   | succ i=>
    simp only[hz,Nat.add_lt_add_iff_right]at hi;grind[cQ]
  cases h
theorem cell_of_heap{b:Nat}{arr:Array Value}{ty:TypeId}{cL:Nat×Nat}(aw:w.heap[b]?=some (.cells arr ty cL))(h:arr[off]?=some v):w.cell? ⟨b,off,none⟩=some v:=by
 unfold World.cell?;simp[aw,h]
def az.TD:az->Option (List (List D))
 | .J _ 1 es=>some es
 | _=>none
def HM(P:Program)(src dst:TypeId)(p:aE)(ans:List b4):i':=
 match P.underlying src,P.underlying dst,p.int with
 | some _,some (.int k),some (_,n)=>arith k n ans
 | some (.slice e),some .string,none=>
  match P.underlying e,p.leaf.bind az.TD,ans with
  | some (.int .u8),some es,.nc (.aF (.one (.v (.string s))))::r=>some (.one (.v (.string s)),r,[(wv es).map strOfNums=some s])
  | _,_,_=>none
 | _,_,_=>none
theorem ajs{src dst:TypeId}
  (hp:cE (Sat w ω τ) p v) (h:HM P src dst p ans=some (r,b',obs)) (aZ:cA obs):∃z,(convert src dst v).run P w=.ok z w/\cE (Sat w ω τ) r z:=by
 unfold HM at h;split at h
 ·rename_i d k yI n e1 e2 cb;rw[aE.mR cb hp];exact⟨_,by simp_all[convert,run_underlying,Conv.intToInt],wG h aZ⟩
 ·rename_i e e1 e2 cb;split at h
  ·rename_i es s lH d' gY;simp only[aS,bq]at h;obtain⟨rfl,_,rfl⟩:=h;have kS:(wv es).map strOfNums=some s:=aZ.1;rw[bX]at kS;obtain⟨xs,h1,rfl⟩:=kS;obtain⟨U,ax⟩:=Oa h1;rw[la]at gY;obtain⟨l,lh,nK⟩:=gY;have ap:=aE.du lh hp;unfold az.TD at nK;split at nK
   ·rename_i t ck;simp only[aS]at nK;subst nK;obtain⟨aH,_⟩:=ap;refine⟨.string (strOfNums xs),?_,rfl⟩;cases aH with
    | nil R k a=>
     have:xs=[]:=List.length_eq_zero_iff.1 (by grind);subst this;cases a with
     | none=>exact run_convert_bytes_nil w src e e1 d' 0 0 dst e2
     | some a=>
      rw[run_convert_bytes_string w src dst e _ 0 0 e1 d' e2];exact run_bytesToString w a 0 0 [] (run_loadCells_list w a [] (fun j v bg=>by simp at bg))
    | row R k _ b off cap arr ty cL us aw dG al ai hk hu aG=>
     refine run_convert_bytes_arg w src e e1 d' b off ck.length cap xs U (fun i hi=>?_) dst e2;obtain⟨aJ,_⟩:=ax i (by omega);have aY:=hu i 0 _ aJ;have bx:=aG i 0 _ aJ;generalize us i 0=u at aY bx;cases bx;rw[Nat.mul_one,mq]at aY;grind[cell_of_heap]
   cases nK
  cases h
 cases h
def HN(P:Program)(t:TypeId)(p q:aE)(ans:List b4):i':=
 match P.underlying t,p.leaf,q.int with
 | some .string,some (.v (.string s)),some (_,n)=>
  match ans with
  | .num m::r=>some (.one (.v (.int .u8 m)),r,[0<=n,(s[n.toNat]?).map (fun b=>((b.toNat:Nat):Int))=some m])
  | _=>none
 | _,_,_=>none
variable{q:aE}
theorem ajt
  (hp:cE (Sat w ω τ) p u) (aK:cE (Sat w ω τ) q v) (h:HN P t p q ans=some (r,b',obs)) (aZ:cA obs):∃z,(Instr.index t u v).run P w=.ok z w/\cE (Sat w ω τ) r z:=by
 unfold HN at h;split at h
 ·rename_i s yI n e1 e2 cb;split at h
  ·rename_i m gN;simp only[aS,bq]at h;obtain⟨rfl,_,rfl⟩:=h;obtain⟨b5,h1,_⟩:=aZ;have:u=.string s:=aE.du e2 hp;subst this;rw[aE.mR cb aK];rw[bX]at h1;obtain⟨b,aw,hm⟩:=h1;exact⟨.int .u8 m,by simp_all[Instr.index,asIntOf,run_underlying],rfl⟩
  cases h
 cases h
def HO(p q:aE)(ans:List b4):i':=
 match p.int,q.int with
 | some (k,a),some (_,b)=>some (.one (.v (.int k (if b<a then b else a))),ans,[])
 | _,_=>none
def HP(p q:aE)(ans:List b4):i':=
 match p.int,q.int with
 | some (k,a),some (_,b)=>some (.one (.v (.int k (if b>a then b else a))),ans,[])
 | _,_=>none
theorem aju{P:Program}{ts:Array TypeId}{ty:TypeId}
  (hp:cE (Sat w ω τ) p u) (aK:cE (Sat w ω τ) q v) (h:HO p q ans=some (r,b',obs)):∃z,(Builtin.min_ ts ty #[u,v]).run P w=.ok z w/\cE (Sat w ω τ) r z:=by
 unfold HO at h;split at h
 ·rename_i k a yI b e1 e2;simp only[aS,bq]at h;obtain⟨rfl,_,_⟩:=h;rw[aE.mR e1 hp,aE.mR e2 aK];exact⟨_,by simp[Builtin.min_,Builtin.min2],rfl⟩
 cases h
theorem ajv{P:Program}{ts:Array TypeId}{ty:TypeId}
  (hp:cE (Sat w ω τ) p u) (aK:cE (Sat w ω τ) q v) (h:HP p q ans=some (r,b',obs)):∃z,(Builtin.max_ ts ty #[u,v]).run P w=.ok z w/\cE (Sat w ω τ) r z:=by
 unfold HP at h;split at h
 ·rename_i k a yI b e1 e2;simp only[aS,bq]at h;obtain⟨rfl,_,_⟩:=h;rw[aE.mR e1 hp,aE.mR e2 aK];exact⟨_,by simp[Builtin.max_,Builtin.max2],rfl⟩
 cases h
def OR(p:aE)(ans:List b4):i':=
 match p.leaf with
 | some (.ptr id off)=>some (.one (.ptr id off),ans,[])
 | some (.cB t k es i j)=>some (.one (.cB t k es i j),ans,[])
 | some (.ha ds off)=>some (.one (.ha ds off),ans,[])
 | some (.aO t i j k es (.at_ x y))=>some (.one (.aO t i j k es (.at_ x y)),ans,[])
 | _=>none
def NZ(p:aE):Option Nat:=
 match p.leaf with
 | some (.ptr id 0)=>some id
 | _=>none
def Mt(p:aE):Option D:=
 match p.leaf with
 | some (.ha ds 0)=>some (.ptr ds)
 | some (.v x)=>if x.oneCell' then some (.v x) else none
 | _=>none
def Cd(st:aD)(fn:Fn)(first captured:List Operand)(ans:List b4):i':=
 match fn,first with
 | .func g,[]=>
  match (captured.map st.bh).mapM NZ with
  | some ids=>some (.one (.fR g ids),ans,[])
  | none=>
   match (captured.map st.bh).mapM Mt with
   | some ds=>some (.one (.fd (.cl g ds)),ans,[])
   | none=>none
 | _,_=>none
theorem HQ{α β:Type}{f:α->Option β}:∀{xs:List α} {ys:List β},xs.mapM f=some ys->ys.length=xs.length/\∀(i:Nat) (y:β),ys[i]?=some y->∃x,xs[i]?=some x/\f x=some y
 | [],ys,h=>by grind
 | x::xs,ys,h=>by
  rw[xv]at h;cases e:f x with
  | none=>simp[e]at h
  | some y=>
   cases e2:xs.mapM f with
   | none=>grind
   | some zs=>
    simp[e,e2]at h;subst h;obtain⟨h1,U⟩:=HQ e2;grind
theorem ajw{P:Program}{fn:Fn}{first captured:Array Operand}
  (aU:cr w0 st a w ω τ) (h:Cd st fn first.toList captured.toList ans=some (r,b',obs)):
  ∃z,(Instr.makeFunc fn (first.map a.eval) (captured.map a.eval)).run P w=.ok z w/\cE (Sat w ω τ) r z:=by
 unfold Cd at h;split at h
 ·rename_i g atQ;have b0:first=#[]:=by
   grind
  subst b0;refine⟨.func (.func g) #[] (captured.map a.eval),by simp[Instr.makeFunc],?_⟩;have p2:∀(i:Nat) (x:aE),(captured.toList.map st.bh)[i]?=some x->∃v,(captured.map a.eval)[i]?=some v/\cE (Sat w ω τ) x v:=by
   intro i x ak;rw[dr,bX]at ak;obtain⟨o,aZ,rfl⟩:=ak;refine⟨a.eval o,?_,aU.bh o⟩;grind
  split at h
  ·rename_i ids WO;simp only[aS,bq]at h;obtain⟨rfl,_,_⟩:=h;obtain⟨a8,av⟩:=HQ WO;have hex:∀i,i<ids.length->∃b id,ids[i]?=some id/\(captured.map a.eval)[i]?=some (ptrTo b)/\ω b=.box id:=by
    intro i hi;obtain⟨x,ak,jh⟩:=av i ids[i] (by simp[hi]);obtain⟨v,bz,ai⟩:=p2 i x ak;unfold NZ at jh;split at jh
    ·rename_i id ap;simp only[aS]at jh;obtain⟨b,aw,rfl⟩:=aE.du ap ai;exact⟨b,id,by grind,bz,aw⟩
    cases jh
   have dN:(captured.map a.eval).size=ids.length:=by grind
   let bs:=(List.range ids.length).map fun i=>(match (captured.map a.eval)[i]? with | some (.pointer (some p))=>p.block | _=>0)
   refine⟨bs,?_,by simp[bs],fun i id gh=>?_⟩
   ·congr 1
    apply Array.ext
    ·grind
    grind[id,aS,ptrTo]
   grind[gP,ptrTo]
  split at h
  ·rename_i ds ey;simp only[aS,bq]at h;obtain⟨rfl,_,_⟩:=h;obtain⟨a8,av⟩:=HQ ey;refine bQ.cl _ g ds (captured.map a.eval) (fun j=>(captured.map a.eval).getD j undef) (by grind) (fun j d aG=>?_) (fun j d aG=>?_)
   ·obtain⟨x,ak,_⟩:=av j d aG;obtain⟨v,bz,_⟩:=p2 j x ak;rw[bz];simp only[er,bz,jZ]
   obtain⟨x,ak,jh⟩:=av j d aG;obtain⟨v,bz,ai⟩:=p2 j x ak;have e:(captured.map a.eval).getD j undef=v:=by simp only[er,bz,jZ]
   rw[e];unfold Mt at jh;split at jh
   ·rename_i q0 ap;simp only[aS]at jh;subst jh;obtain⟨b,rfl,aH⟩:=aE.du ap ai;exact aH.frame fun b q aw aK=>⟨aK,rfl⟩
   ·rename_i y ap;split at jh
    ·rename_i Xh;simp only[aS]at jh;subst jh;have:v=y:=aE.du ap ai;subst this;exact .v _ _ Xh
    cases jh
   cases jh
  cases h
 cases h
def Ce(P:Program)(st:aD)(b:Builtin)(args:List Operand)(ts:List TypeId)(ans:List b4):i':=
 match b,args,ts with
 | .len,[x],[t]=>HF P t (st.bh x) ans
 | .min,[x,y],_=>HO (st.bh x) (st.bh y) ans
 | .max,[x,y],_=>HP (st.bh x) (st.bh y) ans
 | _,_,_=>none
def pt(P:Program)(st:aD)(op:Op)(ans:List b4):i':=
 match op with
 | .move x | .assign x=>some (st.bh x,ans,[])
 | .pick c a b=>eB (st.bh c) (st.bh a) (st.bh b) ans
 | .load t x=>Cp P st t (st.bh x) ans
 | .nilCheck x=>OR (st.bh x) ans
 | .binOp op t x y _=>H8 P op t x y (st.bh x) (st.bh y) ans
 | .unOp op _ x=>HL op (st.bh x) ans
 | .convert s d x=>HM P s d (st.bh x) ans
 | .slice t x cP hi h0=>Cq P st t (st.bh x) cP hi h0 ans
 | .fieldAddr s x f=>H' P s (st.bh x) f ans
 | .field t x f=>HK P t (st.bh x) f ans
 | .indexAddr t x i=>HE P t (st.bh x) (st.bh i) ans
 | .index t x i=>HN P t (st.bh x) (st.bh i) ans
 | .extract x i=>HJ (st.bh x) i ans
 | .build t parts=>Cr P st t parts.toList ans
 | .call ⟨.builtin b,args,ts⟩=>Ce P st b args.toList ts.toList ans
 | .makeFunc fn first captured=>Cd st fn first.toList captured.toList ans
 | _=>none
theorem h7{aM:World}{s:Sem Value}{z:Value}(h:s.run P w=.ok z aM):(do pure (.value (<-s)):Sem Next).run P w=.ok (.value z) aM:=by
 simp_all
theorem ajx{b:Builtin}{args:Array Operand}{ts:Array TypeId}{ty:TypeId}{consts:Array Bool}
  (aU:cr w0 st a w ω τ) (h:Ce P st b args.toList ts.toList ans=some (r,b',obs)):
  ∃z,(builtin b ts ty consts (args.map a.eval)).run P w=.ok (.value z) w/\cE (Sat w ω τ) r z:=by
 obtain⟨args⟩:=args;obtain⟨ts⟩:=ts;unfold Ce at h;split at h
 ·rename_i x t e1 e2;simp only at e1 e2;subst e1 e2;obtain⟨z,h1,U⟩:=ajV (ty:=ty) (aU.bh x) h;refine⟨z,h7 (s:=Builtin.len_ #[t] ty (Array.map a.eval #[x])) ?_,U⟩;grind
 ·rename_i x y e1;simp only at e1;subst e1;obtain⟨z,h1,U⟩:=aju (P:=P) (ts:=⟨ts⟩) (ty:=ty) (aU.bh x) (aU.bh y) h;refine⟨z,h7 (s:=Builtin.min_ ⟨ts⟩ ty (Array.map a.eval #[x,y])) ?_,U⟩;grind
 ·rename_i x y e1;simp only at e1;subst e1;obtain⟨z,h1,U⟩:=ajv (P:=P) (ts:=⟨ts⟩) (ty:=ty) (aU.bh x) (aU.bh y) h;refine⟨z,h7 (s:=Builtin.max_ ⟨ts⟩ ty (Array.map a.eval #[x,y])) ?_,U⟩;grind
 cases h
theorem HR{o:Oper}
  (aU:cr w0 st a w ω τ) (h:pt P st o.op ans=some (r,b',obs)) (aZ:cA obs):
  ∃z,(execOp a.eval o).run P w=.ok (.value z) w/\cE (Sat w ω τ) r z:=by
 obtain⟨dst,op,type,pos,after,guard⟩:=o;simp only at h;unfold pt at h;split at h
 ·rename_i x;simp only[aS,bq]at h;obtain⟨rfl,_,_⟩:=h;exact⟨a.eval x,rfl,aU.bh x⟩
 ·rename_i x;simp only[aS,bq]at h;obtain⟨rfl,_,_⟩:=h;exact⟨a.eval x,rfl,aU.bh x⟩
 ·rename_i c x y;exact ajr (aU.bh c) (aU.bh x) (aU.bh y) h aZ
 ·rename_i t x;obtain⟨z,h1,U⟩:=ajU aU (aU.bh x) h aZ;exact⟨z,h7 h1,U⟩
 ·rename_i x;unfold OR at h;split at h
  ·rename_i id off e;simp only[aS,bq]at h;obtain⟨rfl,_,_⟩:=h;have ai:=aE.du e (aU.bh x);obtain⟨b,aw,ak⟩:=ai;exact⟨_,by simp_all[execOp],b,aw,rfl⟩
  ·rename_i t k es i j e;simp only[aS,bq]at h;obtain⟨rfl,_,_⟩:=h;have ai:=aE.du e (aU.bh x);have c6:=ai;obtain⟨b,off,cap,ak,h1⟩:=ai;refine⟨_,by simp only[execOp,ak];rfl,?_⟩;rw[<-ak];exact c6
  ·rename_i ds off e;simp only[aS,bq]at h;obtain⟨rfl,_,_⟩:=h;have ai:=aE.du e (aU.bh x);have c6:=ai;obtain⟨b,ak,h1⟩:=ai;refine⟨_,by simp only[execOp,ak];rfl,?_⟩;rw[<-ak];exact c6
  ·rename_i t i j k es asz Mb e;simp only[aS,bq]at h;obtain⟨rfl,_,_⟩:=h;have ai:=aE.du e (aU.bh x);have c6:=ai;obtain⟨hx,⟨b,off,cap,_,ak,_⟩,_⟩:=ai;refine⟨_,by simp only[execOp,ak];rfl,?_⟩;rw[<-ak];exact c6
  cases h
 ·rename_i X9 t x y pN;obtain⟨z,h1,U⟩:=ajQ (aU.bh x) (aU.bh y) h aZ;exact⟨z,h7 h1,U⟩
 ·rename_i X9 t x;obtain⟨z,h1,U⟩:=ajq (aU.bh x) h aZ;exact⟨z,h7 h1,U⟩
 ·rename_i s d x;obtain⟨z,h1,U⟩:=ajs (aU.bh x) h aZ;exact⟨z,h7 h1,U⟩
 ·rename_i t x cP hi h0;obtain⟨z,h1,U⟩:=ajW aU (aU.bh x) h aZ;exact⟨z,h7 h1,U⟩
 ·rename_i s x f;obtain⟨z,h1,U⟩:=ajR (aU.bh x) h;exact⟨z,h7 h1,U⟩
 ·rename_i t x f;obtain⟨z,h1,U⟩:=ajp (aU.bh x) h;exact⟨z,h7 h1,U⟩
 ·rename_i t x i;obtain⟨z,h1,U⟩:=ajS (aU.bh x) (aU.bh i) h aZ;exact⟨z,h7 h1,U⟩
 ·rename_i t x i;obtain⟨z,h1,U⟩:=ajt (aU.bh x) (aU.bh i) h aZ;exact⟨z,h7 h1,U⟩
 ·rename_i x i;obtain⟨z,h1,U⟩:=ajo (P:=P) (aU.bh x) h;exact⟨z,h7 h1,U⟩
 ·rename_i t parts;obtain⟨z,h1,U⟩:=ajn aU h;exact⟨z,h7 h1,U⟩
 ·rename_i b args ts;obtain⟨z,h1,U⟩:=ajx (ty:=type) (consts:=args.map fun | .const _=>true | _=>false) aU h;grind[execOp,resolve,Sem.run_bind,Sem.run_pure,Result.andThen_ok,invoke]
 ·rename_i fn first captured
  obtain⟨z,h1,U⟩:=ajw (P:=P) aU h;exact⟨z,h7 h1,U⟩
 cases h
