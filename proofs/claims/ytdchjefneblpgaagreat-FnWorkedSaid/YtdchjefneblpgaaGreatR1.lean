import Derived.WalkKit
import Derived.WalkSpells
import Derived.WalkLawsBesides
import Derived.KernelRfl
set_option linter.unusedVariables false
set_option linter.unusedSimpArgs false
namespace Go.Sx
open Go.RowKit
universe u v w x
theorem aa:True:=⟨⟩
theorem aR:type_of% @Option.some.injEq.{u}:=@Option.some.injEq.{u}
theorem bk:type_of% @List.length_map.{u,v}:=@List.length_map.{u,v}
theorem b1:type_of% @Option.map_eq_some_iff.{u,v}:=@Option.map_eq_some_iff.{u,v}
theorem bx:type_of% @Prod.mk.injEq.{u,v}:=@Prod.mk.injEq.{u,v}
theorem cI:type_of% @Bool.eq_false_or_eq_true:=@Bool.eq_false_or_eq_true
theorem mU:type_of% @decide_eq_false_iff_not:=@decide_eq_false_iff_not
theorem hy:type_of% @List.mem_cons_of_mem.{u}:=@List.mem_cons_of_mem.{u}
theorem bW:type_of% @List.length_nil.{u}:=@List.length_nil.{u}
theorem cU:type_of% @decide_eq_true_eq:=@decide_eq_true_eq
theorem cx:type_of% @Bool.and_eq_true:=@Bool.and_eq_true
theorem eh:type_of% @List.getElem?_eq_some_iff.{u}:=@List.getElem?_eq_some_iff.{u}
theorem d':type_of% @Array.getD_eq_getD_getElem?.{u}:=@Array.getD_eq_getD_getElem?.{u}
theorem gT:type_of% @List.mem_cons_self.{u}:=@List.mem_cons_self.{u}
theorem e5:type_of% @List.length_set.{u}:=@List.length_set.{u}
theorem bh:type_of% @if_neg.{u}:=@if_neg.{u}
theorem br:type_of% @if_pos.{u}:=@if_pos.{u}
theorem dN:type_of% @List.length_cons.{u}:=@List.length_cons.{u}
theorem dj:type_of% @List.getElem?_map.{u,v}:=@List.getElem?_map.{u,v}
theorem lE:type_of% @decide_eq_false:=@decide_eq_false
theorem gU:type_of% @List.getElem?_eq_getElem.{u}:=@List.getElem?_eq_getElem.{u}
theorem dg:type_of% @Nat.zero_add:=@Nat.zero_add
theorem fl:type_of% @List.mem_of_getElem?.{u}:=@List.mem_of_getElem?.{u}
theorem eN:type_of% @Option.some.inj.{u}:=@Option.some.inj.{u}
theorem gz:type_of% @Bool.or_eq_false_iff:=@Bool.or_eq_false_iff
theorem ik:type_of% @Array.getElem?_eq_some_iff.{u}:=@Array.getElem?_eq_some_iff.{u}
theorem gQ:type_of% @List.getElem?_drop.{u}:=@List.getElem?_drop.{u}
theorem gR:type_of% @Nat.mul_le_mul_right:=@Nat.mul_le_mul_right
theorem k3:type_of% @List.take_length.{u}:=@List.take_length.{u}
theorem gS:type_of% @Array.getElem?_eq_getElem.{u}:=@Array.getElem?_eq_getElem.{u}
theorem eD:type_of% @beq_iff_eq.{u}:=@beq_iff_eq.{u}
theorem hh:type_of% @List.getElem?_take.{u}:=@List.getElem?_take.{u}
theorem VO:type_of% @List.cons.inj.{u}:=@List.cons.inj.{u}
theorem iC:type_of% @Array.getElem?_toList.{u}:=@Array.getElem?_toList.{u}
theorem hY:type_of% @List.mem_append_left.{u}:=@List.mem_append_left.{u}
theorem iD:type_of% @List.mem_append_right.{u}:=@List.mem_append_right.{u}
theorem ht:type_of% @Array.getElem?_append.{u}:=@Array.getElem?_append.{u}
theorem eu:type_of% @List.mem_cons.{u}:=@List.mem_cons.{u}
theorem fA:type_of% @List.all_eq_true.{u}:=@List.all_eq_true.{u}
theorem ii:type_of% @List.getD_eq_getElem?_getD.{u}:=@List.getD_eq_getElem?_getD.{u}
theorem fk:type_of% @Nat.le_refl:=@Nat.le_refl
theorem hj:type_of% @List.any_eq_false.{u}:=@List.any_eq_false.{u}
theorem oQ:type_of% @Bool.eq_false_iff:=@Bool.eq_false_iff
theorem fu:type_of% @Nat.add_mul:=@Nat.add_mul
theorem hv:type_of% @Bool.not_eq_true':=@Bool.not_eq_true'
theorem kD:type_of% @List.getElem?_append.{u}:=@List.getElem?_append.{u}
theorem hx:type_of% @List.map_append.{u,v}:=@List.map_append.{u,v}
theorem ij:type_of% @Option.getD_some.{u}:=@Option.getD_some.{u}
theorem kE:type_of% @List.map_congr_left.{u,v}:=@List.map_congr_left.{u,v}
theorem kF:type_of% @Bool.not_eq_false':=@Bool.not_eq_false'
theorem l8:type_of% @List.getElem?_toArray.{u}:=@List.getElem?_toArray.{u}
theorem iW:type_of% @Bool.not_true:=@Bool.not_true
theorem lz:type_of% @List.append_nil.{u}:=@List.append_nil.{u}
theorem km:type_of% @List.length_append.{u}:=@List.length_append.{u}
theorem kG:type_of% @List.size_toArray.{u}:=@List.size_toArray.{u}
theorem jR:type_of% @List.getElem?_set.{u}:=@List.getElem?_set.{u}
theorem oR:type_of% @Int.toNat_natCast:=@Int.toNat_natCast
theorem mR:type_of% @List.getElem?_cons_succ.{u}:=@List.getElem?_cons_succ.{u}
theorem jS:type_of% @List.getElem?_cons_zero.{u}:=@List.getElem?_cons_zero.{u}
theorem lA:type_of% @Option.bind_eq_some_iff.{u,v}:=@Option.bind_eq_some_iff.{u,v}
theorem tZ:type_of% @List.findIdx?_eq_some_iff_getElem.{u}:=@List.findIdx?_eq_some_iff_getElem.{u}
theorem oS:type_of% @Option.isSome_iff_exists.{u}:=@Option.isSome_iff_exists.{u}
theorem oT:type_of% @List.mem_iff_getElem?.{u}:=@List.mem_iff_getElem?.{u}
theorem jT:type_of% @Bool.false_or:=@Bool.false_or
theorem Bp:type_of% @List.set_set.{u}:=@List.set_set.{u}
theorem l9:type_of% @Option.bind_some.{u,v}:=@Option.bind_some.{u,v}
theorem oU:type_of% @Bool.false_eq_true:=@Bool.false_eq_true
theorem j':type_of% @decide_eq_true:=@decide_eq_true
theorem au0:type_of% @Int.le_trans:=@Int.le_trans
theorem mS:type_of% @List.mem_flatMap.{u,v}:=@List.mem_flatMap.{u,v}
theorem vV:type_of% @List.getElem?_append_right.{u}:=@List.getElem?_append_right.{u}
theorem q2:type_of% @List.length_filter_le.{u}:=@List.length_filter_le.{u}
theorem jw:type_of% @List.map_set.{u,v}:=@List.map_set.{u,v}
theorem k4:type_of% @List.map_cons.{u,v}:=@List.map_cons.{u,v}
theorem l':type_of% @Option.map_some.{u,v}:=@Option.map_some.{u,v}
theorem q3:type_of% @List.getElem_mem.{u}:=@List.getElem_mem.{u}
theorem oV:type_of% @List.length_take.{u}:=@List.length_take.{u}
theorem lB:type_of% @List.mem_append.{u}:=@List.mem_append.{u}
theorem t':type_of% @List.append_assoc.{u}:=@List.append_assoc.{u}
theorem gy:type_of% @if_true.{u}:=@if_true.{u}
theorem n1:type_of% @Bool.not_false:=@Bool.not_false
theorem p8:type_of% @Array.size_append.{u}:=@Array.size_append.{u}
theorem vW:type_of% @List.take_add_one.{u}:=@List.take_add_one.{u}
theorem n2:type_of% @List.mem_or_eq_of_mem_set.{u}:=@List.mem_or_eq_of_mem_set.{u}
theorem xU:type_of% @List.getElem?_append_left.{u}:=@List.getElem?_append_left.{u}
theorem xV:type_of% @List.mem_of_mem_take.{u}:=@List.mem_of_mem_take.{u}
theorem n3:type_of% @Bool.or_eq_true:=@Bool.or_eq_true
theorem lC:type_of% @Nat.add_zero:=@Nat.add_zero
theorem vX:type_of% @List.take_of_length_le.{u}:=@List.take_of_length_le.{u}
theorem oW:type_of% @Bool.true_and:=@Bool.true_and
theorem k5:type_of% @List.mem_map.{u,v}:=@List.mem_map.{u,v}
theorem Bq:type_of% @List.mem_of_mem_drop.{u}:=@List.mem_of_mem_drop.{u}
theorem Br:type_of% @List.getElem?_replicate.{u}:=@List.getElem?_replicate.{u}
theorem n4:type_of% @Nat.lt_or_ge:=@Nat.lt_or_ge
theorem ua:type_of% @beq_eq_false_iff_ne.{u}:=@beq_eq_false_iff_ne.{u}
theorem q4:type_of% @List.cons.injEq.{u}:=@List.cons.injEq.{u}
theorem Bs:type_of% @List.findIdx?_eq_none_iff.{u}:=@List.findIdx?_eq_none_iff.{u}
theorem ub:type_of% @Bool.not_eq_true:=@Bool.not_eq_true
theorem mT:type_of% @List.not_mem_nil.{u}:=@List.not_mem_nil.{u}
theorem vY:type_of% @List.eq_nil_of_length_eq_zero.{u}:=@List.eq_nil_of_length_eq_zero.{u}
theorem E9:type_of% @List.take_append_of_le_length.{u}:=@List.take_append_of_le_length.{u}
theorem uc:type_of% @Array.length_toList.{u}:=@Array.length_toList.{u}
theorem su:type_of% @beq_self_eq_true.{u}:=@beq_self_eq_true.{u}
theorem xW:type_of% @Nat.lt_of_lt_of_le:=@Nat.lt_of_lt_of_le
theorem E':type_of% @Option.isSome_eq_false_iff.{u}:=@Option.isSome_eq_false_iff.{u}
theorem VP:type_of% @List.take_append_drop.{u}:=@List.take_append_drop.{u}
theorem hZ:type_of% @ne_eq.{u}:=@ne_eq.{u}
theorem Fa:type_of% @Option.isNone_iff_eq_none.{u}:=@Option.isNone_iff_eq_none.{u}
theorem sv:type_of% @Nat.le_trans:=@Nat.le_trans
theorem q5:type_of% @List.map_id.{u}:=@List.map_id.{u}
theorem ud:type_of% @List.any_cons.{u}:=@List.any_cons.{u}
theorem vZ:type_of% @List.mapM_cons.{u,v,w}:=@List.mapM_cons.{u,v,w}
theorem lD:type_of% @if_false.{u}:=@if_false.{u}
theorem oX:type_of% @List.any_eq_true.{u}:=@List.any_eq_true.{u}
theorem v7:type_of% @List.drop_zero.{u}:=@List.drop_zero.{u}
theorem au1:type_of% @Int.natCast_zero:=@Int.natCast_zero
theorem MF:type_of% @List.flatMap_nil.{u,v}:=@List.flatMap_nil.{u,v}
theorem Bt:type_of% @Array.getElem?_eq_none.{u}:=@Array.getElem?_eq_none.{u}
theorem xX:type_of% @Array.getElem?_map.{u,v}:=@Array.getElem?_map.{u,v}
theorem Fb:type_of% @Option.toList_some.{u}:=@Option.toList_some.{u}
theorem MG:type_of% @List.range_zero:=@List.range_zero
theorem q6:type_of% @List.map_take.{u,v}:=@List.map_take.{u,v}
theorem ue:type_of% @Bool.and_true:=@Bool.and_true
theorem xY:type_of% @List.length_range:=@List.length_range
theorem Bu:type_of% @Nat.mod_eq_of_lt:=@Nat.mod_eq_of_lt
theorem v8:type_of% @Nat.add_assoc:=@Nat.add_assoc
theorem v':type_of% @List.sum_cons.{u}:=@List.sum_cons.{u}
inductive D where
 | v (x:Value)
 | J (k:Nat) (es:List (List D))
 | ptr (ds:List D)
 | cl (g:FuncId) (bC:List D)
inductive cV where
 | bB
 | box (id:Nat)
 | tok (t:Nat) (q:List (Nat×Nat))
abbrev Own:=Nat->cV
def cY(es:List (List D))(i j:Nat):Option D:=(es[i]?).bind (·[j]?)
inductive bV (w:World) (ω:Own):(List (Nat×Nat)->cV->Prop)->D->Value->Prop
 | v (R:List (Nat×Nat)->cV->Prop) (x:Value) (h1:x.oneCell'=true):bV w ω R (.v x) x
 | nil (R:List (Nat×Nat)->cV->Prop) (k:Nat) (a:Option Addr):bV w ω R (.J k []) (.slice a 0 0)
 | row (R:List (Nat×Nat)->cV->Prop) (k:Nat) (es:List (List D)) (b off cap:Nat) (arr:Array Value) (ty:TypeId) (cO:Nat×Nat) (us:Nat->Nat->Value)
   (ar:w.heap[b]?=some (.cells arr ty cO)) (dM:R [] (ω b)) (ai:es.length<=cap) (aj:off+cap*k<=arr.size) (hk:∀e∈es,e.length=k)
   (hu:∀i j d,cY es i j=some d->arr[off+i*k+j]?=some (us i j))
   (aD:∀i j d,cY es i j=some d->bV w ω (fun q=>R ((i,j)::q)) d (us i j)):
   bV w ω R (.J k es) (.slice (some ⟨b,off,none⟩) es.length cap)
 | ptr (R:List (Nat×Nat)->cV->Prop) (ds:List D) (b:Nat) (arr:Array Value) (ty:TypeId) (cO:Nat×Nat) (us:Nat->Value)
   (ar:w.heap[b]?=some (.cells arr ty cO)) (dM:R [] (ω b)) (aj:arr.size=ds.length)
   (hu:∀j d,ds[j]?=some d->arr[j]?=some (us j)) (aD:∀j d,ds[j]?=some d->bV w ω (fun q=>R ((0,j)::q)) d (us j)):
   bV w ω R (.ptr ds) (.pointer (some ⟨b,0,none⟩))
 | cl (R:List (Nat×Nat)->cV->Prop) (g:FuncId) (bC:List D) (cs:Array Value) (us:Nat->Value) (aj:cs.size=bC.length)
   (hu:∀j d,bC[j]?=some d->cs[j]?=some (us j)) (aD:∀j d,bC[j]?=some d->bV w ω (fun q=>R ((0,j)::q)) d (us j)):
   bV w ω R (.cl g bC) (.func (.func g) #[] cs)
variable{w aN:World}{ω:Own}
theorem bV.frame{a1:Own}{R:List (Nat×Nat)->cV->Prop}{d:D}{v:Value}(h:bV w ω R d v):
  ∀{h0:List (Nat×Nat)->cV->Prop},(∀b q,b<w.heap.size->R q (ω b)->h0 q (a1 b)/\aN.heap[b]?=w.heap[b]?)->bV aN a1 h0 d v:=by
 induction h with
 | v R x h1=>intro h0 _;exact .v h0 x h1
 | nil R k a=>intro h0 _;exact .nil h0 k a
 | row R k es b off cap arr ty cO us ar dM ai aj hk hu aD dP=>
  intro h0 bT;have bz:b<w.heap.size:=by
   rcases n4 b w.heap.size with h | h
   ·exact h
   simp[Bt h]at ar
  obtain⟨h1,U⟩:=bT b [] bz dM;exact .row h0 k es b off cap arr ty cO us (U.trans ar) h1 ai aj hk hu (fun i j d dJ=>dP i j d dJ (fun b q al aE=>bT b ((i,j)::q) al aE))
 | ptr R ds b arr ty cO us ar dM aj hu aD dP=>
  intro h0 bT;have bz:b<w.heap.size:=by
   rcases n4 b w.heap.size with h | h
   ·exact h
   simp[Bt h]at ar
  obtain⟨h1,U⟩:=bT b [] bz dM;exact .ptr h0 ds b arr ty cO us (U.trans ar) h1 aj hu (fun j d dJ=>dP j d dJ (fun b q al aE=>bT b ((0,j)::q) al aE))
 | cl R g bC cs us aj hu aD dP=>
  intro h0 bT;exact .cl h0 g bC cs us aj hu (fun j d dJ=>dP j d dJ (fun b q al aE=>bT b ((0,j)::q) al aE))
inductive Tag where
 | free
 | own (t:Nat)
 | ro (t:Nat)
def Tag.R:Tag->List (Nat×Nat)->cV->Prop
 | .free,_,o=>o=.bB
 | .own t,q,o=>o=.tok t q
 | .ro t,_,o=>o=.bB\/∃q,o=.tok t q
def Tag.dT(τ:Nat->Nat×Value):Tag->Nat×Value->Prop
 | .own t,y=>τ t=y
 | _,_=>True
def c7:Nat:=1000000000
inductive eL where
 | cq
 | v (x:Value)
 | J (t:Tag) (k:Nat) (es:List (List D))
inductive um where
 | here
 | k8
 | at_ (x y:Nat)
def um.rel(k n:Nat):um->Value->Value->Prop
 | .at_ x y,u,v=>∃b off cap,u=.slice (some ⟨b,off,none⟩) n cap/\v=.pointer (some ⟨b,off+x*k+y,none⟩)/\x<n
 | _,u,v=>v=u
def um.home:um->Bool
 | .k8=>false
 | _=>true
inductive aB where
 | cq
 | v (x:Value)
 | ba (c:Bool)
 | J (t:Tag) (k:Nat) (es:List (List D))
 | ptr (id off:Nat)
 | cE (t:Tag) (k:Nat) (es:List (List D)) (i j:Nat)
 | hF (ds:List D) (off:Nat)
 | fd (d:D)
 | gn (g:FuncId) (ids:List Nat)
 | aO (t i j k:Nat) (es:List (List D)) (m:um)
 | fa (t:Nat) (vs:List eL)
 | de (t k:Nat) (es:List (List D))
def ptrTo(b:Nat):Value:=.pointer (some ⟨b,0,none⟩)
def p'(w:World)(ω:Own)(τ:Nat->Nat×Value):eL->Value->Prop
 | .cq,_=>True
 | .v x,y=>y=x
 | .J t k es,y=>bV w ω t.R (.J k es) y/\t.dT τ (k,y)
def tf(w:World)(ω:Own)(τ:Nat->Nat×Value)(t i j:Nat)(u:Value):Prop:=
 ∃(kT b off len cap:Nat) (arr:Array Value) (ty:TypeId) (cO:Nat×Nat),τ t=(kT,.slice (some ⟨b,off,none⟩) len cap)/\ω b=.tok t []/\w.heap[b]?=some (.cells arr ty cO)/\arr[off+i*kT+j]?=some u
def Sat(w:World)(ω:Own)(τ:Nat->Nat×Value):aB->Value->Prop
 | .cq,_=>True
 | .v x,y=>y=x
 | .ba c,y=>y=.bool c
 | .J t k es,y=>bV w ω t.R (.J k es) y/\t.dT τ (k,y)
 | .ptr id off,y=>∃b,ω b=.box id/\y=.pointer (some ⟨b,off,none⟩)
 | .cE t k es i j,y=>∃b off cap,y=.pointer (some ⟨b,off+i*k+j,none⟩)/\i<es.length/\
   bV w ω t.R (.J k es) (.slice (some ⟨b,off,none⟩) es.length cap)/\t.dT τ (k,.slice (some ⟨b,off,none⟩) es.length cap)
 | .hF ds off,y=>∃b,y=.pointer (some ⟨b,off,none⟩)/\bV w ω Tag.free.R (.ptr ds) (ptrTo b)
 | .fd d,y=>bV w ω Tag.free.R d y
 | .gn g ids,y=>∃bs:List Nat,y=.func (.func g) #[] (bs.map ptrTo).toArray/\bs.length=ids.length/\∀(i:Nat) (id:Nat),ids[i]?=some id->∃b,bs[i]?=some b/\ω b=.box id
 | .de t k es,y=>bV w ω Tag.free.R (.J k es) y/\(c7<=t->τ t=(k,y))
 | .aO t i j k es m,y=>∃u,m.rel k es.length u y/\bV w ω (fun q o=>o=.tok t ((i,j)::q)) (.J k es) u/\(m.home=true->tf w ω τ t i j u)
 | .fa t vs,y=>∃(b:Nat) (ty:TypeId) (arr:Array Value),y=ptrTo b/\ω b=.tok t []/\w.heap[b]?=some (.cells arr ty (0,0))/\arr.size=vs.length/\∀(j:Nat) (c:eL),vs[j]?=some c->∃u,arr[j]?=some u/\p' w ω τ c u
inductive bu where
 | one (l:aB)
 | agg (ls:List aB)
inductive aJ where
 | aK (a:bu)
 | fJ (as:List bu)
abbrev aJ.one(l:aB):aJ:=.aK (.one l)
abbrev aJ.agg(ls:List aB):aJ:=.aK (.agg ls)
abbrev aJ.cq:aJ:=.aK (.one .cq)
def jW(S:aB->Value->Prop)(ls:List aB)(vs:Array Value):Prop:=
 vs.size=ls.length/\∀(i:Nat) (l:aB),ls[i]?=some l->∃u,vs[i]?=some u/\S l u
def jV(S:aB->Value->Prop):bu->Value->Prop
 | .one l,y=>S l y
 | .agg ls,y=>∃vs,y=.agg vs/\jW S ls vs
def cL(S:aB->Value->Prop):aJ->Value->Prop
 | .aK a,y=>jV S a y
 | .fJ as,y=>∃vs:Array Value,y=.tuple vs/\vs.size=as.length/\∀(i:Nat) (a:bu),as[i]?=some a->∃u,vs[i]?=some u/\jV S a u
structure aI where
 env:List aJ
 boxes:List (Nat×List aB)
def dp(id:Nat):List (Nat×List aB)->Option (List aB)
 | []=>none
 | (i,ls)::r=>if i=id then some ls else dp id r
def bu.map(f:aB->aB):bu->bu
 | .one l=>.one (f l)
 | .agg ls=>.agg (ls.map f)
def aJ.map(f:aB->aB):aJ->aJ
 | .aK a=>.aK (a.map f)
 | .fJ as=>.fJ (as.map (bu.map f))
def aI.map(f:aB->aB)(s:aI):aI:=⟨s.env.map (aJ.map f),s.boxes.map fun x=>(x.1,x.2.map f)⟩
variable{S:aB->Value->Prop}
theorem jW.map{kb:aB->Value->Prop}{f:aB->aB}(h:∀l v,S l v->kb (f l) v){ls:List aB}{vs:Array Value}(aj:jW S ls vs):jW kb (ls.map f) vs:=by
 refine⟨by simpa using aj.1,fun i l al=>?_⟩;rw[dj,b1]at al;obtain⟨fx,bN,rfl⟩:=al;obtain⟨u,h1,U⟩:=aj.2 i fx bN;exact⟨u,h1,h _ _ U⟩
theorem jV.map{kb:aB->Value->Prop}{f:aB->aB}(h:∀l v,S l v->kb (f l) v):∀{a:bu} {y:Value},jV S a y->jV kb (a.map f) y
 | .one l,y,aj=>h _ _ aj
 | .agg ls,y,⟨vs,e,aj⟩=>⟨vs,e,aj.map h⟩
theorem cL.map{kb:aB->Value->Prop}{f:aB->aB}(h:∀l v,S l v->kb (f l) v):∀{p:aJ} {y:Value},cL S p y->cL kb (p.map f) y
 | .aK a,y,aj=>show jV kb (a.map f) y from jV.map h (show jV S a y from aj)
 | .fJ as,y,⟨vs,e,aW,aj⟩=>⟨vs,e,by simpa using aW,fun i a ah=>by
   rw[dj,b1]at ah;obtain⟨a0,bN,rfl⟩:=ah;obtain⟨u,h1,U⟩:=aj i a0 bN;exact⟨u,h1,jV.map h U⟩⟩
theorem rZ(f:aB->aB)(id:Nat):∀bs:List (Nat×List aB),dp id (bs.map fun x=>(x.1,x.2.map f))=(dp id bs).map (·.map f)
 | []=>rfl
 | (i,ls)::r=>by
  simp only[k4,dp];split
  ·rfl
  exact rZ f id r
structure er where
 w:World
 G:Nat->Prop
 H:Nat->Nat×Value
def er.Cx(B:er)(b:Nat):Prop:=B.w.heap.size<=b\/B.G b
def Ix:Bool:=true
structure gk (n:Nat) (w aN:World):Prop where
 below:Below n w aN
 drawn:Ix=true->w.drawn<=aN.drawn
variable{n:Nat}
theorem gk.size(h:gk n w aN):w.heap.size<=aN.heap.size:=h.below.size
theorem gk.block(h:gk n w aN):∀k,k<n->aN.heap[k]?=w.heap[k]?:=h.below.block
theorem gk.refl(n:Nat)(w:World):gk n w w:=⟨Below.refl _ _,fun _=>fk _⟩
theorem gk.drew(h:gk n w aN):gk n w aN.drew:=⟨h.below.drew,fun aj=>Nat.le_succ_of_le (h.drawn aj)⟩
theorem gk.alloc(h:gk n w aN)(aW:n<=aN.heap.size)(o:Obj):gk n w (aN.alloc o):=⟨h.below.alloc aW o,h.drawn⟩
def AL:List (Nat×List Int):=[]
def o0(w:World):Prop:=∀x∈AL,∃ty cO,w.heap[x.1]?=some (.cells (x.2.map (Value.int .u64)).toArray ty cO)
theorem o0.lt(h:o0 w){x:Nat×List Int}(ag:x∈AL):x.1<w.heap.size:=by
 obtain⟨ty,cO,e⟩:=h x ag;rcases n4 x.1 w.heap.size with h | h
 ·exact h
 simp[Bt h]at e
def Tidy(w:World)(ω:Own):Prop:=o0 w/\∀x∈AL,ω x.1=.bB
structure gj (B:er) (w:World):Prop where
 os:w.os=B.w.os
 tape:w.tape=B.w.tape
 output:w.output=B.w.output
 size:B.w.heap.size<=w.heap.size
 block:∀k,k<B.w.heap.size->¬B.G k->w.heap[k]?=B.w.heap[k]?
 drawn:Ix=true->B.w.drawn<=w.drawn
 laid:o0 w
 free:∀x∈Go.Sx.AL,¬B.Cx x.1
theorem o0.next(h:o0 w)(k:gk w.heap.size w aN):o0 aN:=fun x ag=>by
 rw[k.below.block x.1 (h.lt ag)];exact h x ag
theorem gj.next{B:er}(h:gj B w)(k:gk w.heap.size w aN):gj B aN:=
 ⟨k.below.os.trans h.os,k.below.tape.trans h.tape,k.below.output.trans h.output,sv h.size k.below.size,fun i hi au=>(k.below.block i (xW hi h.size)).trans (h.block i hi au),fun aj=>sv (h.drawn aj) (k.drawn aj),h.laid.next k,h.free⟩
def er.of(w:World):er:=⟨w,fun _=>False,fun _=>(0,undef)⟩
theorem gj.refl(B:er)(h:o0 B.w)(au:∀x∈AL,¬B.G x.1):gj B B.w:=⟨rfl,rfl,rfl,fk _,fun _ _ _=>rfl,fun _=>fk _,h,fun x ag hm=>by
 rcases hm with hm | hm
 ·exact absurd (h.lt ag) (by omega)
 exact au x ag hm⟩
theorem gj.start{H:Nat->Nat×Value}(h:Tidy w ω):gj ⟨w,fun b=>ω b≠.bB,H⟩ w:=gj.refl ⟨w,fun b=>ω b≠.bB,H⟩ h.1 fun x ag hm=>hm (h.2 x ag)
theorem gj.below(h:gj (er.of w) aN):gk w.heap.size w aN:=⟨⟨h.os,h.tape,h.output,h.size,fun k hk=>h.block k hk (fun h=>h)⟩,h.drawn⟩
theorem gj.setRow{B:er}(h:gj B w){b:Nat}(ar:B.Cx b)(arr:Array Value):gj B (w.setRow b arr):=
 ⟨h.os,h.tape,h.output,by simpa using h.size,fun k hk au=>by
  have:k≠b:=by
   rintro rfl;rcases ar with ar | ar
   ·omega
   exact au ar
  rw[setRow_other w b k arr this];exact h.block k hk au,h.drawn,fun x ag=>by
  have:x.1≠b:=fun e=>h.free x ag (e▸ar)
  rw[setRow_other w b x.1 arr this];exact h.laid x ag,h.free⟩
def mX(w0:er)(w:World)(ω:Own):Prop:=∀b,ω b≠.bB->w0.Cx b/\∃arr ty,w.heap[b]?=some (.cells arr ty (0,0))
def sw(w:World)(ω:Own)(τ:Nat->Nat×Value)(id:Nat)(ls:List aB):Prop:=
 ∃b arr ty,ω b=.box id/\(∀cW,ω cW=.box id->cW=b)/\w.heap[b]?=some (.cells arr ty (0,0))/\jW (Sat w ω τ) ls arr
structure cy (w0:er) (st:aI) (a:Act) (w:World) (ω:Own) (τ:Nat->Nat×Value):Prop where
 defers:a.defers=[]
 size:a.tmps.size=st.env.length
 below:gj w0 w
 owned:mX w0 w ω
 fixed:∀t,c7<=t->τ t=w0.H t
 pinned:∀id b,c7<=id->ω b=.box id->(w0.H id).1=b
 env:∀(i:Nat) (p:aJ),st.env[i]?=some p->∃v,a.tmps[i]?=some v/\cL (Sat w ω τ) p v
 boxes:∀id ls,dp id st.boxes=some ls->sw w ω τ id ls
def Rel(w0:er)(st:aI)(a:Act)(w:World):Prop:=∃ω τ,cy w0 st a w ω τ
structure ug (B:er) (w:World):Prop where
 os:w.os=B.w.os
 tape:w.tape=B.w.tape
 output:w.output=B.w.output
 size:B.w.heap.size<=w.heap.size
 block:∀k,k<B.w.heap.size->¬B.G k->w.heap[k]?=B.w.heap[k]?
 drawn:Ix=true->B.w.drawn<=w.drawn
theorem ug.full{H:Nat->Nat×Value}(h:ug ⟨w,fun b=>ω b≠.bB,H⟩ aN)(bQ:Tidy w ω):gj ⟨w,fun b=>ω b≠.bB,H⟩ aN:=
 ⟨h.os,h.tape,h.output,h.size,h.block,h.drawn,fun x ag=>by
  rw[h.block x.1 (bQ.1.lt ag) fun aW=>aW (bQ.2 x ag)];exact bQ.1 x ag,(gj.start (H:=H) bQ).free⟩
variable{w0:er}
theorem cy.tidy{st:aI}{a:Act}{a1:Own}{τ:Nat->Nat×Value}(h:cy w0 st a w ω τ)(c8:∀b,ω b=.bB->a1 b=.bB):Tidy w a1:=
 ⟨h.below.laid,fun x ag=>c8 _ (Classical.byContradiction fun aW=>h.below.free x ag (h.owned _ aW).1)⟩
theorem mX.lt(h:mX w0 w ω){b:Nat}(ar:ω b≠.bB):b<w.heap.size:=by
 obtain⟨_,arr,ty,e⟩:=h b ar;rcases n4 b w.heap.size with h | h
 ·exact h
 simp[Bt h]at e
theorem mX.fresh(h:mX w0 w ω){b:Nat}(ar:w.heap.size<=b):ω b=.bB:=by
 cases e:ω b with
 | bB=>rfl
 | box id=>have:=h.lt (b:=b) (by simp[e]);omega
 | tok t q=>have:=h.lt (b:=b) (by simp[e]);omega
end Go.Sx
namespace Go.Sx
open Go.RowKit
def eL.ci(g:Tag->Option Tag):eL->eL
 | .J t k es=>match g t with | some c6=>.J c6 k es | none=>.cq
 | c=>c
def aB.ci(g:Tag->Option Tag)(p:Nat->Bool):aB->aB
 | .J t k es=>match g t with | some c6=>.J c6 k es | none=>.cq
 | .cE t k es i j=>match g t with | some c6=>.cE c6 k es i j | none=>.cq
 | .ptr id off=>if p id then .ptr id off else .cq
 | .gn f ids=>if ids.all p then .gn f ids else .cq
 | .aO t i j k es m=>match g (.own t) with | some (.own c6)=>if c6=t then .aO t i j k es m else .cq | _=>.cq
 | .fa t vs=>match g (.own t) with | some (.own c6)=>if c6=t then .fa t (vs.map (eL.ci g)) else .cq | _=>.cq
 | l=>l
structure k7 (w:World) (ω:Own) (τ:Nat->Nat×Value) (aN:World) (a1:Own) (cN:Nat->Nat×Value) (g:Tag->Option Tag) (p:Nat->Bool):Prop where
 rep:∀t c6 b q,g t=some c6->b<w.heap.size->t.R q (ω b)->c6.R q (a1 b)/\aN.heap[b]?=w.heap[b]?
 dT:∀t c6 y,g t=some c6->t.dT τ y->c6.dT cN y
 box:∀id b,p id=true->ω b=.box id->a1 b=.box id
 free:g .free=some .free
 fix:∀t,c7<=t->cN t=τ t
variable{w aN:World}{ω a1:Own}{τ cN:Nat->Nat×Value}{g:Tag->Option Tag}
theorem CN(h:∀c u,p' w ω τ c u->p' aN a1 cN (eL.ci g c) u){arr:Array Value}{vs:List eL}
  (aW:arr.size=vs.length) (bt:∀(j:Nat) (c:eL),vs[j]?=some c->∃u,arr[j]?=some u/\p' w ω τ c u):
  arr.size=(vs.map (eL.ci g)).length/\∀(j:Nat) (c:eL),(vs.map (eL.ci g))[j]?=some c->∃u,arr[j]?=some u/\p' aN a1 cN c u:=by
 refine⟨by simpa using aW,fun j c ai=>?_⟩;rw[dj,b1]at ai;obtain⟨dx,bN,rfl⟩:=ai;obtain⟨u,h1,U⟩:=bt j dx bN;exact⟨u,h1,h dx u U⟩
theorem k7.kQ{p:Nat->Bool}(h:k7 w ω τ aN a1 cN g p)(c:eL)(u:Value)(aj:p' w ω τ c u):p' aN a1 cN (eL.ci g c) u:=by
 cases c with
 | cq=>exact trivial
 | v x=>exact aj
 | J t k es=>
  simp only[eL.ci];cases au:g t with
  | none=>exact trivial
  | some c6=>exact⟨aj.1.frame fun b q ar aE=>h.rep t c6 b q au ar aE,h.dT t c6 _ au aj.2⟩
theorem k7.sat{g:Tag->Option Tag}{p:Nat->Bool}(h:k7 w ω τ aN a1 cN g p):
  ∀(l:aB) (v:Value),Sat w ω τ l v->Sat aN a1 cN (l.ci g p) v:=by
 intro l v aj;cases l with
 | cq=>exact trivial
 | v x=>exact aj
 | ba c=>exact aj
 | J t k es=>
  simp only[aB.ci];cases au:g t with
  | none=>exact trivial
  | some c6=>exact⟨aj.1.frame fun b q ar aE=>h.rep t c6 b q au ar aE,h.dT t c6 _ au aj.2⟩
 | ptr id off=>
  simp only[aB.ci];split
  ·obtain⟨b,ar,e⟩:=aj;exact⟨b,h.box id b ‹_› ar,e⟩
  exact trivial
 | gn f ids=>
  simp only[aB.ci];split
  ·rename_i hp;obtain⟨bs,e,aW,hi⟩:=aj;refine⟨bs,e,aW,fun i id fF=>?_⟩;obtain⟨b,h1,U⟩:=hi i id fF;exact⟨b,h1,h.box id b (fA.1 hp id (fl fF)) U⟩
  exact trivial
 | hF ds off=>
  obtain⟨b,e,aA⟩:=aj;exact⟨b,e,aA.frame fun b q ar aE=>h.rep .free .free b q h.free ar aE⟩
 | fd d=>exact bV.frame aj fun b q ar aE=>h.rep .free .free b q h.free ar aE
 | de t k es=>exact⟨aj.1.frame fun b q ar aE=>h.rep .free .free b q h.free ar aE,fun bQ=>(h.fix t bQ).trans (aj.2 bQ)⟩
 | aO t i j k es m=>
  simp only[aB.ci];split
  ·rename_i c6 au;split
   ·rename_i bQ;subst bQ;obtain⟨u,hu,h1,hm⟩:=aj;refine⟨u,hu,h1.frame fun c q ai aE=>h.rep _ _ c _ au ai aE,fun bJ=>?_⟩;obtain⟨kT,b,off,len,cap,arr,ty,cO,U,aU,aw,aH⟩:=hm bJ;have bz:b<w.heap.size:=(ik.1 aw).1;have hk:=h.rep _ _ b [] au bz aU;exact⟨kT,b,off,len,cap,arr,ty,cO,h.dT _ _ _ au U,hk.1,hk.2.trans aw,aH⟩
   exact trivial
  exact trivial
 | fa t vs=>
  simp only[aB.ci];split
  ·rename_i c6 au;split
   ·rename_i bQ;subst bQ;obtain⟨b,ty,arr,e,aU,aw,aW,bt⟩:=aj;have bz:b<w.heap.size:=(ik.1 aw).1;have hk:=h.rep _ _ b [] au bz aU;exact⟨b,ty,arr,e,hk.1,hk.2.trans aw,CN (h.kQ) aW bt⟩
   exact trivial
  exact trivial
 | cE t k es i j=>
  simp only[aB.ci];cases au:g t with
  | none=>exact trivial
  | some c6=>
   obtain⟨b,off,cap,e,hi,aA,bJ⟩:=aj;exact⟨b,off,cap,e,hi,aA.frame fun b q ar aE=>h.rep t c6 b q au ar aE,h.dT t c6 _ au bJ⟩
variable{a:Act}
theorem Wu{d:Nat}{v:Value}{i:Nat}:(a.put (some d) v).tmps[i]?=if d=i/\i<a.tmps.size then some v else a.tmps[i]?:=by
 simp only[Act.put,Array.getElem?_setIfInBounds];by_cases h:d=i
 ·subst h;by_cases U:d<a.tmps.size
  ·simp[U]
  simp[U]
 simp[h]
variable{w0:er}{st:aI}
theorem cy.put(h:cy w0 st a w ω τ){d:Nat}{p:aJ}{v:Value}(aj:cL (Sat w ω τ) p v):
  cy w0 ⟨st.env.set d p,st.boxes⟩ (a.put (some d) v) w ω τ where
 defers:=h.defers
 size:=by simp[Act.put,h.size]
 below:=h.below
 owned:=h.owned
 fixed:=h.fixed
 pinned:=h.pinned
 boxes:=h.boxes
 env:=by
  intro i q aE;rw[jR]at aE;rw[Wu];by_cases aD:d=i
  ·subst aD;simp only[gy]at aE;split at aE
   ·rename_i bz;have e:=eN aE;subst e;exact⟨v,by rw[br ⟨rfl,by rw[h.size];exact bz⟩],aj⟩
   cases aE
  rw[bh aD]at aE;rw[bh (by simp[aD])];exact h.env i q aE
theorem cy.FC{p:Nat->Bool}
  (h:cy w0 st a w ω τ) (e:k7 w ω τ aN a1 cN g p) (qf:gj w0 aN) (pv:mX w0 aN a1) {bs:List (Nat×List aB)}
  (qg:∀id ls,dp id bs=some ls->sw aN a1 cN id ls) (uS:∀id b,c7<=id->a1 b=.box id->ω b=.box id) (qj:∀t,c7<=t->cN t=τ t:=by intros;rfl):cy w0 ⟨st.env.map (aJ.map (aB.ci g p)),bs⟩ a aN a1 cN where
 defers:=h.defers
 size:=by simp[h.size]
 below:=qf
 owned:=pv
 fixed:=fun t bQ=>(qj t bQ).trans (h.fixed t bQ)
 pinned:=fun id b hi ar=>h.pinned id b hi (uS id b hi ar)
 boxes:=qg
 env:=by
  intro i q aE;rw[dj,b1]at aE;obtain⟨h',bN,rfl⟩:=aE;obtain⟨v,h1,U⟩:=h.env i h' bN;exact⟨v,h1,cL.map e.sat U⟩
theorem mC(w:World)(o:Obj):(w.alloc o).heap[w.heap.size]?=some o:=by
 show (w.heap.push o)[_]?=_;simp
theorem vt(w:World)(o:Obj){i:Nat}(h:i<w.heap.size):(w.alloc o).heap[i]?=w.heap[i]?:=Below.heap_alloc w o i h
def oD(id:Nat):List (Nat×List aB)->List (Nat×List aB)
 | []=>[]
 | (i,ls)::r=>if i=id then oD id r else (i,ls)::oD id r
theorem Iy(id:Nat):∀bs,dp id (oD id bs)=none
 | []=>rfl
 | (i,ls)::r=>by
  simp only[oD];split
  ·exact Iy id r
  simp only[dp];rw[bh ‹_›];exact Iy id r
theorem w'{id gE:Nat}(h:gE≠id):∀bs,dp gE (oD id bs)=dp gE bs
 | []=>rfl
 | (i,ls)::r=>by
  simp only[oD,dp];by_cases h1:i=id
  ·rw[br h1,bh (by omega)];exact w' h r
  rw[bh h1];simp only[dp];split
  ·rfl
  exact w' h r
def qs:Tag->Option Tag:=some
def jj(id:Nat):Nat->Bool:=fun i=>decide (i≠id)
def aI.s5(st:aI)(id:Nat)(ls:List aB):aI:=
 let f:=aB.ci qs (jj id)
 ⟨st.env.map (aJ.map f),(id,ls.map f)::(oD id st.boxes).map fun x=>(x.1,x.2.map f)⟩
theorem cy.s5(h:cy w0 st a w ω τ)(id:Nat)(fF:id<c7){ls:List aB}{arr:Array Value}(ty:TypeId)
  (aj:jW (Sat w ω τ) ls arr):
  ∃a1,cy w0 (st.s5 id ls) a (w.alloc (.cells arr ty)) a1 τ/\a1 w.heap.size=.box id:=by
 let a1:Own:=fun b=>if b=w.heap.size then .box id else match ω b with | .box i=>if i=id then .bB else .box i | o=>o
 have fN:a1 w.heap.size=.box id:=by simp[a1]
 have hold:∀b,b<w.heap.size->a1 b=(match ω b with | .box i=>if i=id then .bB else .box i | o=>o):=by
  intro b ar;simp only[a1];rw[bh (by omega)]
 have gD:∀b,b≠w.heap.size->a1 b=(match ω b with | .box i=>if i=id then .bB else .box i | o=>o):=by
  intro b ar;simp only[a1];rw[bh ar]
 have bi:k7 w ω τ (w.alloc (.cells arr ty)) a1 τ qs (jj id):=by
  refine⟨?_,?_,?_,rfl,fun _ _=>rfl⟩
  ·intro t c6 b q au ar aE;simp only[qs,aR]at au;subst au;refine⟨?_,vt _ _ ar⟩;rw[hold b ar];cases t with
   | free=>simp only[Tag.R]at aE ⊢;rw[aE]
   | own s=>simp only[Tag.R]at aE ⊢;rw[aE]
   | ro s=>
    simp only[Tag.R]at aE ⊢;rcases aE with aE | ⟨dm,aE⟩
    ·rw[aE];exact .inl rfl
    rw[aE];exact .inr ⟨dm,rfl⟩
  ·intro t c6 y au bl;simp only[qs,aR]at au;subst au;exact bl
  intro i b hp ar;have bz:=h.owned.lt (b:=b) (by simp[ar]);rw[hold b bz,ar];simp only[jj,cU]at hp;simp[hp]
 have qf:gj w0 (w.alloc (.cells arr ty)):=h.below.next ((gk.refl _ _).alloc (fk _) _);have pv:mX w0 (w.alloc (.cells arr ty)) a1:=by
  intro b ar;by_cases aW:b=w.heap.size
  ·subst aW;exact⟨.inl h.below.size,arr,ty,mC _ _⟩
  rw[gD b aW]at ar;have U:ω b≠.bB:=by intro e;rw[e]at ar;exact ar rfl
  obtain⟨aw,b7,p6,e⟩:=h.owned b U;exact⟨aw,b7,p6,(vt _ _ (h.owned.lt U)).trans e⟩
 refine⟨a1,?_,fN⟩;refine h.FC bi qf pv ?_ (fun i b hi ar=>?_)
 case refine_2=>
  by_cases aW:b=w.heap.size
  ·subst aW;rw[fN]at ar;simp only[cV.box.injEq]at ar;omega
  rw[gD b aW]at ar;cases e:ω b with
  | bB=>simp[e]at ar
  | tok t q=>simp[e]at ar
  | box j=>
   simp only[e]at ar;split at ar
   ·cases ar
   exact ar
 intro i eW al;simp only[dp]at al;split at al
 ·rename_i hi;subst hi;have e:=eN al;subst e;refine⟨w.heap.size,arr,ty,fN,?_,mC _ _,aj.map bi.sat⟩;intro cW dn;by_cases aW:cW=w.heap.size
  ·exact aW
  rw[gD cW aW]at dn;cases e:ω cW with
  | bB=>simp[e]at dn
  | tok t q=>simp[e]at dn
  | box j=>
   simp only[e]at dn;split at dn
   ·cases dn
   rename_i cB;simp only[cV.box.injEq]at dn;exact absurd dn cB
 rename_i hi;rw[rZ,b1]at al;obtain⟨iK,bN,rfl⟩:=al;have cB:i≠id:=fun e=>hi e.symm
 rw[w' cB]at bN;obtain⟨b,b7,p6,ar,hu,bJ,ey⟩:=h.boxes i iK bN;have bz:=h.owned.lt (b:=b) (by simp[ar]);refine⟨b,b7,p6,bi.box i b (by simp[jj,cB]) ar,?_,(vt _ _ bz).trans bJ,ey.map bi.sat⟩;intro cW dn;by_cases aW:cW=w.heap.size
 ·subst aW;rw[fN]at dn;simp only[cV.box.injEq]at dn;exact absurd dn.symm cB
 rw[gD cW aW]at dn;refine hu cW ?_;cases e:ω cW with
 | bB=>simp[e]at dn
 | tok t q=>simp[e]at dn
 | box j=>
  simp only[e]at dn;split at dn
  ·cases dn
  exact dn
end Go.Sx
namespace Go.Sx
open Go.RowKit
inductive cF where
 | one (d:D)
 | agg (ds:List D)
inductive aT where
 | vals (rs:List cF)
 | iN (src:List (Option Nat)) (ds:List D)
@[match_pattern] abbrev aT.new (ds : List D) : aT := .iN [] ds
inductive hl where
 | normal
 | exit (id:Nat)
 | ret
inductive b9 where
 | own
 | sub
 | qV (u1:List (List (Option (Option (List (List D)))))) (src:Nat) (ds:List D) (rs:List cF)
 | res (rs:List cF)
 | dr (u1:List (Option (List D))) (r:aT)
 | loop (Cy:List (Nat×Nat×Nat)) (fo boxes:List Nat) (e:hl) (st:aI)
 | n9 (b:Bool)
 | el (ds:List D)
 | wr
 | eq (c:Bool)
 | num (n:Int)
 | nJ (p:aJ)
 | ie (st:aI)
def cG:List Prop->Prop
 | []=>True
 | p::r=>p/\cG r
theorem cG.append:∀{a b:List Prop},cG (a++b)->cG a/\cG b
 | [],_,h=>⟨aa,h⟩
 | _::_,_,h=>⟨⟨h.1,(cG.append h.2).1⟩,(cG.append h.2).2⟩
abbrev jx:=Option (aJ×List b9×List Prop)
def BU:Value->aJ
 | .agg cs=>.agg (cs.toList.map .v)
 | v=>.one (.v v)
def aI.bi(st:aI):Operand->aJ
 | .tmp t=>st.env.getD t .cq
 | .const v=>BU v
 | .func f=>.one (.fd (.cl f []))
 | _=>.cq
theorem aks(w:World)(ω:Own)(τ:Nat->Nat×Value)(v:Value):cL (Sat w ω τ) (BU v) v:=by
 unfold BU;split
 ·rename_i cs;refine⟨cs,rfl,by simp,fun i l al=>?_⟩;rw[dj,b1]at al;obtain⟨u,hu,rfl⟩:=al;exact⟨u,by simpa using hu,rfl⟩
 exact rfl
variable{w:World}{ω:Own}{τ:Nat->Nat×Value}
theorem cy.bi{w0:er}{st:aI}{a:Act}(h:cy w0 st a w ω τ)(x:Operand):cL (Sat w ω τ) (st.bi x) (a.eval x):=by
 cases x with
 | tmp t=>
  simp only[aI.bi,Act.eval];cases e:st.env[t]? with
  | none=>
   rw[ii,e];exact trivial
  | some p=>
   obtain⟨v,bt,aj⟩:=h.env t p e;rw[ii,e];simpa[d',bt]using aj
 | const v=>exact aks w ω τ v
 | global g=>exact trivial
 | func f=>exact bV.cl _ f [] #[] (fun _=>undef) rfl (fun j d aD=>by simp at aD) (fun j d aD=>by simp at aD)
def aB.val:aB->Option Value
 | .v x=>some x
 | .ba c=>some (.bool c)
 | _=>none
variable{y:Value}
theorem aB.Uh{l:aB}{x:Value}(h:l.val=some x)(aj:Sat w ω τ l y):y=x:=by
 cases l<;>simp[aB.val]at h
 ·subst h;exact aj
 subst h;exact aj
def aJ.leaf:aJ->Option aB
 | .aK (.one l)=>some l
 | _=>none
theorem aJ.dB{S:aB->Value->Prop}{p:aJ}{l:aB}(h:p.leaf=some l)(aj:cL S p y):S l y:=by
 cases p with
 | fJ as=>cases h
 | aK a=>
  cases a with
  | agg ls=>cases h
  | one gu=>simp only[aJ.leaf,aR]at h;subst h;exact aj
def aJ.int(p:aJ):Option (IntKind×Int):=
 match p.leaf with
 | some (.v (.int k n))=>some (k,n)
 | _=>none
variable{p:aJ}{k:IntKind}
theorem aJ.nx{n:Int}(h:p.int=some (k,n))(aj:cL (Sat w ω τ) p y):y=.int k n:=by
 unfold aJ.int at h;split at h
 ·rename_i cp YG e;simp only[aR,bx]at h;obtain⟨rfl,rfl⟩:=h;exact aJ.dB e aj
 cases h
def aJ.vals:aJ->Option (List Value)
 | .aK (.agg ls)=>ls.mapM aB.val
 | _=>none
theorem OB{w:World}{ω:Own}{τ:Nat->Nat×Value}:∀{ls:List aB} {xs:List Value},ls.mapM aB.val=some xs->∀{vs:List Value},vs.length=ls.length->(∀(i:Nat) (l:aB),ls[i]?=some l->∃u,vs[i]?=some u/\Sat w ω τ l u)->vs=xs
 | [],xs,h,vs,aW,_=>by
  simp at h;subst h;exact vY aW
 | l::ls,xs,h,vs,aW,aj=>by
  rw[vZ]at h;cases e:l.val with
  | none=>simp[e]at h
  | some x=>
   cases e2:ls.mapM aB.val with
   | none=>simp[e,e2]at h
   | some ys=>
    simp[e,e2]at h;subst h;cases vs with
    | nil=>simp at aW
    | cons v vs=>
     obtain⟨u,hu,ey⟩:=aj 0 l rfl;simp at hu;subst hu;rw[aB.Uh e ey]
     congr 1
     exact OB e2 (by simpa using aW) (fun i gu al=>by have:=aj (i+1) gu (by simpa using al);simpa using this)
theorem aJ.as5{xs:List Value}(h:p.vals=some xs)(aj:cL (Sat w ω τ) p y):y=.agg xs.toArray:=by
 cases p with
 | fJ as=>cases h
 | aK a=>
  cases a with
  | one l=>cases h
  | agg ls=>
   obtain⟨vs,rfl,aW,bt⟩:=aj;have:=OB (w:=w) (ω:=ω) (τ:=τ) h (vs:=vs.toList) (by simpa using aW) (fun i l al=>by obtain⟨u,h1,U⟩:=bt i l al;exact⟨u,by simpa using h1,U⟩);rw[<-this]
def ay(k:IntKind)(e:Int):Prop:=
 match k with
 | .i64=>-9223372036854775808<=e/\e<=9223372036854775807
 | k=>k.wrap e=e
theorem ay.wrap{e:Int}(h:ay k e):k.wrap e=e:=by
 cases k<;>first | exact h | (simp only[ay]at h;rw[IntKind.wrap_i64];omega)
def arith(k:IntKind)(e:Int)(ans:List b9):jx:=
 match ans with
 | .wr::r=>some (.one (.v (.int k (k.wrap e))),r,[])
 | _=>some (.one (.v (.int k e)),ans,[ay k e])
variable{ans cd:List b9}{obs:List Prop}
theorem xa{e:Int}(h:arith k e ans=some (p,cd,obs))(aZ:cG obs):cL (Sat w ω τ) p (.int k (k.wrap e)):=by
 unfold arith at h;split at h
 ·simp only[aR,bx]at h;obtain⟨rfl,_,_⟩:=h;exact rfl
 simp only[aR,bx]at h;obtain⟨rfl,_,rfl⟩:=h;rw[aZ.1.wrap];exact rfl
def lv(P:Program)(op:BinOp)(t:TypeId)(x y:Operand)(u v c:Value):Prop:=
 ∀w:World,((do eqGuard op t x y u v;binOp op t u v:Sem Value)).run P w=.ok c w
def Iz(op:BinOp)(k:IntKind)(x y:Int)(ans:List b9):jx:=
 match op with
 | .add=>arith k (x+y) ans
 | .sub=>arith k (x-y) ans
 | .mul=>arith k (x*y) ans
 | .quo=>(arith k (x.tdiv y) ans).map fun r=>(r.1,r.2.1,(y≠0)::r.2.2)
 | .rem=>some (.one (.v (.int k (x.tmod y))),ans,[y≠0])
 | .eql=>some (.one (.ba (x==y)),ans,[])
 | .neq=>some (.one (.ba (x != y)),ans,[])
 | .lss=>some (.one (.ba (decide (x<y))),ans,[])
 | .leq=>some (.one (.ba (decide (x<=y))),ans,[])
 | .gtr=>some (.one (.ba (decide (x>y))),ans,[])
 | .geq=>some (.one (.ba (decide (x>=y))),ans,[])
 | _=>none
variable{P:Program}{op:BinOp}
theorem akt{x y:Int}(t:TypeId)(YP YQ:Operand)
  (h:Iz op k x y ans=some (p,cd,obs)) (aZ:cG obs):
  ∃v,((do eqGuard op t YP YQ (.int k x) (.int k y);binOp op t (.int k x) (.int k y):Sem Value)).run P w=.ok v w/\cL (Sat w ω τ) p v:=by
 rw[eqGuard_at_int];simp only[Sem.run_bind,Sem.run_pure,Result.andThen_ok];cases op<;>simp only[Iz,aR,bx,reduceCtorEq]at h
 case add=>exact⟨_,by rw[binOp_add];rfl,xa h aZ⟩
 case sub=>exact⟨_,by rw[binOp_sub];rfl,xa h aZ⟩
 case mul=>exact⟨_,by rw[binOp_mul];rfl,xa h aZ⟩
 case quo=>
  rw[b1]at h;obtain⟨⟨pJ,cz,oz⟩,h1,U⟩:=h;simp only[bx]at U;obtain⟨rfl,rfl,rfl⟩:=U;refine⟨_,?_,xa h1 aZ.2⟩;rw[binOp_quo];simp[Op.intDiv,aZ.1]
 case rem=>
  obtain⟨rfl,_,rfl⟩:=h;refine⟨_,?_,rfl⟩;rw[binOp_rem];simp[Op.intDiv,aZ.1]
 case eql=>obtain⟨rfl,_,rfl⟩:=h;exact⟨_,by rw[binOp_eql];rfl,rfl⟩
 case neq=>obtain⟨rfl,_,rfl⟩:=h;exact⟨_,by rw[binOp_neq];rfl,rfl⟩
 case lss=>obtain⟨rfl,_,rfl⟩:=h;exact⟨_,by rw[binOp_lss];rfl,rfl⟩
 case leq=>obtain⟨rfl,_,rfl⟩:=h;exact⟨_,by rw[binOp_leq];rfl,rfl⟩
 case gtr=>obtain⟨rfl,_,rfl⟩:=h;exact⟨_,by rw[binOp_gtr];rfl,rfl⟩
 case geq=>obtain⟨rfl,_,rfl⟩:=h;exact⟨_,by rw[binOp_geq];rfl,rfl⟩
def aJ.value(p:aJ):Option Value:=
 match p with
 | .aK (.one l)=>l.val
 | p=>p.vals.map fun xs=>.agg xs.toArray
theorem aJ.xP{x:Value}(h:p.value=some x)(aj:cL (Sat w ω τ) p y):y=x:=by
 unfold aJ.value at h;split at h
 ·exact aB.Uh h aj
 rw[b1]at h;obtain⟨xs,h1,rfl⟩:=h;exact aJ.as5 h1 aj
def vu(P:Program)(t:TypeId):Option Bool:=
 match P.underlying t with
 | some (.struct _) | some (.array _ _)=>some true
 | some _=>some false
 | none=>none
variable{t:TypeId}
theorem wY{b:Bool}(h:vu P t=some b)(w:World):(isAgg t).run P w=.ok b w:=by
 unfold vu at h;unfold isAgg;split at h
 ·rename_i hu;simp only[aR]at h;subst h;simp[run_underlying hu]
 ·rename_i hu;simp only[aR]at h;subst h;simp[run_underlying hu]
 ·rename_i d h1 U hu;simp only[aR]at h;subst h;rw[Sem.run_bind,run_underlying hu];cases d<;>first | rfl | (exact absurd rfl (h1 _)) | (exact absurd rfl (U _ _))
 cases h
def CC(P:Program)(t:TypeId)(cs:Array Value)(off:Nat):Option Value:=
 match vu P t,P.info? t with
 | some true,some i=>some (.agg (cs.extract off (off+i.size)))
 | some false,_=>cs[off]?
 | _,_=>none
variable{v:Value}
theorem OC{cs:Array Value}{off:Nat}(h:CC P t cs off=some v)(w:World):(part t cs off).run P w=.ok v w:=by
 unfold CC at h;split at h
 ·rename_i i e1 e2;simp only[aR]at h;subst h;simp[part,wY e1,sizeOf,typeInfo,e2]
 ·rename_i e1;simp[part,wY e1,h]
 cases h
def yg(P:Program)(f:TypeId->Value->Value->Option Bool)(xs ys:Array Value):List Field->Option Bool
 | []=>some true
 | fd::r=>
  if fd.name = "_" then none else
  match CC P fd.type xs fd.offset,CC P fd.type ys fd.offset with
  | some a,some b=>
   match f fd.type a b with
   | some c=>
    match r with
    | []=>some c
    | r=>(yg P f xs ys r).map fun jA=>c&&jA
   | none=>none
  | _,_=>none
def wk(P:Program):Nat->TypeId->Value->Value->Option Bool
 | 0,_,_,_=>none
 | m+1,t,x,y=>
  match P.underlying t,x,y with
  | some .bool,.bool a,.bool b=>some (a==b)
  | some (.int _),.int k a,.int cp b=>if k=cp then some (a==b) else none
  | some .string,.string a,.string b=>some (a.toList==b.toList)
  | some (.struct eH),.agg xs,.agg ys=>if P.stoodInHeld t then none else yg P (wk P m) xs ys eH.toList
  | _,_,_=>none
theorem OD{d:Nat}{f:TypeId->Value->Value->Option Bool}(bT:∀t x y c,f t x y=some c->∀w,(Op.equalIn d t x y).run P w=.ok c w){xs ys:Array Value}:
  ∀{eH:List Field} {c:Bool},yg P f xs ys eH=some c->∀w,(Op.eqFields d xs ys eH).run P w=.ok c w
 | [],c,h,w=>by simp only[yg,aR]at h;subst h;simp[Op.eqFields]
 | fd::r,c,h,w=>by
  simp only[yg]at h;split at h
  ·cases h
  rename_i aW;split at h
  ·rename_i a b e1 e2;split at h
   ·rename_i c1 cb;simp only [Op.eqFields, br (show fd.name ≠ "_" from aW), Sem.run_bind, OC e1, OC e2, Result.andThen_ok, bT _ _ _ _ cb, Sem.run_ite];split at h
    ·simp only[aR]at h;subst h;cases c1<;>simp[Op.eqFields]
    ·rw[b1]at h;obtain⟨c2,h1,rfl⟩:=h;have:=OD bT h1 w;cases c1<;>simp[this]
   cases h
  cases h
theorem OE:∀{m:Nat} {t:TypeId} {x y:Value} {c:Bool},wk P m t x y=some c->∀(d:Nat) (w:World),(Op.equalIn (d+m) t x y).run P w=.ok c w
 | 0,_,_,_,_,h,_,_=>by cases h
 | m+1,t,x,y,c,h,d,w=>by
  rw[show d+(m+1)=(d+m)+1 from rfl];simp only[wk]at h;split at h
  ·rename_i a b e;simp only[aR]at h;subst h;exact run_equalIn_bool w _ t a b e
  ·rename_i cp k a b5 b e;split at h
   ·rename_i hk;subst hk;simp only[aR]at h;subst h;exact run_equalIn_int w _ t k cp a b e
   cases h
  ·rename_i a b e;simp only[aR]at h;subst h;exact run_equalIn_string w _ t a b e
  ·rename_i eH xs ys e;split at h
   ·cases h
   rename_i aj;have Ns:P.fieldsOf t=eH:=by simp[Program.fieldsOf,e]
   rw[run_equalIn_struct w _ t xs ys (by rw[Ns];exact e) (by simpa using aj),Ns];exact OD (fun t x y c h w=>OE h d w) h w
  cases h
def FB(P:Program)(op:BinOp)(t:TypeId)(u v:Value):Option Bool:=
 match op,u,v with
 | .eql,.agg xs,.agg ys=>if P.eqGuardType P.depth t then none else wk P 20 t (.agg xs) (.agg ys)
 | .neq,.agg xs,.agg ys=>if P.eqGuardType P.depth t then none else (wk P 20 t (.agg xs) (.agg ys)).map fun c=>!c
 | .eql,.bool a,.bool b=>match P.underlying t with | some .bool=>some (a==b) | _=>none
 | .neq,.bool a,.bool b=>match P.underlying t with | some .bool=>some (!(a==b)) | _=>none
 | .eql,.string a,.string b=>match P.underlying t with | some .string=>some (a.toList==b.toList) | _=>none
 | .neq,.string a,.string b=>match P.underlying t with | some .string=>some (!(a.toList==b.toList)) | _=>none
 | _,_,_=>none
theorem aku{x y:Operand}{u:Value}{c:Bool}(h:FB P op t u v=some c):lv P op t x y u v (.bool c):=by
 intro w;have eU:∀{x y:Value} {c:Bool},wk P 20 t x y=some c->(Op.equalIn 10000 t x y).run P w=.ok c w:=fun h=>OE h 9980 w
 unfold FB at h;split at h
 ·rename_i xs ys;split at h
  ·cases h
  rename_i au;simp[run_eqGuard_agg w .eql t x y xs ys (by simpa using au),run_eql_struct,eU h]
 ·rename_i xs ys;split at h
  ·cases h
  rename_i au;rw[b1]at h;obtain⟨jA,h1,rfl⟩:=h;simp[run_eqGuard_agg w .neq t x y xs ys (by simpa using au),run_neq_struct,eU h1]
 ·rename_i a b;split at h
  ·rename_i e;simp only[aR]at h;subst h;simp[eqGuard,binOp,run_equal_bool w t a b e]
  cases h
 ·rename_i a b;split at h
  ·rename_i e;simp only[aR]at h;subst h;simp[eqGuard,binOp,run_equal_bool w t a b e]
  cases h
 ·rename_i a b;split at h
  ·simp only[aR]at h;subst h;simp[eqGuard,binOp,Op.stringOp,beq_toListBytes]
  cases h
 ·rename_i a b;split at h
  ·simp only[aR]at h;subst h;simp[eqGuard,binOp,Op.stringOp,beq_toListBytes]
  cases h
 cases h
def IA(P:Program)(op:BinOp)(t:TypeId)(x y:Operand)(p q:aJ)(ans:List b9):jx:=
 match p.int,q.int with
 | some (k,a),some (cp,b)=>
  match (if k=cp then Iz op k a b ans else none) with
  | some r=>some r
  | none=>
   match ans with
   | .nJ (.aK (.one (.v c)))::r=>some (.one (.v c),r,[lv P op t x y (.int k a) (.int cp b) c])
   | _=>none
 | _,_=>
  match (match p.value,q.value with | some u,some v=>FB P op t u v | _,_=>none) with
  | some c=>some (.one (.ba c),ans,[])
  | none=>
  match p.value,q.value,ans with
  | some u,some v,.eq c::r=>some (.one (.ba c),r,[lv P op t x y u v (.bool c)])
  | some u,some v,.nJ (.aK (.one (.v c)))::r=>some (.one (.v c),r,[lv P op t x y u v c])
  | _,_,_=>none
theorem akv{x y:Operand}{q r:aJ}{u:Value}
  (hp:cL (Sat w ω τ) p u) (aE:cL (Sat w ω τ) q v) (h:IA P op t x y p q ans=some (r,cd,obs)) (aZ:cG obs):
  ∃z,((do eqGuard op t x y u v;binOp op t u v:Sem Value)).run P w=.ok z w/\cL (Sat w ω τ) r z:=by
 unfold IA at h;split at h
 ·rename_i k a cp b e1 e2;rw[aJ.nx e1 hp,aJ.nx e2 aE];split at h
  ·rename_i j8 cb;simp only[aR]at h;subst h;split at cb
   ·rename_i hk;subst hk;exact akt t x y cb aZ
   cases cb
  split at h
  ·rename_i c j8 _;simp only[aR,bx]at h;obtain⟨rfl,_,rfl⟩:=h;exact⟨_,aZ.1 w,rfl⟩
  cases h
 split at h
 ·rename_i c bE;simp only[aR,bx]at h;obtain⟨rfl,_,_⟩:=h;split at bE
  ·rename_i sr oO e1 e2;rw[aJ.xP e1 hp,aJ.xP e2 aE];exact⟨_,aku bE w,rfl⟩
  cases bE
 split at h
 ·rename_i sr oO c j8 e1 e2;simp only[aR,bx]at h;obtain⟨rfl,_,rfl⟩:=h;rw[aJ.xP e1 hp,aJ.xP e2 aE];exact⟨_,aZ.1 w,rfl⟩
 ·rename_i sr oO c j8 e1 e2;simp only[aR,bx]at h;obtain⟨rfl,_,rfl⟩:=h;rw[aJ.xP e1 hp,aJ.xP e2 aE];exact⟨_,aZ.1 w,rfl⟩
 cases h
end Go.Sx
namespace Go.Sx
open Go.RowKit
def Tag.Eh:Tag->Tag
 | .free=>.free
 | .own t=>.ro t
 | .ro t=>.ro t
theorem Tag.Lv{t:Tag}{q dm:List (Nat×Nat)}{o:cV}(h:t.R q o):t.Eh.R dm o:=by
 cases t with
 | free=>exact h
 | own s=>exact .inr ⟨q,h⟩
 | ro s=>exact h
variable{τ:Nat->Nat×Value}
theorem Tag.Lw{t:Tag}{y:Nat×Value}:t.Eh.dT τ y:=by cases t<;>exact trivial
def D.leaf(t:Tag):D->aB
 | .v (.bool c)=>.ba c
 | .v x=>.v x
 | .J k es=>.J t.Eh k es
 | .ptr ds=>match t with | .free=>.hF ds 0 | _=>.cq
 | .cl g bC=>match t with | .free=>.fd (.cl g bC) | _=>.cq
variable{w:World}{ω:Own}
theorem D.dB{τ:Nat->Nat×Value}{t:Tag}{p:Nat×Nat}{d:D}{u:Value}(h:bV w ω (fun q=>t.R (p::q)) d u):Sat w ω τ (d.leaf t) u:=by
 cases d with
 | v x=>
  have e:u=x:=by cases h;rfl
  subst e;unfold D.leaf;split
  ·rename_i h;cases h;exact rfl
  ·rename_i h;cases h;exact rfl
  ·rename_i h;cases h
  ·rename_i h;cases h
  rename_i h;cases h
 | J k es=>exact⟨h.frame fun b q ar aE=>⟨Tag.Lv aE,rfl⟩,Tag.Lw⟩
 | ptr ds=>
  cases t with
  | free=>
   have U:bV w ω Tag.free.R (.ptr ds) u:=h;have aw:=U;cases aw with
   | ptr R ds b arr ty cO us ar dM aj hu aD=>exact⟨b,rfl,U⟩
  | own s=>exact trivial
  | ro s=>exact trivial
 | cl g bC=>
  cases t with
  | free=>exact h
  | own s=>exact trivial
  | ro s=>exact trivial
def D.Oh(t i j:Nat):D->aB
 | .J k es=>.aO t i j k es .here
 | d=>d.leaf (.own t)
def tg(t i:Nat):Nat->List D->List aB
 | _,[]=>[]
 | j,d::ds=>d.Oh t i j::tg t i (j+1) ds
theorem OF(t i:Nat):∀(ds:List D) (j x:Nat),(tg t i j ds)[x]?=(ds[x]?).map (D.Oh t i (j+x))
 | [],_,_=>by simp[tg]
 | d::ds,j,0=>by simp[tg]
 | d::ds,j,x+1=>by
  simp only[tg,mR,OF t i ds (j+1) x];rw[show j+1+x=j+(x+1) by omega]
theorem OG(t i:Nat):∀(ds:List D) (j:Nat),(tg t i j ds).length=ds.length
 | [],_=>rfl
 | d::ds,j=>by simp[tg,OG t i ds (j+1)]
def H5(P:Program)(s:TypeId)(f:Nat):Option Nat:=
 match P.underlying s with
 | some (.struct eH)=>
  match eH[f]? with
  | some fd=>
   match P.info? fd.type with
   | some i=>if i.size=0 then none else some fd.offset
   | none=>none
  | none=>none
 | _=>none
theorem pL(b off n:Nat):(⟨b,off,none⟩:Addr).add n=⟨b,off+n,none⟩:=by
 unfold Addr.add;split
 ·rename_i h;simp[h]
 rfl
variable{P:Program}{off:Nat}
theorem CO{s:TypeId}{f:Nat}(h:H5 P s f=some off)(w:World)(b o:Nat):
  (Instr.fieldAt s (.pointer (some ⟨b,o,none⟩)) f).run P w=.ok (.pointer (some ⟨b,o+off,none⟩)) w:=by
 unfold H5 at h;split at h
 ·rename_i eH hu;split at h
  ·rename_i fd bT;split at h
   ·rename_i i hi;split at h
    ·cases h
    rename_i bf;simp only[aR]at h;subst h;simp[Instr.fieldAt,run_underlying hu,bT,Instr.sureAddr,fieldPlace,sizeOf,typeInfo,hi,bf,pL]
   cases h
  cases h
 cases h
def H6(P:Program)(s:TypeId)(p:aJ)(f:Nat)(ans:List b9):jx:=
 match H5 P s f,p.leaf with
 | some off,some (.ptr id o)=>some (.one (.ptr id (o+off)),ans,[])
 | some off,some (.cE t k es i j)=>some (.one (.cE t k es i (j+off)),ans,[])
 | some off,some (.hF ds o)=>some (.one (.hF ds (o+off)),ans,[])
 | some off,some (.aO t i j k es (.at_ x y))=>some (.one (.aO t i j k es (.at_ x (y+off))),ans,[])
 | _,_=>none
variable{p r:aJ}{v:Value}{ans cd:List b9}{obs:List Prop}
theorem akw{s:TypeId}{f:Nat}
  (hp:cL (Sat w ω τ) p v) (h:H6 P s p f ans=some (r,cd,obs)):
  ∃z,(Instr.fieldAt s v f).run P w=.ok z w/\cL (Sat w ω τ) r z:=by
 unfold H6 at h;split at h
 ·rename_i off id o e1 e2;simp only[aR,bx]at h;obtain⟨rfl,_,rfl⟩:=h;obtain⟨b,ar,rfl⟩:=aJ.dB e2 hp;exact⟨_,CO e1 w b o,b,ar,rfl⟩
 ·rename_i off t k es i j e1 e2;simp only[aR,bx]at h;obtain⟨rfl,_,rfl⟩:=h;obtain⟨b,o,cap,rfl,hi,aA,bJ⟩:=aJ.dB e2 hp;exact⟨_,CO e1 w b _,b,o,cap,by rw[v8],hi,aA,bJ⟩
 ·rename_i off ds o e1 e2;simp only[aR,bx]at h;obtain⟨rfl,_,rfl⟩:=h;obtain⟨b,rfl,aA⟩:=aJ.dB e2 hp;exact⟨_,CO e1 w b o,b,rfl,aA⟩
 ·rename_i off t i j k es x y e1 e2;simp only[aR,bx]at h;obtain⟨rfl,_,rfl⟩:=h;obtain⟨u,⟨b,o,cap,rfl,rfl,ag⟩,aA,hm⟩:=aJ.dB e2 hp;exact⟨_,CO e1 w b _,_,⟨b,o,cap,rfl,by rw[v8],ag⟩,aA,fun _=>hm rfl⟩
 cases h
def pM(P:Program)(t:TypeId):Option (TypeId×Nat):=
 match P.underlying t with
 | some (.slice e)=>(P.info? e).map fun i=>(e,i.size)
 | _=>none
variable{t:TypeId}
theorem vv{e:TypeId}{k:Nat}(h:pM P t=some (e,k)):P.underlying t=some (.slice e)/\∃i,P.info? e=some i/\i.size=k:=by
 unfold pM at h;split at h
 ·rename_i e' hu;rw[b1]at h;obtain⟨i,hi,h⟩:=h;simp only[bx]at h;obtain⟨rfl,rfl⟩:=h;exact⟨hu,i,hi,rfl⟩
 cases h
def aB.flat:aB->aB
 | .de _ k es=>.J .free k es
 | l=>l
def aJ.ki(p:aJ):Option aB:=p.leaf.map aB.flat
variable{y:Value}{l:aB}
theorem aJ.uX(h:p.ki=some l)(aj:cL (Sat w ω τ) p y):Sat w ω τ l y:=by
 unfold aJ.ki at h;rw[b1]at h;obtain⟨fx,bN,rfl⟩:=h;have:=aJ.dB bN aj;unfold aB.flat;split
 ·exact⟨this.1,aa⟩
 exact this
def H7(P:Program)(t:TypeId)(p q:aJ)(ans:List b9):jx:=
 match pM P t,p.ki,q.int with
 | some (_,k),some (.J tag cp es),some (_,n)=>if k=cp then some (.one (.cE tag cp es n.toNat 0),ans,[0<=n,n<(es.length:Int)]) else none
 | some (_,k),some (.aO s i j cp es .here),some (_,n)=>if k=cp then some (.one (.aO s i j cp es (.at_ n.toNat 0)),ans,[0<=n,n<(es.length:Int)]) else none
 | _,_,_=>none
theorem aj2{q:aJ}{u:Value}
  (hp:cL (Sat w ω τ) p u) (aE:cL (Sat w ω τ) q v) (h:H7 P t p q ans=some (r,cd,obs)) (aZ:cG obs):
  ∃z,(Instr.indexAt t u v).run P w=.ok z w/\cL (Sat w ω τ) r z:=by
 unfold H7 at h;split at h
 ·rename_i e k tag cp es za n e1 e2 cb;split at h
  ·rename_i hk;subst hk;simp only[aR,bx]at h;obtain⟨rfl,_,rfl⟩:=h;obtain⟨hu,i,hi,bf⟩:=vv e1;obtain⟨aA,bJ⟩:=aJ.uX e2 hp;rw[aJ.nx cb aE];have bN:0<=n:=aZ.1;have h1:n<(es.length:Int):=aZ.2.1;cases aA with
   | nil=>simp at h1;omega
   | row R k es b off cap arr ty cO us ar dM ai aj hk je aD=>
    refine⟨.pointer (some ⟨b,off+n.toNat*k+0,none⟩),?_,b,off,cap,rfl,by omega,.row _ k es b off cap arr ty cO us ar dM ai aj hk je aD,bJ⟩;simp[Instr.indexAt,run_underlying hu,asIntOf,bN,h1,sizeOf,typeInfo,hi,bf,pL]
  cases h
 ·rename_i e k s AJ AK cp es za n e1 e2 cb;split at h
  ·rename_i hk;subst hk;simp only[aR,bx]at h;obtain⟨rfl,_,rfl⟩:=h;obtain⟨hu,i,hi,bf⟩:=vv e1;obtain⟨hX,rfl,aA,hm⟩:=aJ.uX e2 hp;rw[aJ.nx cb aE];have bN:0<=n:=aZ.1;have h1:n<(es.length:Int):=aZ.2.1;cases aA with
   | nil=>simp at h1;omega
   | row R k es b off cap arr ty cO us ar dM ai aj hk je aD=>
    refine⟨.pointer (some ⟨b,off+n.toNat*k+0,none⟩),?_,_,⟨b,off,cap,rfl,rfl,by omega⟩,.row _ k es b off cap arr ty cO us ar dM ai aj hk je aD,hm⟩;simp[Instr.indexAt,run_underlying hu,asIntOf,bN,h1,sizeOf,typeInfo,hi,bf,pL]
  cases h
 cases h
theorem aj3{P:Program}{b n:Nat}{arr:Array Value}{ty:TypeId}{cO:Nat×Nat}(ar:w.heap[b]?=some (.cells arr ty cO))(aW:off+n<=arr.size):
  (loadCells ⟨b,off,none⟩ n).run P w=.ok (arr.extract off (off+n)) w:=by
 have al:((arr.extract off (off+n)).toList).length=n:=by simp;omega
 have:=run_loadCells_list (P:=P) w ⟨b,off,none⟩ (arr.extract off (off+n)).toList (fun j v bt=>by
  rw[pL,cell_of_row w b (off+j) arr ty cO ar];rw[iC,Array.getElem?_extract]at bt;split at bt
  ·exact bt
  cases bt)
 rw[al,Array.toArray_toList]at this;exact this
def qH(agg:Bool)(n:Nat)(ls:List aB)(off:Nat):Option aJ:=
 if agg then (if off+n<=ls.length then some (.agg ((ls.drop off).take n)) else none)
 else (ls[off]?).map fun l=>.one l
theorem wZ{P:Program}{ω:Own}{τ:Nat->Nat×Value}{agg:Bool}{i:TypeInfo}{ls:List aB}(ah:vu P t=some agg)(hi:P.info? t=some i)
  (h:qH agg i.size ls off=some p) {b base:Nat} {arr:Array Value} {ty:TypeId} {cO:Nat×Nat} (ar:w.heap[b]?=some (.cells arr ty cO)) (di:base+ls.length<=arr.size)
  (aj:∀(j:Nat) (l:aB),ls[j]?=some l->∃u,arr[base+j]?=some u/\Sat w ω τ l u):
  ∃z,(loadVar t ⟨b,base+off,none⟩).run P w=.ok z w/\cL (Sat w ω τ) p z:=by
 unfold qH at h;cases agg with
 | true=>
  simp only[gy]at h;split at h
  ·rename_i hle;simp only[aR]at h;subst h;refine⟨.agg (arr.extract (base+off) (base+off+i.size)),?_,?_⟩
   ·simp[loadVar,wY ah,sizeOf,typeInfo,hi,aj3 (P:=P) ar (show base+off+i.size<=arr.size by omega)]
   refine⟨_,rfl,by simp;omega,fun j l al=>?_⟩;rw[hh]at al;split at al
   ·rw[gQ]at al;obtain⟨u,h1,U⟩:=aj _ l al;refine⟨u,?_,U⟩;rw[Array.getElem?_extract,br (by omega),<-h1]
    congr 1
    omega
   cases al
  cases h
 | false=>
  simp only[oU,lD,b1]at h;obtain⟨l,al,rfl⟩:=h;obtain⟨u,h1,U⟩:=aj _ l al;refine⟨u,?_,U⟩;simp[loadVar,wY ah,cell_of_row w b (base+off) arr ty cO ar,h1]
def CP(P:Program)(st:aI)(t:TypeId)(p:aJ)(ans:List b9):jx:=
 match vu P t,P.info? t,p.leaf with
 | some agg,some i,some (.ptr id off)=>
  match dp id st.boxes with
  | some ls=>(qH agg i.size ls off).map fun r=>(r,ans,[])
  | none=>none
 | some agg,some i,some (.cE tag k es x j)=>
  match ans with
  | .el ds::r=>if ds.length=k then (qH agg i.size (ds.map (D.leaf tag)) j).map fun v=>(v,r,[es[x]?=some ds]) else none
  | .sub::.el ds::r=>
   match tag with
   | .own t=>if ds.length=k then (qH agg i.size (tg t x 0 ds) j).map fun v=>(v,r,[es[x]?=some ds]) else none
   | _=>none
  | _=>none
 | some agg,some i,some (.hF ds off)=>(qH agg i.size (ds.map (D.leaf .free)) off).map fun r=>(r,ans,[])
 | some agg,some i,some (.aO s _ _ k es (.at_ x y))=>
  match ans with
  | .el ds::r=>if ds.length=k then (qH agg i.size (ds.map (D.leaf (.ro s))) y).map fun v=>(v,r,[es[x]?=some ds]) else none
  | _=>none
 | _,_,_=>none
variable{w0:er}{a:Act}{st:aI}
theorem aj4
  (aV:cy w0 st a w ω τ) (hp:cL (Sat w ω τ) p v) (h:CP P st t p ans=some (r,cd,obs)) (aZ:cG obs):
  ∃z,(Instr.loadAt t v).run P w=.ok z w/\cL (Sat w ω τ) r z:=by
 unfold CP at h;split at h
 ·rename_i agg i id off e1 e2 cb;split at h
  ·rename_i ls cn;rw[b1]at h;obtain⟨j8,h1,h⟩:=h;simp only[bx]at h;obtain⟨rfl,rfl,rfl⟩:=h;obtain⟨b,ar,rfl⟩:=aJ.dB cb hp;obtain⟨cW,arr,ty,dn,y1,Gh,di,ey⟩:=aV.boxes id ls cn;have:=y1 b ar;subst this;have:=wZ (P:=P) e1 e2 h1 Gh (base:=0) (by omega) (fun j l al=>by simpa using ey j l al);simpa[Instr.loadAt,Instr.sureAddr]using this
  cases h
 ·rename_i agg i tag k es x j e1 e2 cb;split at h
  ·rename_i ds hd;split at h
   ·rename_i hlen;rw[b1]at h;obtain⟨j8,h1,h⟩:=h;simp only[bx]at h;obtain⟨rfl,rfl,rfl⟩:=h;have ek:es[x]?=some ds:=aZ.1;obtain⟨b,off,cap,rfl,hi,aA,bJ⟩:=aJ.dB cb hp;cases aA with
    | nil=>simp at hi
    | row R k es b off cap arr ty cO us ar dM ai aj hk hu aD=>
     have Ny:x*k+k<=cap*k:=by
      have:(x+1)*k<=cap*k:=gR k (by omega);rw[fu]at this;omega
     have:=wZ (P:=P) (τ:=τ) (ω:=ω) e1 e2 h1 ar (base:=off+x*k) (by simp[hlen];omega) (fun iq l al=>by
      rw[dj,b1]at al;obtain⟨d,U,rfl⟩:=al;have ai:cY es x iq=some d:=by simp[cY,ek,U]
      exact⟨us x iq,hu x iq d ai,D.dB (aD x iq d ai)⟩)
     simpa[Instr.loadAt,Instr.sureAddr]using this
   cases h
  ·rename_i ds hd;split at h
   ·rename_i t;split at h
    ·rename_i hlen;rw[b1]at h;obtain⟨j8,h1,h⟩:=h;simp only[bx]at h;obtain⟨rfl,rfl,rfl⟩:=h;have ek:es[x]?=some ds:=aZ.1;obtain⟨b,off,cap,rfl,hi,aA,bJ⟩:=aJ.dB cb hp;cases aA with
     | nil=>simp at hi
     | row R k es b off cap arr ty cO us ar dM ai aj hk hu aD=>
      have Ny:x*k+k<=cap*k:=by
       have:(x+1)*k<=cap*k:=gR k (by omega);rw[fu]at this;omega
      have:=wZ (P:=P) (τ:=τ) (ω:=ω) e1 e2 h1 ar (base:=off+x*k) (by simp[OG,hlen];omega) (fun iq l al=>by
       rw[OF,b1]at al;obtain⟨d,U,rfl⟩:=al;rw[dg];have ai:cY es x iq=some d:=by simp[cY,ek,U]
       have Ca:=aD x iq d ai;refine⟨us x iq,hu x iq d ai,?_⟩;cases d with
       | J b5 bO=>exact⟨_,rfl,Ca,fun _=>⟨k,b,off,es.length,cap,arr,ty,cO,bJ,dM,ar,hu x iq _ ai⟩⟩
       | v z=>exact D.dB (t:=.own t) (p:=(x,iq)) Ca
       | ptr ds=>exact D.dB (t:=.own t) (p:=(x,iq)) Ca
       | cl g cs=>exact D.dB (t:=.own t) (p:=(x,iq)) Ca)
      simpa[Instr.loadAt,Instr.sureAddr]using this
    cases h
   cases h
  cases h
 ·rename_i agg i ds off e1 e2 cb;rw[b1]at h;obtain⟨j8,h1,h⟩:=h;simp only[bx]at h;obtain⟨rfl,rfl,rfl⟩:=h;obtain⟨b,rfl,aA⟩:=aJ.dB cb hp;have dX:bV w ω Tag.free.R (.ptr ds) (.pointer (some ⟨b,0,none⟩)):=aA;cases dX with
  | ptr R ds b arr ty cO us ar dM aj hu aD=>
   have:=wZ (P:=P) (τ:=τ) (ω:=ω) e1 e2 h1 ar (base:=0) (by simp;omega) (fun iq l al=>by
    rw[dj,b1]at al;obtain⟨d,U,rfl⟩:=al;exact⟨us iq,by simpa using hu iq d U,D.dB (p:=(0,iq)) (aD iq d U)⟩)
   simpa[Instr.loadAt,Instr.sureAddr]using this
 ·rename_i agg i s AJ AK k es x y e1 e2 cb;split at h
  ·rename_i ds hd;split at h
   ·rename_i hlen;rw[b1]at h;obtain⟨j8,h1,h⟩:=h;simp only[bx]at h;obtain⟨rfl,rfl,rfl⟩:=h;have ek:es[x]?=some ds:=aZ.1;obtain⟨hX,⟨b,off,cap,rfl,rfl,hi⟩,aA,hm⟩:=aJ.dB cb hp;cases aA with
    | nil=>simp at hi
    | row R k es b off cap arr ty cO us ar dM ai aj hk hu aD=>
     have Ny:x*k+k<=cap*k:=by
      have:(x+1)*k<=cap*k:=gR k (by omega);rw[fu]at this;omega
     have:=wZ (P:=P) (τ:=τ) (ω:=ω) e1 e2 h1 ar (base:=off+x*k) (by simp[hlen];omega) (fun iq l al=>by
      rw[dj,b1]at al;obtain⟨d,U,rfl⟩:=al;have ai:cY es x iq=some d:=by simp[cY,ek,U]
      refine⟨us x iq,hu x iq d ai,D.dB (t:=.ro s) (p:=(x,iq)) ((aD x iq d ai).frame fun b q _ aE=>⟨.inr ⟨_,aE⟩,rfl⟩)⟩)
     simpa[Instr.loadAt,Instr.sureAddr]using this
   cases h
  cases h
 cases h
def H8(P:Program)(t:TypeId)(p:aJ)(ans:List b9):jx:=
 match P.underlying t,p.ki with
 | some (.slice _),some (.J _ _ es)=>some (.one (.v (.int .i64 es.length)),ans,[])
 | some (.slice _),some (.v (.slice _ n _))=>some (.one (.v (.int .i64 n)),ans,[])
 | some (.slice _),some (.aO _ _ _ _ es .here)=>some (.one (.v (.int .i64 es.length)),ans,[])
 | some (.slice _),some (.aO _ _ _ _ es .k8)=>some (.one (.v (.int .i64 es.length)),ans,[])
 | some .string,some (.v (.string s))=>some (.one (.v (.int .i64 s.size)),ans,[])
 | _,_=>none
theorem bV.len{R:List (Nat×Nat)->cV->Prop}{k:Nat}{es:List (List D)}(h:bV w ω R (.J k es) y):∃b c,y=.slice b es.length c:=by
 cases h with
 | nil=>exact⟨_,_,rfl⟩
 | row R k es b off cap arr ty cO us ar dM ai aj hk hu aD=>exact⟨_,_,rfl⟩
theorem aj5{ty:TypeId}
  (hp:cL (Sat w ω τ) p v) (h:H8 P t p ans=some (r,cd,obs)):
  ∃z,(Builtin.len_ #[t] ty #[v]).run P w=.ok z w/\cL (Sat w ω τ) r z:=by
 unfold H8 at h;split at h
 ·rename_i e Ue k es e1 e2;simp only[aR,bx]at h;obtain⟨rfl,_,rfl⟩:=h;obtain⟨aA,_⟩:=aJ.uX e2 hp;obtain⟨b,c,rfl⟩:=aA.len;exact⟨_,by simp[Builtin.len_,run_underlying e1];rfl,rfl⟩
 ·rename_i e b n c e1 e2;simp only[aR,bx]at h;obtain⟨rfl,_,rfl⟩:=h;have:v=.slice b n c:=aJ.uX e2 hp;subst this;exact⟨_,by simp[Builtin.len_,run_underlying e1];rfl,rfl⟩
 ·rename_i e s AJ AK k es e1 e2;simp only[aR,bx]at h;obtain⟨rfl,_,rfl⟩:=h;obtain⟨hX,rfl,aA,_⟩:=aJ.uX e2 hp;obtain⟨b,c,rfl⟩:=aA.len;exact⟨_,by simp[Builtin.len_,run_underlying e1];rfl,rfl⟩
 ·rename_i e s AJ AK k es e1 e2;simp only[aR,bx]at h;obtain⟨rfl,_,rfl⟩:=h;obtain⟨hX,rfl,aA,_⟩:=aJ.uX e2 hp;obtain⟨b,c,rfl⟩:=aA.len;exact⟨_,by simp[Builtin.len_,run_underlying e1];rfl,rfl⟩
 ·rename_i s e1 e2;simp only[aR,bx]at h;obtain⟨rfl,_,rfl⟩:=h;have:v=.string s:=aJ.uX e2 hp;subst this;exact⟨_,by simp[Builtin.len_,run_underlying e1];rfl,rfl⟩
 cases h
theorem Ph{es:List (List D)}{l n i j:Nat}{d:D}(h:cY ((es.drop l).take n) i j=some d):i<n/\cY es (l+i) j=some d:=by
 unfold cY at h ⊢;rw[hh]at h;split at h
 ·rw[gQ]at h;exact⟨by omega,h⟩
 simp at h
theorem bV.sub{R h0:List (Nat×Nat)->cV->Prop}{k:Nat}{es:List (List D)}{b cap:Nat}(h:bV w ω R (.J k es) (.slice (some ⟨b,off,none⟩) es.length cap))
  {l m:Nat} (al:l<=m) (hm:m<=es.length) (B4:∀o,R [] o->h0 [] o) (Wy:∀i j q o,l<=i->R ((i,j)::q) o->h0 ((i-l,j)::q) o):
  bV w ω h0 (.J k ((es.drop l).take (m-l))) (sliced (some ⟨b,off,none⟩) l m cap k):=by
 cases h with
 | nil=>
  have e1:l=0:=by simp at hm;omega
  have e2:m=0:=by simp at hm;omega
  subst e1 e2;simpa[sliced]using bV.nil h0 k _
 | row R k es b off cap arr ty cO us ar dM ai aj hk hu aD=>
  have hlen:((es.drop l).take (m-l)).length=m-l:=by simp;omega
  have hmul:l*k+(cap-l)*k=cap*k:=by rw[<-fu];congr 1;omega
  have key:∀oz:Nat,(cap=l\/oz=off+l*k)->oz+(cap-l)*k<=arr.size->
    bV w ω h0 (.J k ((es.drop l).take (m-l))) (.slice (some ⟨b,oz,none⟩) (m-l) (cap-l)):=by
   intro oz aZ di;have bf:cap=l->m-l=0:=fun e=>by omega
   have aA:=bV.row (w:=w) (ω:=ω) h0 k ((es.drop l).take (m-l)) b oz (cap-l) arr ty cO (fun i j=>us (l+i) j) ar (B4 _ dM) (by omega) di
    (fun e he=>hk e (Bq (xV he)))
    (fun i j d uH=>by
     obtain⟨hi,F6⟩:=Ph uH;rcases aZ with aZ | rfl
     ·have:=bf aZ;omega
     rw[<-hu (l+i) j d F6]
     congr 1
     rw[fu];omega)
    (fun i j d uH=>by
     obtain⟨hi,F6⟩:=Ph uH;refine (aD (l+i) j d F6).frame fun b q _ aE=>⟨?_,rfl⟩
     have:=Wy _ _ _ _ (Nat.le_add_right l i) aE;rwa[show l+i-l=i by omega]at this)
   rw[hlen]at aA;exact aA
  unfold sliced;split
  ·rename_i np;exact key off (.inl np) (by have:cap-l=0:=(by omega);rw[this];simp;omega)
  simp only[l',pL];exact key _ (.inr rfl) (by omega)
def aB.view:aB->aB
 | .aO t _ _ k es .here=>.J (.ro t) k es
 | .aO t _ _ k es .k8=>.J (.ro t) k es
 | .de _ k es=>.J .free k es
 | l=>l
theorem aB.LA(aj:Sat w ω τ l y):Sat w ω τ l.view y:=by
 unfold aB.view;split
 ·obtain⟨hX,rfl,aA,_⟩:=aj;exact⟨aA.frame fun b q _ aE=>⟨.inr ⟨_,aE⟩,rfl⟩,aa⟩
 ·obtain⟨hX,rfl,aA,_⟩:=aj;exact⟨aA.frame fun b q _ aE=>⟨.inr ⟨_,aE⟩,rfl⟩,aa⟩
 ·exact⟨aj.1,aa⟩
 exact aj
theorem aJ.LA(h:p.leaf.map aB.view=some l)(aj:cL (Sat w ω τ) p y):Sat w ω τ l y:=by
 rw[b1]at h;obtain⟨fx,bN,rfl⟩:=h;exact aB.LA (aJ.dB bN aj)
def ln(st:aI):Option Operand->Option (Option Int)
 | none=>some none
 | some x=>((st.bi x).int).map fun p=>some p.2
def CQ(P:Program)(st:aI)(t:TypeId)(p:aJ)(cX hi iu:Option Operand)(ans:List b9):jx:=
 match pM P t,p.leaf.map aB.view,iu with
 | some (_,k),some (.J tag cp es),none=>
  if k=cp then
   match ln st cX,ln st hi with
   | some l,some h=>some (.one (.J tag.Eh k ((es.drop (l.getD 0).toNat).take ((h.getD es.length).toNat-(l.getD 0).toNat))),ans,[0<=l.getD 0,l.getD 0<=h.getD es.length,h.getD es.length<=es.length])
   | _,_=>none
  else none
 | _,_,_=>none
theorem zw{len cap:Nat}{cX hi:Option Value}{l h:Int}(al:cX=none/\l=0\/∃k,cX=some (.int k l))(bJ:hi=none/\h=len\/∃k,hi=some (.int k h))
  (bN:0<=l) (h1:l<=h) (U:h<=cap):(Instr.sliceBounds true len cap cX hi none).run P w=.ok (l.toNat,h.toNat,cap) w:=by
 have atP:(h.toNat:Int)=h:=Int.toNat_of_nonneg (by omega);have aw:0<=h:=by omega
 rcases al with⟨rfl,rfl⟩ | ⟨k,rfl⟩<;>rcases bJ with⟨rfl,rfl⟩ | ⟨cp,rfl⟩<;>
  simp_all[Instr.sliceBounds,run_sliceBound]
theorem zx(aV:cy w0 st a w ω τ){x:Option Operand}{r:Option Int}(h:ln st x=some r):
  (x.map a.eval=none/\r=none)\/∃k n,x.map a.eval=some (.int k n)/\r=some n:=by
 cases x with
 | none=>simp[ln]at h;exact .inl ⟨rfl,h.symm⟩
 | some x=>
  simp only[ln,b1]at h;obtain⟨⟨k,n⟩,h1,U⟩:=h;exact .inr ⟨k,n,by simp[aJ.nx h1 (aV.bi x)],U.symm⟩
theorem aj6{cX hi iu:Option Operand}
  (aV:cy w0 st a w ω τ) (hp:cL (Sat w ω τ) p v) (h:CQ P st t p cX hi iu ans=some (r,cd,obs)) (aZ:cG obs):
  ∃z,(Instr.sliceAt t v (cX.map a.eval) (hi.map a.eval) (iu.map a.eval)).run P w=.ok z w/\cL (Sat w ω τ) r z:=by
 unfold CQ at h;split at h
 ·rename_i e k tag cp es e1 e2;split at h
  ·rename_i hk;subst hk;split at h
   ·rename_i l bJ cb ef;simp only[aR,bx]at h;obtain⟨rfl,_,rfl⟩:=h;obtain⟨hu,i,ks,bf⟩:=vv e1;obtain⟨aA,_⟩:=aJ.LA e2 hp;obtain⟨cC,cc,cH,_⟩:=aZ;have aw:=zx aV cb;have aH:=zx aV ef;have po:(cX.map a.eval=none/\l.getD 0=0)\/∃k,cX.map a.eval=some (.int k (l.getD 0)):=by
     rcases aw with⟨h,rfl⟩ | ⟨k,n,h,rfl⟩
     ·exact .inl ⟨h,rfl⟩
     exact .inr ⟨k,h⟩
    have rz:(hi.map a.eval=none/\bJ.getD es.length=es.length)\/∃k,hi.map a.eval=some (.int k (bJ.getD es.length)):=by
     rcases aH with⟨h,rfl⟩ | ⟨k,n,h,rfl⟩
     ·exact .inl ⟨h,rfl⟩
     exact .inr ⟨k,h⟩
    cases aA with
    | nil _ _ a0=>
     simp only[bW] at*;have bE:l.getD 0=0:=by omega
     have Fw:bJ.getD ((0:Nat):Int)=0:=by omega
     refine⟨.slice a0 0 0,?_,?_⟩
     ·simp only[Instr.sliceAt,Sem.run_bind,run_underlying hu,Result.andThen_ok,Instr.slice,Option.map_none];rw[zw po rz cC cc cH];have Fx:bJ.getD 0=0:=by simpa using Fw
      simp[sizeOf,typeInfo,ks,bE,Fx]
     refine⟨?_,Tag.Lw⟩;simp only[List.drop_nil,List.take_nil];exact .nil _ _ _
    | row R k es b off cap arr ty cO us ar dM ai aj hk je aD=>
     refine⟨sliced (some ⟨b,off,none⟩) (l.getD 0).toNat (bJ.getD es.length).toNat cap k,?_,?_,Tag.Lw⟩
     ·simp only[Instr.sliceAt,Sem.run_bind,run_underlying hu,Result.andThen_ok,Instr.slice,Option.map_none];rw[zw po rz cC cc (by omega)];simp[sizeOf,typeInfo,ks,bf,sliced]
     exact bV.sub (.row _ k es b off cap arr ty cO us ar dM ai aj hk je aD) (by omega) (by omega) (fun o h=>Tag.Lv h) (fun i j q o _ h=>Tag.Lv h)
   cases h
  cases h
 cases h
end Go.Sx
namespace Go.Sx
open Go.RowKit
def aB.ok:aB->Bool
 | .cq=>false
 | .v x=>x.oneCell'
 | _=>true
variable{w:World}{ω:Own}{y:Value}
theorem bV.oB{R:List (Nat×Nat)->cV->Prop}{d:D}(h:bV w ω R d y):y.oneCell'=true:=by
 cases h with
 | v R x h1=>exact h1
 | nil=>rfl
 | row=>rfl
 | ptr=>rfl
 | cl=>rfl
variable{τ:Nat->Nat×Value}
theorem aB.Ou{l:aB}(h:l.ok=true)(aj:Sat w ω τ l y):y.oneCell'=true:=by
 cases l with
 | cq=>cases h
 | v x=>have:y=x:=aj;subst this;exact h
 | ba c=>have:y=.bool c:=aj;subst this;rfl
 | J t k es=>exact aj.1.oB
 | ptr id off=>obtain⟨b,_,rfl⟩:=aj;rfl
 | cE t k es i j=>obtain⟨b,off,cap,rfl,_⟩:=aj;rfl
 | hF ds off=>obtain⟨b,rfl,_⟩:=aj;rfl
 | fd d=>exact bV.oB aj
 | de t k es=>exact aj.1.oB
 | gn g ids=>obtain⟨bs,rfl,_⟩:=aj;rfl
 | aO t i j k es m=>
  obtain⟨u,hu,aA,_⟩:=aj;cases m with
  | at_ x y=>obtain⟨b,off,cap,_,rfl,_⟩:=hu;rfl
  | here=>have:y=u:=hu;subst this;exact aA.oB
  | k8=>have:y=u:=hu;subst this;exact aA.oB
 | fa t vs=>obtain⟨b,ty,arr,rfl,_⟩:=aj;rfl
theorem zy(h:y.oneCell'=true):y.cells=#[y]:=by
 cases y<;>first | rfl | (simp[Value.oneCell']at h)
def aJ.leaves:aJ->Option (List aB)
 | .aK (.one l)=>if l.ok then some [l] else none
 | .aK (.agg ls)=>if ls.all aB.ok then some ls else none
 | _=>none
variable{p:aJ}{ls:List aB}
theorem aJ.wS(h:p.leaves=some ls)(aj:cL (Sat w ω τ) p y):
  jW (Sat w ω τ) ls y.cells/\∀u∈y.cells.toList,u.oneCell'=true:=by
 unfold aJ.leaves at h;split at h
 ·rename_i l;split at h
  ·rename_i cJ;simp only[aR]at h;subst h;have h1:=aB.Ou cJ aj;rw[zy h1];refine⟨⟨rfl,fun i gu al=>?_⟩,by simpa using h1⟩;cases i with
   | zero=>simp at al;subst al;exact⟨y,rfl,aj⟩
   | succ i=>simp at al
  cases h
 ·rename_i eW;split at h
  ·rename_i cJ;simp only[aR]at h;subst h;obtain⟨vs,rfl,aW,bt⟩:=aj;refine⟨⟨aW,bt⟩,fun u hu=>?_⟩;obtain⟨i,hi⟩:=oT.1 hu;have bz:i<eW.length:=by
    have:=(eh.1 hi).1;simp[Value.cells]at this;omega
   obtain⟨sr,h1,U⟩:=bt i eW[i] (by simp);have e:u=sr:=by
    have:(Value.agg vs).cells.toList[i]?=vs[i]?:=by simp[Value.cells]
    rw[this,h1]at hi;exact (eN hi).symm
   subst e;exact aB.Ou (fA.1 cJ _ (q3 bz)) U
  cases h
 cases h
theorem Pj(off:Nat):∀(vs:List Value) (k:Nat) (cells:Array Value) (i:Nat),off+k+vs.length<=cells.size->
  ((vs.zipIdx k).foldl (fun cs (x:Value×Nat)=>cs.setIfInBounds (off+x.2) x.1) cells)[i]?=if off+k<=i/\i<off+k+vs.length then vs[i-(off+k)]? else cells[i]?
 | [],k,cells,i,_=>by simp;intro h1 U;omega
 | v::vs,k,cells,i,h=>by
  simp only[List.zipIdx_cons,List.foldl_cons,dN]at h ⊢;rw[Pj off vs (k+1) _ i (by simp;omega),Array.getElem?_setIfInBounds];by_cases h1:off+k=i
  ·subst h1;rw[bh (by omega),br rfl,br (by omega),br (by omega)];simp
  by_cases U:off+(k+1)<=i/\i<off+(k+1)+vs.length
  ·rw[br U,br (by omega)];obtain⟨j,a6⟩:∃j,i-(off+k)=j+1:=⟨i-(off+k)-1,by omega⟩
   rw[a6,mR]
   congr 1
   omega
  rw[bh U,bh h1,bh (by omega)]
theorem Pk(off:Nat):∀(l:List (Value×Nat)) (cells:Array Value),(l.foldl (fun cs (x:Value×Nat)=>cs.setIfInBounds (off+x.2) x.1) cells).size=cells.size
 | [],_=>rfl
 | x::l,cells=>by simp only[List.foldl_cons];rw[Pk off l];simp
def sE(ls:List aB)(off:Nat)(xs:List aB):List aB:=ls.take off++(xs++ls.drop (off+xs.length))
variable{off:Nat}
theorem Pl{xs:List aB}{i:Nat}(h:off+xs.length<=ls.length):(sE ls off xs)[i]?=if off<=i/\i<off+xs.length then xs[i-off]? else ls[i]?:=by
 unfold sE;rw[kD,oV,Nat.min_eq_left (by omega)];by_cases h1:i<off
 ·rw[br h1,bh (by omega),hh,br h1]
 rw[bh h1,kD];by_cases U:i-off<xs.length
 ·rw[br U,br (by omega)]
 rw[bh U,bh (by omega),gQ]
 congr 1
 omega
theorem H9{xs:List aB}(h:off+xs.length<=ls.length):(sE ls off xs).length=ls.length:=by
 simp[sE];omega
def qc(place:Nat->Option (Nat×Nat))(ls:List aB):List (Nat×aJ)->Option (List aB)
 | []=>some ls
 | (i,p)::rest=>
  match place i,p.leaves with
  | some (off,size),some xs=>if xs.length=size/\off+size<=ls.length then qc place (sE ls off xs) rest else none
  | _,_=>none
theorem H'{place:Nat->Option (Nat×Nat)}:∀{parts:List (Nat×aJ)} {vals:List (Nat×Value)} {ls r:List aB} {cells:Array Value},
  parts.length=vals.length->(∀(j:Nat) i p,parts[j]?=some (i,p)->∃v,vals[j]?=some (i,v)/\cL (Sat w ω τ) p v)->qc place ls parts=some r->jW (Sat w ω τ) ls cells->
  ∃out,Instr.fill place cells vals=some out/\jW (Sat w ω τ) r out
 | [],vals,ls,r,cells,aW,_,h,aj=>by
  have:vals=[]:=vY (by simpa using aW.symm);subst this;simp only[qc,aR]at h;subst h;exact⟨cells,rfl,aj⟩
 | (i,p)::parts,vals,ls,r,cells,aW,hp,h,aj=>by
  obtain⟨v,bt,ey⟩:=hp 0 i p rfl;cases vals with
  | nil=>simp at bt
  | cons x vals=>
   simp only[jS,aR]at bt;subst bt;simp only[qc]at h;split at h
   ·rename_i off size xs e1 e2;split at h
    ·rename_i ai;obtain⟨kp,kf⟩:=ai;obtain⟨⟨di,wO⟩,_⟩:=aJ.wS e2 ey;have wM:v.cells.size=size:=by omega
     have oi:off+v.cells.size<=cells.size:=by have:=aj.1;omega
     have fN:jW (Sat w ω τ) (sE ls off xs) (v.cells.zipIdx.foldl (fun cs (c,j)=>cs.setIfInBounds (off+j) c) cells):=by
      have e:v.cells.zipIdx.foldl (fun cs (c,j)=>cs.setIfInBounds (off+j) c) cells=(v.cells.toList.zipIdx 0).foldl (fun cs (x:Value×Nat)=>cs.setIfInBounds (off+x.2) x.1) cells:=by
       rw[<-Array.foldl_toList];simp
      rw[e];refine⟨by rw[Pk,H9 (by omega)];exact aj.1,fun j l al=>?_⟩;rw[Pl (by omega)]at al;rw[Pj off _ 0 _ _ (by simp;omega)];simp only[uc,lC];by_cases a6:off<=j/\j<off+xs.length
      ·rw[br a6]at al;rw[br (by omega)];obtain⟨u,h1,U⟩:=wO _ _ al;exact⟨u,by simpa using h1,U⟩
      rw[bh a6]at al;rw[bh (by omega)];exact aj.2 _ _ al
     obtain⟨out,h1,U⟩:=H' (parts:=parts) (vals:=vals) (by simpa using aW) (fun j fm pJ a6=>by have:=hp (j+1) fm pJ (by simpa using a6);simpa using this) h fN;refine⟨out,?_,U⟩;simp only[Instr.fill,e1];rw[bh (by simp;omega)];exact h1
    cases h
   cases h
def Ia(P:Program)(t:TypeId)(f:Nat):Option (Nat×Nat):=
 match P.underlying t with
 | some (.struct eH)=>
  match eH[f]? with
  | some fd=>(P.info? fd.type).map fun i=>(fd.offset,i.size)
  | none=>none
 | _=>none
def CD(P:Program)(st:aI)(t:TypeId)(parts:List (Nat×Operand))(ans:List b9):jx:=
 match P.underlying t,P.info? t with
 | some (.struct eH),some i=>
  match i.zero with
  | some z=>
   if eH.toList.all fun f=>(P.info? f.type).isSome then
    (qc (Ia P t) (z.cells.toList.map .v) (parts.map fun x=>(x.1,st.bi x.2))).map fun ls=>(.agg ls,ans,[])
   else none
  | none=>none
 | _,_=>none
theorem Pm{P:Program}(w:World):∀(eH:List Field),(∀f∈eH,(P.info? f.type).isSome=true)->
  (eH.mapM fun f=>(do pure (f.offset,<-sizeOf f.type):Sem (Nat×Nat))).run P w=.ok (eH.map fun f=>(f.offset,((P.info? f.type).map (·.size)).getD 0)) w
 | [],_=>by simp
 | f::eH,h=>by
  obtain⟨i,hi⟩:=oS.1 (h f (by simp));have dP:=Pm (P:=P) w eH (fun g au=>h g (by simp[au]));simp only[vZ,Sem.run_bind,sizeOf,typeInfo,run_program,Result.andThen_ok,hi,Sem.run_pure,k4,l',ij];simp only[Sem.run_bind,sizeOf,typeInfo,Sem.run_pure]at dP;rw[dP];simp
theorem CE{P:Program}{α β:Type}(f:α->Sem β)(xs:Array α)(w:World)(r:List β)(h:(xs.toList.mapM f).run P w=.ok r w):(xs.mapM f).run P w=.ok r.toArray w:=by
 rw[<-Array.toArray_toList (xs:=xs),List.mapM_toArray];rw[<-bind_pure_comp,Sem.run_bind,h];rfl
variable{P:Program}{w0:er}{a:Act}{st:aI}{t:TypeId}{r:aJ}{ans cd:List b9}{obs:List Prop}
theorem aj7{parts:Array (Nat×Operand)}
  (aV:cy w0 st a w ω τ) (h:CD P st t parts.toList ans=some (r,cd,obs)):
  ∃z,(Instr.build t (parts.map fun (i,x)=>(i,a.eval x))).run P w=.ok z w/\cL (Sat w ω τ) r z:=by
 unfold CD at h;split at h
 ·rename_i eH i hu hi;split at h
  ·rename_i z bf;split at h
   ·rename_i hA;rw[b1]at h;obtain⟨ls,h1,h⟩:=h;simp only[bx]at h;obtain⟨rfl,_,_⟩:=h;have Hl:jW (Sat w ω τ) (z.cells.toList.map .v) z.cells:=by
     refine⟨by simp,fun j l al=>?_⟩;rw[dj,b1]at al;obtain⟨u,hu,rfl⟩:=al;exact⟨u,by simpa using hu,rfl⟩
    obtain⟨out,U,aw⟩:=H' (vals:=parts.toList.map fun x=>(x.1,a.eval x.2)) (by simp) (fun j fm p a6=>by
     rw[dj,b1]at a6;obtain⟨⟨i2,x⟩,ag,e⟩:=a6;simp only[bx]at e;obtain⟨rfl,rfl⟩:=e;exact⟨a.eval x,by simp only[dj,ag,l'],aV.bi x⟩) h1 Hl
    have hm:=CE (P:=P) (fun f:Field=>(do pure (f.offset,<-sizeOf f.type):Sem (Nat×Nat))) eH w _ (Pm (P:=P) w eH.toList (fun f bT=>fA.1 hA f bT));have om:(fun x=>(eH.toList.map fun f=>(f.offset,((P.info? f.type).map (·.size)).getD 0)).toArray[x]?)=Ia P t:=by
     funext x;simp only[l8,dj,iC,Ia,hu];cases ag:eH[x]? with
     | none=>rfl
     | some fd=>
      have:(P.info? fd.type).isSome=true:=fA.1 hA fd (by simpa using Array.mem_of_getElem? ag);obtain⟨fm,ks⟩:=oS.1 this;simp[ks]
    refine⟨.agg out,?_,out,rfl,aw⟩;simp only[Instr.build,Sem.run_bind,zeroValue,typeInfo,run_program,Result.andThen_ok,hi,Sem.run_pure,bf,run_underlying hu,hm,om];have e:(Array.map (fun (x:Nat×Operand)=>(x.1,a.eval x.2)) parts).toList=parts.toList.map fun x=>(x.1,a.eval x.2):=by simp
    simp only[e,U,Sem.run_pure]
   cases h
  cases h
 cases h
def Ib(p:aJ)(pB:Nat)(ans:List b9):jx:=
 match p with
 | .fJ as=>(as[pB]?).map fun a=>(.aK a,ans,[])
 | _=>none
variable{v:Value}
theorem aj8{P:Program}{pB:Nat}
  (hp:cL (Sat w ω τ) p v) (h:Ib p pB ans=some (r,cd,obs)):∃z,(Instr.extract v pB).run P w=.ok z w/\cL (Sat w ω τ) r z:=by
 unfold Ib at h;split at h
 ·rename_i as;rw[b1]at h;obtain⟨aK,h1,h⟩:=h;simp only[bx]at h;obtain⟨rfl,_,_⟩:=h;obtain⟨vs,rfl,aW,bt⟩:=hp;obtain⟨u,U,aw⟩:=bt _ _ h1;exact⟨u,by simp[Instr.extract,U],aw⟩
 cases h
def Ic(P:Program)(t:TypeId)(p:aJ)(f:Nat)(ans:List b9):jx:=
 match P.underlying t with
 | some (.struct eH)=>
  match eH[f]? with
  | some fd=>
   match vu P fd.type,P.info? fd.type,p with
   | some agg,some i,.aK (.agg ls)=>(qH agg i.size ls fd.offset).map fun r=>(r,ans,[])
   | _,_,_=>none
  | none=>none
 | _=>none
theorem aj9{f:Nat}
  (hp:cL (Sat w ω τ) p v) (h:Ic P t p f ans=some (r,cd,obs)):∃z,(Instr.field t v f).run P w=.ok z w/\cL (Sat w ω τ) r z:=by
 unfold Ic at h;split at h
 ·rename_i eH hu;split at h
  ·rename_i fd bT;split at h
   ·rename_i agg i ls e1 e2;rw[b1]at h;obtain⟨j8,h1,h⟩:=h;simp only[bx]at h;obtain⟨rfl,_,_⟩:=h;obtain⟨vs,rfl,aW,bt⟩:=hp;unfold qH at h1;cases agg with
    | true=>
     simp only[gy]at h1;split at h1
     ·rename_i hle;simp only[aR]at h1;subst h1;refine⟨.agg (vs.extract fd.offset (fd.offset+i.size)),by simp[Instr.field,run_underlying hu,bT,asAgg,part,wY e1,sizeOf,typeInfo,e2],_,rfl,by simp;omega,fun j l al=>?_⟩;rw[hh]at al;split at al
      ·rw[gQ]at al;obtain⟨u,h1,U⟩:=bt _ l al;refine⟨u,?_,U⟩;rw[Array.getElem?_extract,br (by omega),<-h1]
      cases al
     cases h1
    | false=>
     simp only[oU,lD,b1]at h1;obtain⟨l,al,rfl⟩:=h1;obtain⟨u,h1,U⟩:=bt _ l al;exact⟨u,by simp[Instr.field,run_underlying hu,bT,asAgg,part,wY e1,h1],U⟩
   cases h
  cases h
 cases h
def Ie(op:UnOp)(p:aJ)(ans:List b9):jx:=
 match op,p.leaf with
 | .not,some (.ba c)=>some (.one (.ba (!c)),ans,[])
 | .not,some (.v (.bool c))=>some (.one (.v (.bool (!c))),ans,[])
 | .neg,some (.v (.int k n))=>arith k (0-n) ans
 | _,_=>none
theorem aka{op:UnOp}
  (hp:cL (Sat w ω τ) p v) (h:Ie op p ans=some (r,cd,obs)) (aZ:cG obs):∃z,(Op.unary op v).run P w=.ok z w/\cL (Sat w ω τ) r z:=by
 unfold Ie at h;split at h
 ·rename_i c e;simp only[aR,bx]at h;obtain⟨rfl,_,_⟩:=h;have:v=.bool c:=aJ.dB e hp;subst this;exact⟨_,rfl,rfl⟩
 ·rename_i c e;simp only[aR,bx]at h;obtain⟨rfl,_,_⟩:=h;have:v=.bool c:=aJ.dB e hp;subst this;exact⟨_,rfl,rfl⟩
 ·rename_i k n e;have:v=.int k n:=aJ.dB e hp;subst this;exact⟨_,rfl,xa h aZ⟩
 cases h
def eJ(c a b:aJ)(ans:List b9):jx:=
 match c.leaf with
 | some (.v (.bool true))=>some (a,ans,[])
 | some (.v (.bool false))=>some (b,ans,[])
 | some (.ba c)=>
  match ans with
  | .n9 true::r=>some (a,r,[c=true])
  | .n9 false::r=>some (b,r,[c=false])
  | _=>none
 | _=>none
variable{u:Value}
theorem akb{c a b:aJ}{x:Value}
  (ai:cL (Sat w ω τ) c u) (ah:cL (Sat w ω τ) a x) (ar:cL (Sat w ω τ) b y) (h:eJ c a b ans=some (r,cd,obs)) (aZ:cG obs):
  ∃z,(do pure (.value (if <-asBool u then x else y)):Sem Next).run P w=.ok (.value z) w/\cL (Sat w ω τ) r z:=by
 unfold eJ at h;split at h
 ·rename_i e;simp only[aR,bx]at h;obtain⟨rfl,_,_⟩:=h;have:u=.bool true:=aJ.dB e ai;subst this;exact⟨x,rfl,ah⟩
 ·rename_i e;simp only[aR,bx]at h;obtain⟨rfl,_,_⟩:=h;have:u=.bool false:=aJ.dB e ai;subst this;exact⟨y,rfl,ar⟩
 ·rename_i jA e;have:u=.bool jA:=aJ.dB e ai;subst this;split at h
  ·simp only[aR,bx]at h;obtain⟨rfl,_,rfl⟩:=h;have uH:jA=true:=aZ.1;subst uH;exact⟨x,rfl,ah⟩
  ·simp only[aR,bx]at h;obtain⟨rfl,_,rfl⟩:=h;have uH:jA=false:=aZ.1;subst uH;exact⟨y,rfl,ar⟩
  cases h
 cases h
def w2:List (List D)->Option (List Int)
 | []=>some []
 | [.v (.int .u8 n)]::r=>(w2 r).map (n::·)
 | _=>none
theorem Pn:∀{es:List (List D)} {xs:List Int},w2 es=some xs->xs.length=es.length/\∀i,i<xs.length->cY es i 0=some (.v (.int .u8 (xs.getD i 0)))/\∀e,es[i]?=some e->e.length=1
 | [],xs,h=>by
  simp only[w2,aR]at h;subst h;exact⟨rfl,fun i hi=>by simp at hi⟩
 | e::r,xs,h=>by
  unfold w2 at h;split at h
  ·rename_i he;cases he
  ·rename_i n j8 he;obtain⟨rfl,rfl⟩:=VO he;rw[b1]at h;obtain⟨ys,h1,rfl⟩:=h;obtain⟨U,aw⟩:=Pn h1;refine⟨by simp[U],fun i hi=>?_⟩;cases i with
   | zero=>exact⟨rfl,fun e he=>by simp at he;subst he;rfl⟩
   | succ i=>
    simp only[dN,Nat.add_lt_add_iff_right]at hi;obtain⟨aH,aU⟩:=aw i hi;exact⟨by simpa[cY]using aH,fun e he=>aU e (by simpa using he)⟩
  cases h
theorem cell_of_heap{b:Nat}{arr:Array Value}{ty:TypeId}{cO:Nat×Nat}(ar:w.heap[b]?=some (.cells arr ty cO))(h:arr[off]?=some v):w.cell? ⟨b,off,none⟩=some v:=by
 unfold World.cell?;simp[ar,h]
def aB.T8:aB->Option (List (List D))
 | .J _ 1 es=>some es
 | _=>none
def Ig(P:Program)(src dst:TypeId)(p:aJ)(ans:List b9):jx:=
 match P.underlying src,P.underlying dst,p.int with
 | some _,some (.int k),some (_,n)=>arith k n ans
 | some (.slice e),some .string,none=>
  match P.underlying e,p.leaf.bind aB.T8,ans with
  | some (.int .u8),some es,.nJ (.aK (.one (.v (.string s))))::r=>some (.one (.v (.string s)),r,[(w2 es).map strOfNums=some s])
  | _,_,_=>none
 | _,_,_=>none
theorem akc{src dst:TypeId}
  (hp:cL (Sat w ω τ) p v) (h:Ig P src dst p ans=some (r,cd,obs)) (aZ:cG obs):∃z,(convert src dst v).run P w=.ok z w/\cL (Sat w ω τ) r z:=by
 unfold Ig at h;split at h
 ·rename_i d k za n e1 e2 cb;rw[aJ.nx cb hp];exact⟨_,by simp[convert,run_underlying e1,run_underlying e2,Conv.intToInt],xa h aZ⟩
 ·rename_i e e1 e2 cb;split at h
  ·rename_i es s j8 ef gY;simp only[aR,bx]at h;obtain⟨rfl,_,rfl⟩:=h;have kg:(w2 es).map strOfNums=some s:=aZ.1;rw[b1]at kg;obtain⟨xs,h1,rfl⟩:=kg;obtain⟨U,aw⟩:=Pn h1;rw[lA]at gY;obtain⟨l,lJ,mi⟩:=gY;have al:=aJ.dB lJ hp;unfold aB.T8 at mi;split at mi
   ·rename_i t cr;simp only[aR]at mi;subst mi;obtain⟨aA,_⟩:=al;refine⟨.string (strOfNums xs),?_,rfl⟩;cases aA with
    | nil R k a=>
     have:xs=[]:=List.length_eq_zero_iff.1 (by simpa using U);subst this;cases a with
     | none=>exact run_convert_bytes_nil w src e e1 ef 0 0 dst e2
     | some a=>
      rw[run_convert_bytes_string w src dst e _ 0 0 e1 ef e2];exact run_bytesToString w a 0 0 [] (run_loadCells_list w a [] (fun j v a6=>by simp at a6))
    | row R k _ b off cap arr ty cO us ar dM ai aj hk hu aD=>
     refine run_convert_bytes_arg w src e e1 ef b off cr.length cap xs U (fun i hi=>?_) dst e2;obtain⟨aH,_⟩:=aw i (by omega);have aU:=hu i 0 _ aH;have bA:=aD i 0 _ aH;generalize us i 0=u at aU bA;cases bA;rw[Nat.mul_one,lC]at aU;exact (cell_of_heap ar (by simpa using aU))
   cases mi
  cases h
 cases h
def Ih(P:Program)(t:TypeId)(p q:aJ)(ans:List b9):jx:=
 match P.underlying t,p.leaf,q.int with
 | some .string,some (.v (.string s)),some (_,n)=>
  match ans with
  | .num m::r=>some (.one (.v (.int .u8 m)),r,[0<=n,(s[n.toNat]?).map (fun b=>((b.toNat:Nat):Int))=some m])
  | _=>none
 | _,_,_=>none
variable{q:aJ}
theorem akd
  (hp:cL (Sat w ω τ) p u) (aE:cL (Sat w ω τ) q v) (h:Ih P t p q ans=some (r,cd,obs)) (aZ:cG obs):∃z,(Instr.index t u v).run P w=.ok z w/\cL (Sat w ω τ) r z:=by
 unfold Ih at h;split at h
 ·rename_i s za n e1 e2 cb;split at h
  ·rename_i m hd;simp only[aR,bx]at h;obtain⟨rfl,_,rfl⟩:=h;obtain⟨bN,h1,_⟩:=aZ;have:u=.string s:=aJ.dB e2 hp;subst this;rw[aJ.nx cb aE];rw[b1]at h1;obtain⟨b,ar,hm⟩:=h1;exact⟨.int .u8 m,by simp[Instr.index,asIntOf,run_underlying e1,bN,ar,hm],rfl⟩
  cases h
 cases h
def Ii(p q:aJ)(ans:List b9):jx:=
 match p.int,q.int with
 | some (k,a),some (_,b)=>some (.one (.v (.int k (if b<a then b else a))),ans,[])
 | _,_=>none
def Ij(p q:aJ)(ans:List b9):jx:=
 match p.int,q.int with
 | some (k,a),some (_,b)=>some (.one (.v (.int k (if b>a then b else a))),ans,[])
 | _,_=>none
theorem ake{P:Program}{ts:Array TypeId}{ty:TypeId}
  (hp:cL (Sat w ω τ) p u) (aE:cL (Sat w ω τ) q v) (h:Ii p q ans=some (r,cd,obs)):∃z,(Builtin.min_ ts ty #[u,v]).run P w=.ok z w/\cL (Sat w ω τ) r z:=by
 unfold Ii at h;split at h
 ·rename_i k a za b e1 e2;simp only[aR,bx]at h;obtain⟨rfl,_,_⟩:=h;rw[aJ.nx e1 hp,aJ.nx e2 aE];exact⟨_,by simp[Builtin.min_,Builtin.min2],rfl⟩
 cases h
theorem akf{P:Program}{ts:Array TypeId}{ty:TypeId}
  (hp:cL (Sat w ω τ) p u) (aE:cL (Sat w ω τ) q v) (h:Ij p q ans=some (r,cd,obs)):∃z,(Builtin.max_ ts ty #[u,v]).run P w=.ok z w/\cL (Sat w ω τ) r z:=by
 unfold Ij at h;split at h
 ·rename_i k a za b e1 e2;simp only[aR,bx]at h;obtain⟨rfl,_,_⟩:=h;rw[aJ.nx e1 hp,aJ.nx e2 aE];exact⟨_,by simp[Builtin.max_,Builtin.max2],rfl⟩
 cases h
def Po(p:aJ)(ans:List b9):jx:=
 match p.leaf with
 | some (.ptr id off)=>some (.one (.ptr id off),ans,[])
 | some (.cE t k es i j)=>some (.one (.cE t k es i j),ans,[])
 | some (.hF ds off)=>some (.one (.hF ds off),ans,[])
 | some (.aO t i j k es (.at_ x y))=>some (.one (.aO t i j k es (.at_ x y)),ans,[])
 | _=>none
def Oy(p:aJ):Option Nat:=
 match p.leaf with
 | some (.ptr id 0)=>some id
 | _=>none
def MW(p:aJ):Option D:=
 match p.leaf with
 | some (.hF ds 0)=>some (.ptr ds)
 | some (.v x)=>if x.oneCell' then some (.v x) else none
 | _=>none
def CF(st:aI)(fn:Fn)(first captured:List Operand)(ans:List b9):jx:=
 match fn,first with
 | .func g,[]=>
  match (captured.map st.bi).mapM Oy with
  | some ids=>some (.one (.gn g ids),ans,[])
  | none=>
   match (captured.map st.bi).mapM MW with
   | some ds=>some (.one (.fd (.cl g ds)),ans,[])
   | none=>none
 | _,_=>none
theorem Ik{α β:Type}{f:α->Option β}:∀{xs:List α} {ys:List β},xs.mapM f=some ys->ys.length=xs.length/\∀(i:Nat) (y:β),ys[i]?=some y->∃x,xs[i]?=some x/\f x=some y
 | [],ys,h=>by simp at h;subst h;simp
 | x::xs,ys,h=>by
  rw[vZ]at h;cases e:f x with
  | none=>simp[e]at h
  | some y=>
   cases e2:xs.mapM f with
   | none=>simp[e,e2]at h
   | some zs=>
    simp[e,e2]at h;subst h;obtain⟨h1,U⟩:=Ik e2;refine⟨by simp[h1],fun i fY hi=>?_⟩;cases i with
    | zero=>simp at hi;subst hi;exact⟨x,rfl,e⟩
    | succ i=>simpa using U i fY (by simpa using hi)
theorem akg{P:Program}{fn:Fn}{first captured:Array Operand}
  (aV:cy w0 st a w ω τ) (h:CF st fn first.toList captured.toList ans=some (r,cd,obs)):
  ∃z,(Instr.makeFunc fn (first.map a.eval) (captured.map a.eval)).run P w=.ok z w/\cL (Sat w ω τ) r z:=by
 unfold CF at h;split at h
 ·rename_i g W';have bT:first=#[]:=by
   rcases first with⟨l⟩
   simpa using W'
  subst bT;refine⟨.func (.func g) #[] (captured.map a.eval),by simp[Instr.makeFunc],?_⟩;have qi:∀(i:Nat) (x:aJ),(captured.toList.map st.bi)[i]?=some x->∃v,(captured.map a.eval)[i]?=some v/\cL (Sat w ω τ) x v:=by
   intro i x ag;rw[dj,b1]at ag;obtain⟨o,aZ,rfl⟩:=ag;refine⟨a.eval o,?_,aV.bi o⟩;rw[xX];rw[iC]at aZ;rw[aZ];rfl
  split at h
  ·rename_i ids Xm;simp only[aR,bx]at h;obtain⟨rfl,_,_⟩:=h;obtain⟨aW,au⟩:=Ik Xm;have hex:∀i,i<ids.length->∃b id,ids[i]?=some id/\(captured.map a.eval)[i]?=some (ptrTo b)/\ω b=.box id:=by
    intro i hi;obtain⟨x,ag,jf⟩:=au i ids[i] (by simp[hi]);obtain⟨v,bt,aj⟩:=qi i x ag;unfold Oy at jf;split at jf
    ·rename_i id al;simp only[aR]at jf;obtain⟨b,ar,rfl⟩:=aJ.dB al aj;exact⟨b,id,by simp[hi,jf],bt,ar⟩
    cases jf
   have di:(captured.map a.eval).size=ids.length:=by simp at aW;simp[aW]
   let bs:=(List.range ids.length).map fun i=>(match (captured.map a.eval)[i]? with | some (.pointer (some p))=>p.block | _=>0)
   refine⟨bs,?_,by simp[bs],fun i id fF=>?_⟩
   ·congr 1
    apply Array.ext
    ·simp[bs,di]
    intro i h1 U;obtain⟨b,id,_,bt,_⟩:=hex i (by rw[<-di];exact h1);have y2:=bt;rw[gS h1,aR]at y2;rw[y2];have e:bs[i]'(by simpa using U)=b:=by simp only[bs,List.getElem_map,List.getElem_range,bt,ptrTo]
    simp[e]
   have hi:=(eh.1 fF).1;obtain⟨b,gE,Nw,bt,ar⟩:=hex i hi;rw[fF]at Nw;have:=eN Nw;subst this;refine⟨b,?_,ar⟩;simp only[bs,dj,List.getElem?_range hi,l',bt,ptrTo]
  split at h
  ·rename_i ds ek;simp only[aR,bx]at h;obtain⟨rfl,_,_⟩:=h;obtain⟨aW,au⟩:=Ik ek;refine bV.cl _ g ds (captured.map a.eval) (fun j=>(captured.map a.eval).getD j undef) (by simp at aW;simp[aW]) (fun j d aD=>?_) (fun j d aD=>?_)
   ·obtain⟨x,ag,_⟩:=au j d aD;obtain⟨v,bt,_⟩:=qi j x ag;rw[bt];simp only[d',bt,ij]
   obtain⟨x,ag,jf⟩:=au j d aD;obtain⟨v,bt,aj⟩:=qi j x ag;have e:(captured.map a.eval).getD j undef=v:=by simp only[d',bt,ij]
   rw[e];unfold MW at jf;split at jf
   ·rename_i rh al;simp only[aR]at jf;subst jf;obtain⟨b,rfl,aA⟩:=aJ.dB al aj;exact aA.frame fun b q ar aE=>⟨aE,rfl⟩
   ·rename_i y al;split at jf
    ·rename_i XS;simp only[aR]at jf;subst jf;have:v=y:=aJ.dB al aj;subst this;exact .v _ _ XS
    cases jf
   cases jf
  cases h
 cases h
def CG(P:Program)(st:aI)(b:Builtin)(args:List Operand)(ts:List TypeId)(ans:List b9):jx:=
 match b,args,ts with
 | .len,[x],[t]=>H8 P t (st.bi x) ans
 | .min,[x,y],_=>Ii (st.bi x) (st.bi y) ans
 | .max,[x,y],_=>Ij (st.bi x) (st.bi y) ans
 | _,_,_=>none
def oE(P:Program)(st:aI)(op:Op)(ans:List b9):jx:=
 match op with
 | .move x | .assign x=>some (st.bi x,ans,[])
 | .pick c a b=>eJ (st.bi c) (st.bi a) (st.bi b) ans
 | .load t x=>CP P st t (st.bi x) ans
 | .nilCheck x=>Po (st.bi x) ans
 | .binOp op t x y _=>IA P op t x y (st.bi x) (st.bi y) ans
 | .unOp op _ x=>Ie op (st.bi x) ans
 | .convert s d x=>Ig P s d (st.bi x) ans
 | .slice t x cX hi iu=>CQ P st t (st.bi x) cX hi iu ans
 | .fieldAddr s x f=>H6 P s (st.bi x) f ans
 | .field t x f=>Ic P t (st.bi x) f ans
 | .indexAddr t x i=>H7 P t (st.bi x) (st.bi i) ans
 | .index t x i=>Ih P t (st.bi x) (st.bi i) ans
 | .extract x i=>Ib (st.bi x) i ans
 | .build t parts=>CD P st t parts.toList ans
 | .call ⟨.builtin b,args,ts⟩=>CG P st b args.toList ts.toList ans
 | .makeFunc fn first captured=>CF st fn first.toList captured.toList ans
 | _=>none
theorem iB{aN:World}{s:Sem Value}{z:Value}(h:s.run P w=.ok z aN):(do pure (.value (<-s)):Sem Next).run P w=.ok (.value z) aN:=by
 rw[Sem.run_bind,h];rfl
theorem akh{b:Builtin}{args:Array Operand}{ts:Array TypeId}{ty:TypeId}{consts:Array Bool}
  (aV:cy w0 st a w ω τ) (h:CG P st b args.toList ts.toList ans=some (r,cd,obs)):
  ∃z,(builtin b ts ty consts (args.map a.eval)).run P w=.ok (.value z) w/\cL (Sat w ω τ) r z:=by
 obtain⟨args⟩:=args;obtain⟨ts⟩:=ts;unfold CG at h;split at h
 ·rename_i x t e1 e2;simp only at e1 e2;subst e1 e2;obtain⟨z,h1,U⟩:=aj5 (ty:=ty) (aV.bi x) h;refine⟨z,iB (s:=Builtin.len_ #[t] ty (Array.map a.eval #[x])) ?_,U⟩;simpa using h1
 ·rename_i x y e1;simp only at e1;subst e1;obtain⟨z,h1,U⟩:=ake (P:=P) (ts:=⟨ts⟩) (ty:=ty) (aV.bi x) (aV.bi y) h;refine⟨z,iB (s:=Builtin.min_ ⟨ts⟩ ty (Array.map a.eval #[x,y])) ?_,U⟩;simpa using h1
 ·rename_i x y e1;simp only at e1;subst e1;obtain⟨z,h1,U⟩:=akf (P:=P) (ts:=⟨ts⟩) (ty:=ty) (aV.bi x) (aV.bi y) h;refine⟨z,iB (s:=Builtin.max_ ⟨ts⟩ ty (Array.map a.eval #[x,y])) ?_,U⟩;simpa using h1
 cases h
theorem Il{o:Oper}
  (aV:cy w0 st a w ω τ) (h:oE P st o.op ans=some (r,cd,obs)) (aZ:cG obs):
  ∃z,(execOp a.eval o).run P w=.ok (.value z) w/\cL (Sat w ω τ) r z:=by
 obtain⟨dst,op,type,pos,after,guard⟩:=o;simp only at h;unfold oE at h;split at h
 ·rename_i x;simp only[aR,bx]at h;obtain⟨rfl,_,_⟩:=h;exact⟨a.eval x,rfl,aV.bi x⟩
 ·rename_i x;simp only[aR,bx]at h;obtain⟨rfl,_,_⟩:=h;exact⟨a.eval x,rfl,aV.bi x⟩
 ·rename_i c x y;exact akb (aV.bi c) (aV.bi x) (aV.bi y) h aZ
 ·rename_i t x;obtain⟨z,h1,U⟩:=aj4 aV (aV.bi x) h aZ;exact⟨z,iB h1,U⟩
 ·rename_i x;unfold Po at h;split at h
  ·rename_i id off e;simp only[aR,bx]at h;obtain⟨rfl,_,_⟩:=h;have aj:=aJ.dB e (aV.bi x);obtain⟨b,ar,ag⟩:=aj;exact⟨_,by simp only[execOp,ag];rfl,b,ar,rfl⟩
  ·rename_i t k es i j e;simp only[aR,bx]at h;obtain⟨rfl,_,_⟩:=h;have aj:=aJ.dB e (aV.bi x);have db:=aj;obtain⟨b,off,cap,ag,h1⟩:=aj;refine⟨_,by simp only[execOp,ag];rfl,?_⟩;rw[<-ag];exact db
  ·rename_i ds off e;simp only[aR,bx]at h;obtain⟨rfl,_,_⟩:=h;have aj:=aJ.dB e (aV.bi x);have db:=aj;obtain⟨b,ag,h1⟩:=aj;refine⟨_,by simp only[execOp,ag];rfl,?_⟩;rw[<-ag];exact db
  ·rename_i t i j k es as8 ME e;simp only[aR,bx]at h;obtain⟨rfl,_,_⟩:=h;have aj:=aJ.dB e (aV.bi x);have db:=aj;obtain⟨hX,⟨b,off,cap,_,ag,_⟩,_⟩:=aj;refine⟨_,by simp only[execOp,ag];rfl,?_⟩;rw[<-ag];exact db
  cases h
 ·rename_i YM t x y p6;obtain⟨z,h1,U⟩:=akv (aV.bi x) (aV.bi y) h aZ;exact⟨z,iB h1,U⟩
 ·rename_i YM t x;obtain⟨z,h1,U⟩:=aka (aV.bi x) h aZ;exact⟨z,iB h1,U⟩
 ·rename_i s d x;obtain⟨z,h1,U⟩:=akc (aV.bi x) h aZ;exact⟨z,iB h1,U⟩
 ·rename_i t x cX hi iu;obtain⟨z,h1,U⟩:=aj6 aV (aV.bi x) h aZ;exact⟨z,iB h1,U⟩
 ·rename_i s x f;obtain⟨z,h1,U⟩:=akw (aV.bi x) h;exact⟨z,iB h1,U⟩
 ·rename_i t x f;obtain⟨z,h1,U⟩:=aj9 (aV.bi x) h;exact⟨z,iB h1,U⟩
 ·rename_i t x i;obtain⟨z,h1,U⟩:=aj2 (aV.bi x) (aV.bi i) h aZ;exact⟨z,iB h1,U⟩
 ·rename_i t x i;obtain⟨z,h1,U⟩:=akd (aV.bi x) (aV.bi i) h aZ;exact⟨z,iB h1,U⟩
 ·rename_i x i;obtain⟨z,h1,U⟩:=aj8 (P:=P) (aV.bi x) h;exact⟨z,iB h1,U⟩
 ·rename_i t parts;obtain⟨z,h1,U⟩:=aj7 aV h;exact⟨z,iB h1,U⟩
 ·rename_i b args ts;obtain⟨z,h1,U⟩:=akh (ty:=type) (consts:=args.map fun | .const _=>true | _=>false) aV h;exact⟨z,by simp only[execOp,resolve,Sem.run_bind,Sem.run_pure,Result.andThen_ok,invoke];exact h1,U⟩
 ·rename_i fn first captured
  obtain⟨z,h1,U⟩:=akg (P:=P) aV h;exact⟨z,iB h1,U⟩
 cases h
