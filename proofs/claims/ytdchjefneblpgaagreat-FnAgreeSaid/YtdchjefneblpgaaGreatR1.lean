import Derived.WalkKit
import Derived.WalkSpells
import Derived.WalkLawsBesides
import Derived.KernelRfl
set_option linter.unusedVariables false
set_option linter.unusedSimpArgs false
namespace Go.Sx
open Go.RowKit
universe u v w x
theorem ae:True:=⟨⟩
theorem aO:type_of% @Option.some.injEq.{u}:=@Option.some.injEq.{u}
theorem bk:type_of% @List.length_map.{u,v}:=@List.length_map.{u,v}
theorem b2:type_of% @Option.map_eq_some_iff.{u,v}:=@Option.map_eq_some_iff.{u,v}
theorem bx:type_of% @Prod.mk.injEq.{u,v}:=@Prod.mk.injEq.{u,v}
theorem cN:type_of% @Bool.eq_false_or_eq_true:=@Bool.eq_false_or_eq_true
theorem lr:type_of% @decide_eq_false_iff_not:=@decide_eq_false_iff_not
theorem fw:type_of% @List.mem_cons_of_mem.{u}:=@List.mem_cons_of_mem.{u}
theorem bY:type_of% @List.length_nil.{u}:=@List.length_nil.{u}
theorem b':type_of% @decide_eq_true_eq:=@decide_eq_true_eq
theorem b8:type_of% @Bool.and_eq_true:=@Bool.and_eq_true
theorem ey:type_of% @List.getElem?_eq_some_iff.{u}:=@List.getElem?_eq_some_iff.{u}
theorem eu:type_of% @Array.getD_eq_getD_getElem?.{u}:=@Array.getD_eq_getD_getElem?.{u}
theorem eY:type_of% @List.mem_cons_self.{u}:=@List.mem_cons_self.{u}
theorem fN:type_of% @List.length_set.{u}:=@List.length_set.{u}
theorem a6:type_of% @if_neg.{u}:=@if_neg.{u}
theorem aZ:type_of% @if_pos.{u}:=@if_pos.{u}
theorem dJ:type_of% @List.length_cons.{u}:=@List.length_cons.{u}
theorem dG:type_of% @List.getElem?_map.{u,v}:=@List.getElem?_map.{u,v}
theorem oN:type_of% @decide_eq_false:=@decide_eq_false
theorem gz:type_of% @List.getElem?_eq_getElem.{u}:=@List.getElem?_eq_getElem.{u}
theorem dq:type_of% @Nat.zero_add:=@Nat.zero_add
theorem fE:type_of% @List.mem_of_getElem?.{u}:=@List.mem_of_getElem?.{u}
theorem eQ:type_of% @Option.some.inj.{u}:=@Option.some.inj.{u}
theorem fR:type_of% @Bool.or_eq_false_iff:=@Bool.or_eq_false_iff
theorem jz:type_of% @Array.getElem?_eq_some_iff.{u}:=@Array.getElem?_eq_some_iff.{u}
theorem gU:type_of% @List.getElem?_drop.{u}:=@List.getElem?_drop.{u}
theorem hR:type_of% @Nat.mul_le_mul_right:=@Nat.mul_le_mul_right
theorem k6:type_of% @List.take_length.{u}:=@List.take_length.{u}
theorem hS:type_of% @Array.getElem?_eq_getElem.{u}:=@Array.getElem?_eq_getElem.{u}
theorem dp:type_of% @beq_iff_eq.{u}:=@beq_iff_eq.{u}
theorem hj:type_of% @List.getElem?_take.{u}:=@List.getElem?_take.{u}
theorem XZ:type_of% @List.cons.inj.{u}:=@List.cons.inj.{u}
theorem iX:type_of% @Array.getElem?_toList.{u}:=@Array.getElem?_toList.{u}
theorem hl:type_of% @List.mem_append_left.{u}:=@List.mem_append_left.{u}
theorem io:type_of% @List.mem_append_right.{u}:=@List.mem_append_right.{u}
theorem iq:type_of% @Array.getElem?_append.{u}:=@Array.getElem?_append.{u}
theorem et:type_of% @List.mem_cons.{u}:=@List.mem_cons.{u}
theorem fW:type_of% @List.all_eq_true.{u}:=@List.all_eq_true.{u}
theorem iF:type_of% @List.getD_eq_getElem?_getD.{u}:=@List.getD_eq_getElem?_getD.{u}
theorem dN:type_of% @Nat.le_refl:=@Nat.le_refl
theorem ff:type_of% @List.any_eq_false.{u}:=@List.any_eq_false.{u}
theorem h7:type_of% @Bool.eq_false_iff:=@Bool.eq_false_iff
theorem fX:type_of% @Nat.add_mul:=@Nat.add_mul
theorem gy:type_of% @Bool.not_eq_true':=@Bool.not_eq_true'
theorem l7:type_of% @List.getElem?_append.{u}:=@List.getElem?_append.{u}
theorem jV:type_of% @List.map_append.{u,v}:=@List.map_append.{u,v}
theorem jx:type_of% @Option.getD_some.{u}:=@Option.getD_some.{u}
theorem lq:type_of% @List.map_congr_left.{u,v}:=@List.map_congr_left.{u,v}
theorem jW:type_of% @Bool.not_eq_false':=@Bool.not_eq_false'
theorem nY:type_of% @List.getElem?_toArray.{u}:=@List.getElem?_toArray.{u}
theorem iu:type_of% @Bool.not_true:=@Bool.not_true
theorem jX:type_of% @List.append_nil.{u}:=@List.append_nil.{u}
theorem k7:type_of% @List.length_append.{u}:=@List.length_append.{u}
theorem l8:type_of% @List.size_toArray.{u}:=@List.size_toArray.{u}
theorem jy:type_of% @List.getElem?_set.{u}:=@List.getElem?_set.{u}
theorem nd:type_of% @Int.toNat_natCast:=@Int.toNat_natCast
theorem oK:type_of% @List.getElem?_cons_succ.{u}:=@List.getElem?_cons_succ.{u}
theorem kE:type_of% @List.getElem?_cons_zero.{u}:=@List.getElem?_cons_zero.{u}
theorem nf:type_of% @Option.bind_eq_some_iff.{u,v}:=@Option.bind_eq_some_iff.{u,v}
theorem uq:type_of% @List.findIdx?_eq_some_iff_getElem.{u}:=@List.findIdx?_eq_some_iff_getElem.{u}
theorem qo:type_of% @Option.isSome_iff_exists.{u}:=@Option.isSome_iff_exists.{u}
theorem pJ:type_of% @List.mem_iff_getElem?.{u}:=@List.mem_iff_getElem?.{u}
theorem jY:type_of% @Bool.false_or:=@Bool.false_or
theorem qp:type_of% @List.set_set.{u}:=@List.set_set.{u}
theorem nZ:type_of% @Option.bind_some.{u,v}:=@Option.bind_some.{u,v}
theorem ng:type_of% @Bool.false_eq_true:=@Bool.false_eq_true
theorem nh:type_of% @decide_eq_true:=@decide_eq_true
theorem X0:type_of% @Int.le_trans:=@Int.le_trans
theorem kF:type_of% @List.mem_flatMap.{u,v}:=@List.mem_flatMap.{u,v}
theorem vT:type_of% @List.getElem?_append_right.{u}:=@List.getElem?_append_right.{u}
theorem qq:type_of% @List.length_filter_le.{u}:=@List.length_filter_le.{u}
theorem kG:type_of% @List.map_set.{u,v}:=@List.map_set.{u,v}
theorem k8:type_of% @List.map_cons.{u,v}:=@List.map_cons.{u,v}
theorem n0:type_of% @Option.map_some.{u,v}:=@Option.map_some.{u,v}
theorem pK:type_of% @List.getElem_mem.{u}:=@List.getElem_mem.{u}
theorem qs:type_of% @List.length_take.{u}:=@List.length_take.{u}
theorem gV:type_of% @List.mem_append.{u}:=@List.mem_append.{u}
theorem pL:type_of% @List.append_assoc.{u}:=@List.append_assoc.{u}
theorem fL:type_of% @if_true.{u}:=@if_true.{u}
theorem oL:type_of% @Bool.not_false:=@Bool.not_false
theorem rM:type_of% @Array.size_append.{u}:=@Array.size_append.{u}
theorem sS:type_of% @List.take_add_one.{u}:=@List.take_add_one.{u}
theorem h8:type_of% @List.mem_or_eq_of_mem_set.{u}:=@List.mem_or_eq_of_mem_set.{u}
theorem x9:type_of% @List.getElem?_append_left.{u}:=@List.getElem?_append_left.{u}
theorem rN:type_of% @List.mem_of_mem_take.{u}:=@List.mem_of_mem_take.{u}
theorem ni:type_of% @Bool.or_eq_true:=@Bool.or_eq_true
theorem nj:type_of% @Nat.add_zero:=@Nat.add_zero
theorem vU:type_of% @List.take_of_length_le.{u}:=@List.take_of_length_le.{u}
theorem oM:type_of% @Bool.true_and:=@Bool.true_and
theorem jZ:type_of% @List.mem_map.{u,v}:=@List.mem_map.{u,v}
theorem ur:type_of% @List.mem_of_mem_drop.{u}:=@List.mem_of_mem_drop.{u}
theorem Am:type_of% @List.getElem?_replicate.{u}:=@List.getElem?_replicate.{u}
theorem pM:type_of% @Nat.lt_or_ge:=@Nat.lt_or_ge
theorem vV:type_of% @beq_eq_false_iff_ne.{u}:=@beq_eq_false_iff_ne.{u}
theorem sT:type_of% @List.cons.injEq.{u}:=@List.cons.injEq.{u}
theorem Dq:type_of% @List.findIdx?_eq_none_iff.{u}:=@List.findIdx?_eq_none_iff.{u}
theorem vW:type_of% @Bool.not_eq_true:=@Bool.not_eq_true
theorem qt:type_of% @List.not_mem_nil.{u}:=@List.not_mem_nil.{u}
theorem x':type_of% @List.eq_nil_of_length_eq_zero.{u}:=@List.eq_nil_of_length_eq_zero.{u}
theorem Hv:type_of% @List.take_append_of_le_length.{u}:=@List.take_append_of_le_length.{u}
theorem vX:type_of% @Array.length_toList.{u}:=@Array.length_toList.{u}
theorem ya:type_of% @beq_self_eq_true.{u}:=@beq_self_eq_true.{u}
theorem An:type_of% @Nat.lt_of_lt_of_le:=@Nat.lt_of_lt_of_le
theorem Hw:type_of% @Option.isSome_eq_false_iff.{u}:=@Option.isSome_eq_false_iff.{u}
theorem OA:type_of% @List.take_append_drop.{u}:=@List.take_append_drop.{u}
theorem fM:type_of% @ne_eq.{u}:=@ne_eq.{u}
theorem Hy:type_of% @Option.isNone_iff_eq_none.{u}:=@Option.isNone_iff_eq_none.{u}
theorem n1:type_of% @Nat.le_trans:=@Nat.le_trans
theorem sU:type_of% @List.map_id.{u}:=@List.map_id.{u}
theorem vY:type_of% @List.any_cons.{u}:=@List.any_cons.{u}
theorem yb:type_of% @List.mapM_cons.{u,v,w}:=@List.mapM_cons.{u,v,w}
theorem k9:type_of% @if_false.{u}:=@if_false.{u}
theorem l9:type_of% @List.any_eq_true.{u}:=@List.any_eq_true.{u}
theorem sV:type_of% @List.drop_zero.{u}:=@List.drop_zero.{u}
theorem axt:type_of% @Int.natCast_zero:=@Int.natCast_zero
theorem Ao:type_of% @List.flatMap_nil.{u,v}:=@List.flatMap_nil.{u,v}
theorem Dr:type_of% @Array.getElem?_eq_none.{u}:=@Array.getElem?_eq_none.{u}
theorem Ap:type_of% @Array.getElem?_map.{u,v}:=@Array.getElem?_map.{u,v}
theorem yc:type_of% @Option.toList_some.{u}:=@Option.toList_some.{u}
theorem yd:type_of% @List.range_zero:=@List.range_zero
theorem sW:type_of% @List.map_take.{u,v}:=@List.map_take.{u,v}
theorem uu:type_of% @Bool.and_true:=@Bool.and_true
theorem vZ:type_of% @List.length_range:=@List.length_range
theorem Ds:type_of% @Nat.mod_eq_of_lt:=@Nat.mod_eq_of_lt
theorem ye:type_of% @Nat.add_assoc:=@Nat.add_assoc
theorem rO:type_of% @List.sum_cons.{u}:=@List.sum_cons.{u}
inductive D where
 | v (x:Value)
 | J (k:Nat) (es:List (List D))
 | ptr (ds:List D)
 | cl (g:FuncId) (bm:List D)
inductive c0 where
 | bB
 | box (id:Nat)
 | tok (t:Nat) (q:List (Nat×Nat))
abbrev Own:=Nat->c0
def c5(es:List (List D))(i j:Nat):Option D:=(es[i]?).bind (·[j]?)
inductive bX (w:World) (ω:Own):(List (Nat×Nat)->c0->Prop)->D->Value->Prop
 | v (R:List (Nat×Nat)->c0->Prop) (x:Value) (h1:x.oneCell'=true):bX w ω R (.v x) x
 | nil (R:List (Nat×Nat)->c0->Prop) (k:Nat) (a:Option Addr):bX w ω R (.J k []) (.slice a 0 0)
 | row (R:List (Nat×Nat)->c0->Prop) (k:Nat) (es:List (List D)) (b off cap:Nat) (arr:Array Value) (ty:TypeId) (cR:Nat×Nat) (us:Nat->Nat->Value)
   (ao:w.heap[b]?=some (.cells arr ty cR)) (ed:R [] (ω b)) (af:es.length<=cap) (ai:off+cap*k<=arr.size) (hk:∀e∈es,e.length=k)
   (hu:∀i j d,c5 es i j=some d->arr[off+i*k+j]?=some (us i j))
   (aB:∀i j d,c5 es i j=some d->bX w ω (fun q=>R ((i,j)::q)) d (us i j)):
   bX w ω R (.J k es) (.slice (some ⟨b,off,none⟩) es.length cap)
 | ptr (R:List (Nat×Nat)->c0->Prop) (ds:List D) (b:Nat) (arr:Array Value) (ty:TypeId) (cR:Nat×Nat) (us:Nat->Value)
   (ao:w.heap[b]?=some (.cells arr ty cR)) (ed:R [] (ω b)) (ai:arr.size=ds.length)
   (hu:∀j d,ds[j]?=some d->arr[j]?=some (us j)) (aB:∀j d,ds[j]?=some d->bX w ω (fun q=>R ((0,j)::q)) d (us j)):
   bX w ω R (.ptr ds) (.pointer (some ⟨b,0,none⟩))
 | cl (R:List (Nat×Nat)->c0->Prop) (g:FuncId) (bm:List D) (cs:Array Value) (us:Nat->Value) (ai:cs.size=bm.length)
   (hu:∀j d,bm[j]?=some d->cs[j]?=some (us j)) (aB:∀j d,bm[j]?=some d->bX w ω (fun q=>R ((0,j)::q)) d (us j)):
   bX w ω R (.cl g bm) (.func (.func g) #[] cs)
variable{w aJ:World}{ω:Own}
theorem bX.frame{a1:Own}{R:List (Nat×Nat)->c0->Prop}{d:D}{v:Value}(h:bX w ω R d v):
  ∀{i':List (Nat×Nat)->c0->Prop},(∀b q,b<w.heap.size->R q (ω b)->i' q (a1 b)/\aJ.heap[b]?=w.heap[b]?)->bX aJ a1 i' d v:=by
 induction h with
 | v R x h1=>intro i' _;exact .v i' x h1
 | nil R k a=>intro i' _;exact .nil i' k a
 | row R k es b off cap arr ty cR us ao ed af ai hk hu aB dk=>
  intro i' bg;have bu:b<w.heap.size:=by
   rcases pM b w.heap.size with h | h
   ·exact h
   simp[Dr h]at ao
  obtain⟨h1,U⟩:=bg b [] bu ed;exact .row i' k es b off cap arr ty cR us (U.trans ao) h1 af ai hk hu (fun i j d d'=>dk i j d d' (fun b q aj aA=>bg b ((i,j)::q) aj aA))
 | ptr R ds b arr ty cR us ao ed ai hu aB dk=>
  intro i' bg;have bu:b<w.heap.size:=by
   rcases pM b w.heap.size with h | h
   ·exact h
   simp[Dr h]at ao
  obtain⟨h1,U⟩:=bg b [] bu ed;exact .ptr i' ds b arr ty cR us (U.trans ao) h1 ai hu (fun j d d'=>dk j d d' (fun b q aj aA=>bg b ((0,j)::q) aj aA))
 | cl R g bm cs us ai hu aB dk=>
  intro i' bg;exact .cl i' g bm cs us ai hu (fun j d d'=>dk j d d' (fun b q aj aA=>bg b ((0,j)::q) aj aA))
inductive Tag where
 | free
 | own (t:Nat)
 | ro (t:Nat)
def Tag.R:Tag->List (Nat×Nat)->c0->Prop
 | .free,_,o=>o=.bB
 | .own t,q,o=>o=.tok t q
 | .ro t,_,o=>o=.bB\/∃q,o=.tok t q
def Tag.eg(τ:Nat->Nat×Value):Tag->Nat×Value->Prop
 | .own t,y=>τ t=y
 | _,_=>True
def df:Nat:=1000000000
inductive e9 where
 | cu
 | v (x:Value)
 | J (t:Tag) (k:Nat) (es:List (List D))
inductive wb where
 | here
 | mD
 | at_ (x y:Nat)
def wb.rel(k n:Nat):wb->Value->Value->Prop
 | .at_ x y,u,v=>∃b off cap,u=.slice (some ⟨b,off,none⟩) n cap/\v=.pointer (some ⟨b,off+x*k+y,none⟩)/\x<n
 | _,u,v=>v=u
def wb.home:wb->Bool
 | .mD=>false
 | _=>true
inductive aD where
 | cu
 | v (x:Value)
 | cg (c:Bool)
 | J (t:Tag) (k:Nat) (es:List (List D))
 | ptr (id off:Nat)
 | ep (t:Tag) (k:Nat) (es:List (List D)) (i j:Nat)
 | iC (ds:List D) (off:Nat)
 | fd (d:D)
 | hq (g:FuncId) (ids:List Nat)
 | a8 (t i j k:Nat) (es:List (List D)) (m:wb)
 | fB (t:Nat) (vs:List e9)
 | gb (t k:Nat) (es:List (List D))
def ptrTo(b:Nat):Value:=.pointer (some ⟨b,0,none⟩)
def rQ(w:World)(ω:Own)(τ:Nat->Nat×Value):e9->Value->Prop
 | .cu,_=>True
 | .v x,y=>y=x
 | .J t k es,y=>bX w ω t.R (.J k es) y/\t.eg τ (k,y)
def vg(w:World)(ω:Own)(τ:Nat->Nat×Value)(t i j:Nat)(u:Value):Prop:=
 ∃(kT b off len cap:Nat) (arr:Array Value) (ty:TypeId) (cR:Nat×Nat),τ t=(kT,.slice (some ⟨b,off,none⟩) len cap)/\ω b=.tok t []/\w.heap[b]?=some (.cells arr ty cR)/\arr[off+i*kT+j]?=some u
def Sat(w:World)(ω:Own)(τ:Nat->Nat×Value):aD->Value->Prop
 | .cu,_=>True
 | .v x,y=>y=x
 | .cg c,y=>y=.bool c
 | .J t k es,y=>bX w ω t.R (.J k es) y/\t.eg τ (k,y)
 | .ptr id off,y=>∃b,ω b=.box id/\y=.pointer (some ⟨b,off,none⟩)
 | .ep t k es i j,y=>∃b off cap,y=.pointer (some ⟨b,off+i*k+j,none⟩)/\i<es.length/\
   bX w ω t.R (.J k es) (.slice (some ⟨b,off,none⟩) es.length cap)/\t.eg τ (k,.slice (some ⟨b,off,none⟩) es.length cap)
 | .iC ds off,y=>∃b,y=.pointer (some ⟨b,off,none⟩)/\bX w ω Tag.free.R (.ptr ds) (ptrTo b)
 | .fd d,y=>bX w ω Tag.free.R d y
 | .hq g ids,y=>∃bs:List Nat,y=.func (.func g) #[] (bs.map ptrTo).toArray/\bs.length=ids.length/\∀(i:Nat) (id:Nat),ids[i]?=some id->∃b,bs[i]?=some b/\ω b=.box id
 | .gb t k es,y=>bX w ω Tag.free.R (.J k es) y/\(df<=t->τ t=(k,y))
 | .a8 t i j k es m,y=>∃u,m.rel k es.length u y/\bX w ω (fun q o=>o=.tok t ((i,j)::q)) (.J k es) u/\(m.home=true->vg w ω τ t i j u)
 | .fB t vs,y=>∃(b:Nat) (ty:TypeId) (arr:Array Value),y=ptrTo b/\ω b=.tok t []/\w.heap[b]?=some (.cells arr ty (0,0))/\arr.size=vs.length/\∀(j:Nat) (c:e9),vs[j]?=some c->∃u,arr[j]?=some u/\rQ w ω τ c u
inductive bS where
 | one (l:aD)
 | agg (ls:List aD)
inductive aI where
 | bd (a:bS)
 | gv (as:List bS)
abbrev aI.one(l:aD):aI:=.bd (.one l)
abbrev aI.agg(ls:List aD):aI:=.bd (.agg ls)
abbrev aI.cu:aI:=.bd (.one .cu)
def lb(S:aD->Value->Prop)(ls:List aD)(vs:Array Value):Prop:=
 vs.size=ls.length/\∀(i:Nat) (l:aD),ls[i]?=some l->∃u,vs[i]?=some u/\S l u
def la(S:aD->Value->Prop):bS->Value->Prop
 | .one l,y=>S l y
 | .agg ls,y=>∃vs,y=.agg vs/\lb S ls vs
def cP(S:aD->Value->Prop):aI->Value->Prop
 | .bd a,y=>la S a y
 | .gv as,y=>∃vs:Array Value,y=.tuple vs/\vs.size=as.length/\∀(i:Nat) (a:bS),as[i]?=some a->∃u,vs[i]?=some u/\la S a u
structure aG where
 env:List aI
 boxes:List (Nat×List aD)
def dE(id:Nat):List (Nat×List aD)->Option (List aD)
 | []=>none
 | (i,ls)::r=>if i=id then some ls else dE id r
def bS.map(f:aD->aD):bS->bS
 | .one l=>.one (f l)
 | .agg ls=>.agg (ls.map f)
def aI.map(f:aD->aD):aI->aI
 | .bd a=>.bd (a.map f)
 | .gv as=>.gv (as.map (bS.map f))
def aG.map(f:aD->aD)(s:aG):aG:=⟨s.env.map (aI.map f),s.boxes.map fun x=>(x.1,x.2.map f)⟩
variable{S:aD->Value->Prop}
theorem lb.map{lx:aD->Value->Prop}{f:aD->aD}(h:∀l v,S l v->lx (f l) v){ls:List aD}{vs:Array Value}(ai:lb S ls vs):lb lx (ls.map f) vs:=by
 refine⟨by simpa using ai.1,fun i l aj=>?_⟩;rw[dG,b2]at aj;obtain⟨fS,bl,rfl⟩:=aj;obtain⟨u,h1,U⟩:=ai.2 i fS bl;exact⟨u,h1,h _ _ U⟩
theorem la.map{lx:aD->Value->Prop}{f:aD->aD}(h:∀l v,S l v->lx (f l) v):∀{a:bS} {y:Value},la S a y->la lx (a.map f) y
 | .one l,y,ai=>h _ _ ai
 | .agg ls,y,⟨vs,e,ai⟩=>⟨vs,e,ai.map h⟩
theorem cP.map{lx:aD->Value->Prop}{f:aD->aD}(h:∀l v,S l v->lx (f l) v):∀{p:aI} {y:Value},cP S p y->cP lx (p.map f) y
 | .bd a,y,ai=>show la lx (a.map f) y from la.map h (show la S a y from ai)
 | .gv as,y,⟨vs,e,aK,ai⟩=>⟨vs,e,by simpa using aK,fun i a ad=>by
   rw[dG,b2]at ad;obtain⟨a0,bl,rfl⟩:=ad;obtain⟨u,h1,U⟩:=ai i a0 bl;exact⟨u,h1,la.map h U⟩⟩
theorem tO(f:aD->aD)(id:Nat):∀bs:List (Nat×List aD),dE id (bs.map fun x=>(x.1,x.2.map f))=(dE id bs).map (·.map f)
 | []=>rfl
 | (i,ls)::r=>by
  simp only[k8,dE];split
  ·rfl
  exact tO f id r
structure eN where
 w:World
 G:Nat->Prop
 H:Nat->Nat×Value
def eN.Ez(B:eN)(b:Nat):Prop:=B.w.heap.size<=b\/B.G b
def Kh:Bool:=true
structure ho (n:Nat) (w aJ:World):Prop where
 below:Below n w aJ
 drawn:Kh=true->w.drawn<=aJ.drawn
variable{n:Nat}
theorem ho.size(h:ho n w aJ):w.heap.size<=aJ.heap.size:=h.below.size
theorem ho.block(h:ho n w aJ):∀k,k<n->aJ.heap[k]?=w.heap[k]?:=h.below.block
theorem ho.refl(n:Nat)(w:World):ho n w w:=⟨Below.refl _ _,fun _=>dN _⟩
theorem ho.drew(h:ho n w aJ):ho n w aJ.drew:=⟨h.below.drew,fun ai=>Nat.le_succ_of_le (h.drawn ai)⟩
theorem ho.alloc(h:ho n w aJ)(aK:n<=aJ.heap.size)(o:Obj):ho n w (aJ.alloc o):=⟨h.below.alloc aK o,h.drawn⟩
def CS:List (Nat×List Int):=[]
def qx(w:World):Prop:=∀x∈CS,∃ty cR,w.heap[x.1]?=some (.cells (x.2.map (Value.int .u64)).toArray ty cR)
theorem qx.lt(h:qx w){x:Nat×List Int}(aa:x∈CS):x.1<w.heap.size:=by
 obtain⟨ty,cR,e⟩:=h x aa;rcases pM x.1 w.heap.size with h | h
 ·exact h
 simp[Dr h]at e
def Tidy(w:World)(ω:Own):Prop:=qx w/\∀x∈CS,ω x.1=.bB
structure hn (B:eN) (w:World):Prop where
 os:w.os=B.w.os
 tape:w.tape=B.w.tape
 output:w.output=B.w.output
 size:B.w.heap.size<=w.heap.size
 block:∀k,k<B.w.heap.size->¬B.G k->w.heap[k]?=B.w.heap[k]?
 drawn:Kh=true->B.w.drawn<=w.drawn
 laid:qx w
 free:∀x∈Go.Sx.CS,¬B.Ez x.1
theorem qx.next(h:qx w)(k:ho w.heap.size w aJ):qx aJ:=fun x aa=>by
 rw[k.below.block x.1 (h.lt aa)];exact h x aa
theorem hn.next{B:eN}(h:hn B w)(k:ho w.heap.size w aJ):hn B aJ:=
 ⟨k.below.os.trans h.os,k.below.tape.trans h.tape,k.below.output.trans h.output,n1 h.size k.below.size,fun i hi ar=>(k.below.block i (An hi h.size)).trans (h.block i hi ar),fun ai=>n1 (h.drawn ai) (k.drawn ai),h.laid.next k,h.free⟩
def eN.of(w:World):eN:=⟨w,fun _=>False,fun _=>(0,undef)⟩
theorem hn.refl(B:eN)(h:qx B.w)(ar:∀x∈CS,¬B.G x.1):hn B B.w:=⟨rfl,rfl,rfl,dN _,fun _ _ _=>rfl,fun _=>dN _,h,fun x aa hm=>by
 rcases hm with hm | hm
 ·exact absurd (h.lt aa) (by omega)
 exact ar x aa hm⟩
theorem hn.start{H:Nat->Nat×Value}(h:Tidy w ω):hn ⟨w,fun b=>ω b≠.bB,H⟩ w:=hn.refl ⟨w,fun b=>ω b≠.bB,H⟩ h.1 fun x aa hm=>hm (h.2 x aa)
theorem hn.below(h:hn (eN.of w) aJ):ho w.heap.size w aJ:=⟨⟨h.os,h.tape,h.output,h.size,fun k hk=>h.block k hk (fun h=>h)⟩,h.drawn⟩
theorem hn.setRow{B:eN}(h:hn B w){b:Nat}(ao:B.Ez b)(arr:Array Value):hn B (w.setRow b arr):=
 ⟨h.os,h.tape,h.output,by simpa using h.size,fun k hk ar=>by
  have:k≠b:=by
   rintro rfl;rcases ao with ao | ao
   ·omega
   exact ar ao
  rw[setRow_other w b k arr this];exact h.block k hk ar,h.drawn,fun x aa=>by
  have:x.1≠b:=fun e=>h.free x aa (e▸ao)
  rw[setRow_other w b x.1 arr this];exact h.laid x aa,h.free⟩
def oP(w0:eN)(w:World)(ω:Own):Prop:=∀b,ω b≠.bB->w0.Ez b/\∃arr ty,w.heap[b]?=some (.cells arr ty (0,0))
def uv(w:World)(ω:Own)(τ:Nat->Nat×Value)(id:Nat)(ls:List aD):Prop:=
 ∃b arr ty,ω b=.box id/\(∀c3,ω c3=.box id->c3=b)/\w.heap[b]?=some (.cells arr ty (0,0))/\lb (Sat w ω τ) ls arr
structure cE (w0:eN) (st:aG) (a:Act) (w:World) (ω:Own) (τ:Nat->Nat×Value):Prop where
 defers:a.defers=[]
 size:a.tmps.size=st.env.length
 below:hn w0 w
 owned:oP w0 w ω
 fixed:∀t,df<=t->τ t=w0.H t
 pinned:∀id b,df<=id->ω b=.box id->(w0.H id).1=b
 env:∀(i:Nat) (p:aI),st.env[i]?=some p->∃v,a.tmps[i]?=some v/\cP (Sat w ω τ) p v
 boxes:∀id ls,dE id st.boxes=some ls->uv w ω τ id ls
def Rel(w0:eN)(st:aG)(a:Act)(w:World):Prop:=∃ω τ,cE w0 st a w ω τ
structure v8 (B:eN) (w:World):Prop where
 os:w.os=B.w.os
 tape:w.tape=B.w.tape
 output:w.output=B.w.output
 size:B.w.heap.size<=w.heap.size
 block:∀k,k<B.w.heap.size->¬B.G k->w.heap[k]?=B.w.heap[k]?
 drawn:Kh=true->B.w.drawn<=w.drawn
theorem v8.full{H:Nat->Nat×Value}(h:v8 ⟨w,fun b=>ω b≠.bB,H⟩ aJ)(bq:Tidy w ω):hn ⟨w,fun b=>ω b≠.bB,H⟩ aJ:=
 ⟨h.os,h.tape,h.output,h.size,h.block,h.drawn,fun x aa=>by
  rw[h.block x.1 (bq.1.lt aa) fun aK=>aK (bq.2 x aa)];exact bq.1 x aa,(hn.start (H:=H) bq).free⟩
variable{w0:eN}
theorem cE.tidy{st:aG}{a:Act}{a1:Own}{τ:Nat->Nat×Value}(h:cE w0 st a w ω τ)(da:∀b,ω b=.bB->a1 b=.bB):Tidy w a1:=
 ⟨h.below.laid,fun x aa=>da _ (Classical.byContradiction fun aK=>h.below.free x aa (h.owned _ aK).1)⟩
theorem oP.lt(h:oP w0 w ω){b:Nat}(ao:ω b≠.bB):b<w.heap.size:=by
 obtain⟨_,arr,ty,e⟩:=h b ao;rcases pM b w.heap.size with h | h
 ·exact h
 simp[Dr h]at e
theorem oP.fresh(h:oP w0 w ω){b:Nat}(ao:w.heap.size<=b):ω b=.bB:=by
 cases e:ω b with
 | bB=>rfl
 | box id=>have:=h.lt (b:=b) (by simp[e]);omega
 | tok t q=>have:=h.lt (b:=b) (by simp[e]);omega
end Go.Sx
namespace Go.Sx
open Go.RowKit
def e9.cr(g:Tag->Option Tag):e9->e9
 | .J t k es=>match g t with | some dc=>.J dc k es | none=>.cu
 | c=>c
def aD.cr(g:Tag->Option Tag)(p:Nat->Bool):aD->aD
 | .J t k es=>match g t with | some dc=>.J dc k es | none=>.cu
 | .ep t k es i j=>match g t with | some dc=>.ep dc k es i j | none=>.cu
 | .ptr id off=>if p id then .ptr id off else .cu
 | .hq f ids=>if ids.all p then .hq f ids else .cu
 | .a8 t i j k es m=>match g (.own t) with | some (.own dc)=>if dc=t then .a8 t i j k es m else .cu | _=>.cu
 | .fB t vs=>match g (.own t) with | some (.own dc)=>if dc=t then .fB t (vs.map (e9.cr g)) else .cu | _=>.cu
 | l=>l
structure mC (w:World) (ω:Own) (τ:Nat->Nat×Value) (aJ:World) (a1:Own) (cT:Nat->Nat×Value) (g:Tag->Option Tag) (p:Nat->Bool):Prop where
 rep:∀t dc b q,g t=some dc->b<w.heap.size->t.R q (ω b)->dc.R q (a1 b)/\aJ.heap[b]?=w.heap[b]?
 eg:∀t dc y,g t=some dc->t.eg τ y->dc.eg cT y
 box:∀id b,p id=true->ω b=.box id->a1 b=.box id
 free:g .free=some .free
 fix:∀t,df<=t->cT t=τ t
variable{w aJ:World}{ω a1:Own}{τ cT:Nat->Nat×Value}{g:Tag->Option Tag}
theorem ER(h:∀c u,rQ w ω τ c u->rQ aJ a1 cT (e9.cr g c) u){arr:Array Value}{vs:List e9}
  (aK:arr.size=vs.length) (bz:∀(j:Nat) (c:e9),vs[j]?=some c->∃u,arr[j]?=some u/\rQ w ω τ c u):
  arr.size=(vs.map (e9.cr g)).length/\∀(j:Nat) (c:e9),(vs.map (e9.cr g))[j]?=some c->∃u,arr[j]?=some u/\rQ aJ a1 cT c u:=by
 refine⟨by simpa using aK,fun j c af=>?_⟩;rw[dG,b2]at af;obtain⟨dT,bl,rfl⟩:=af;obtain⟨u,h1,U⟩:=bz j dT bl;exact⟨u,h1,h dT u U⟩
theorem mC.nI{p:Nat->Bool}(h:mC w ω τ aJ a1 cT g p)(c:e9)(u:Value)(ai:rQ w ω τ c u):rQ aJ a1 cT (e9.cr g c) u:=by
 cases c with
 | cu=>exact trivial
 | v x=>exact ai
 | J t k es=>
  simp only[e9.cr];cases ar:g t with
  | none=>exact trivial
  | some dc=>exact⟨ai.1.frame fun b q ao aA=>h.rep t dc b q ar ao aA,h.eg t dc _ ar ai.2⟩
theorem mC.sat{g:Tag->Option Tag}{p:Nat->Bool}(h:mC w ω τ aJ a1 cT g p):
  ∀(l:aD) (v:Value),Sat w ω τ l v->Sat aJ a1 cT (l.cr g p) v:=by
 intro l v ai;cases l with
 | cu=>exact trivial
 | v x=>exact ai
 | cg c=>exact ai
 | J t k es=>
  simp only[aD.cr];cases ar:g t with
  | none=>exact trivial
  | some dc=>exact⟨ai.1.frame fun b q ao aA=>h.rep t dc b q ar ao aA,h.eg t dc _ ar ai.2⟩
 | ptr id off=>
  simp only[aD.cr];split
  ·obtain⟨b,ao,e⟩:=ai;exact⟨b,h.box id b ‹_› ao,e⟩
  exact trivial
 | hq f ids=>
  simp only[aD.cr];split
  ·rename_i hp;obtain⟨bs,e,aK,hi⟩:=ai;refine⟨bs,e,aK,fun i id gq=>?_⟩;obtain⟨b,h1,U⟩:=hi i id gq;exact⟨b,h1,h.box id b (fW.1 hp id (fE gq)) U⟩
  exact trivial
 | iC ds off=>
  obtain⟨b,e,az⟩:=ai;exact⟨b,e,az.frame fun b q ao aA=>h.rep .free .free b q h.free ao aA⟩
 | fd d=>exact bX.frame ai fun b q ao aA=>h.rep .free .free b q h.free ao aA
 | gb t k es=>exact⟨ai.1.frame fun b q ao aA=>h.rep .free .free b q h.free ao aA,fun bq=>(h.fix t bq).trans (ai.2 bq)⟩
 | a8 t i j k es m=>
  simp only[aD.cr];split
  ·rename_i dc ar;split
   ·rename_i bq;subst bq;obtain⟨u,hu,h1,hm⟩:=ai;refine⟨u,hu,h1.frame fun c q af aA=>h.rep _ _ c _ ar af aA,fun bC=>?_⟩;obtain⟨kT,b,off,len,cap,arr,ty,cR,U,aQ,ax,aF⟩:=hm bC;have bu:b<w.heap.size:=(jz.1 ax).1;have hk:=h.rep _ _ b [] ar bu aQ;exact⟨kT,b,off,len,cap,arr,ty,cR,h.eg _ _ _ ar U,hk.1,hk.2.trans ax,aF⟩
   exact trivial
  exact trivial
 | fB t vs=>
  simp only[aD.cr];split
  ·rename_i dc ar;split
   ·rename_i bq;subst bq;obtain⟨b,ty,arr,e,aQ,ax,aK,bz⟩:=ai;have bu:b<w.heap.size:=(jz.1 ax).1;have hk:=h.rep _ _ b [] ar bu aQ;exact⟨b,ty,arr,e,hk.1,hk.2.trans ax,ER (h.nI) aK bz⟩
   exact trivial
  exact trivial
 | ep t k es i j=>
  simp only[aD.cr];cases ar:g t with
  | none=>exact trivial
  | some dc=>
   obtain⟨b,off,cap,e,hi,az,bC⟩:=ai;exact⟨b,off,cap,e,hi,az.frame fun b q ao aA=>h.rep t dc b q ar ao aA,h.eg t dc _ ar bC⟩
variable{a:Act}
theorem Yw{d:Nat}{v:Value}{i:Nat}:(a.put (some d) v).tmps[i]?=if d=i/\i<a.tmps.size then some v else a.tmps[i]?:=by
 simp only[Act.put,Array.getElem?_setIfInBounds];by_cases h:d=i
 ·subst h;by_cases U:d<a.tmps.size
  ·simp[U]
  simp[U]
 simp[h]
variable{w0:eN}{st:aG}
theorem cE.put(h:cE w0 st a w ω τ){d:Nat}{p:aI}{v:Value}(ai:cP (Sat w ω τ) p v):
  cE w0 ⟨st.env.set d p,st.boxes⟩ (a.put (some d) v) w ω τ where
 defers:=h.defers
 size:=by simp[Act.put,h.size]
 below:=h.below
 owned:=h.owned
 fixed:=h.fixed
 pinned:=h.pinned
 boxes:=h.boxes
 env:=by
  intro i q aA;rw[jy]at aA;rw[Yw];by_cases aB:d=i
  ·subst aB;simp only[fL]at aA;split at aA
   ·rename_i bu;have e:=eQ aA;subst e;exact⟨v,by rw[aZ ⟨rfl,by rw[h.size];exact bu⟩],ai⟩
   cases aA
  rw[a6 aB]at aA;rw[a6 (by simp[aB])];exact h.env i q aA
theorem cE.HY{p:Nat->Bool}
  (h:cE w0 st a w ω τ) (e:mC w ω τ aJ a1 cT g p) (r0:hn w0 aJ) (q8:oP w0 aJ a1) {bs:List (Nat×List aD)}
  (r2:∀id ls,dE id bs=some ls->uv aJ a1 cT id ls) (wJ:∀id b,df<=id->a1 b=.box id->ω b=.box id) (r6:∀t,df<=t->cT t=τ t:=by intros;rfl):cE w0 ⟨st.env.map (aI.map (aD.cr g p)),bs⟩ a aJ a1 cT where
 defers:=h.defers
 size:=by simp[h.size]
 below:=r0
 owned:=q8
 fixed:=fun t bq=>(r6 t bq).trans (h.fixed t bq)
 pinned:=fun id b hi ao=>h.pinned id b hi (wJ id b hi ao)
 boxes:=r2
 env:=by
  intro i q aA;rw[dG,b2]at aA;obtain⟨gH,bl,rfl⟩:=aA;obtain⟨v,h1,U⟩:=h.env i gH bl;exact⟨v,h1,cP.map e.sat U⟩
theorem ov(w:World)(o:Obj):(w.alloc o).heap[w.heap.size]?=some o:=by
 show (w.heap.push o)[_]?=_;simp
theorem xv(w:World)(o:Obj){i:Nat}(h:i<w.heap.size):(w.alloc o).heap[i]?=w.heap[i]?:=Below.heap_alloc w o i h
def qb(id:Nat):List (Nat×List aD)->List (Nat×List aD)
 | []=>[]
 | (i,ls)::r=>if i=id then qb id r else (i,ls)::qb id r
theorem Ki(id:Nat):∀bs,dE id (qb id bs)=none
 | []=>rfl
 | (i,ls)::r=>by
  simp only[qb];split
  ·exact Ki id r
  simp only[dE];rw[a6 ‹_›];exact Ki id r
theorem zj{id hB:Nat}(h:hB≠id):∀bs,dE hB (qb id bs)=dE hB bs
 | []=>rfl
 | (i,ls)::r=>by
  simp only[qb,dE];by_cases h1:i=id
  ·rw[aZ h1,a6 (by omega)];exact zj h r
  rw[a6 h1];simp only[dE];split
  ·rfl
  exact zj h r
def si:Tag->Option Tag:=some
def kB(id:Nat):Nat->Bool:=fun i=>decide (i≠id)
def aG.u3(st:aG)(id:Nat)(ls:List aD):aG:=
 let f:=aD.cr si (kB id)
 ⟨st.env.map (aI.map f),(id,ls.map f)::(qb id st.boxes).map fun x=>(x.1,x.2.map f)⟩
theorem cE.u3(h:cE w0 st a w ω τ)(id:Nat)(gq:id<df){ls:List aD}{arr:Array Value}(ty:TypeId)
  (ai:lb (Sat w ω τ) ls arr):
  ∃a1,cE w0 (st.u3 id ls) a (w.alloc (.cells arr ty)) a1 τ/\a1 w.heap.size=.box id:=by
 let a1:Own:=fun b=>if b=w.heap.size then .box id else match ω b with | .box i=>if i=id then .bB else .box i | o=>o
 have gE:a1 w.heap.size=.box id:=by simp[a1]
 have hold:∀b,b<w.heap.size->a1 b=(match ω b with | .box i=>if i=id then .bB else .box i | o=>o):=by
  intro b ao;simp only[a1];rw[a6 (by omega)]
 have hA:∀b,b≠w.heap.size->a1 b=(match ω b with | .box i=>if i=id then .bB else .box i | o=>o):=by
  intro b ao;simp only[a1];rw[a6 ao]
 have bj:mC w ω τ (w.alloc (.cells arr ty)) a1 τ si (kB id):=by
  refine⟨?_,?_,?_,rfl,fun _ _=>rfl⟩
  ·intro t dc b q ar ao aA;simp only[si,aO]at ar;subst ar;refine⟨?_,xv _ _ ao⟩;rw[hold b ao];cases t with
   | free=>simp only[Tag.R]at aA ⊢;rw[aA]
   | own s=>simp only[Tag.R]at aA ⊢;rw[aA]
   | ro s=>
    simp only[Tag.R]at aA ⊢;rcases aA with aA | ⟨dB,aA⟩
    ·rw[aA];exact .inl rfl
    rw[aA];exact .inr ⟨dB,rfl⟩
  ·intro t dc y ar bn;simp only[si,aO]at ar;subst ar;exact bn
  intro i b hp ao;have bu:=h.owned.lt (b:=b) (by simp[ao]);rw[hold b bu,ao];simp only[kB,b']at hp;simp[hp]
 have r0:hn w0 (w.alloc (.cells arr ty)):=h.below.next ((ho.refl _ _).alloc (dN _) _);have q8:oP w0 (w.alloc (.cells arr ty)) a1:=by
  intro b ao;by_cases aK:b=w.heap.size
  ·subst aK;exact⟨.inl h.below.size,arr,ty,ov _ _⟩
  rw[hA b aK]at ao;have U:ω b≠.bB:=by intro e;rw[e]at ao;exact ao rfl
  obtain⟨ax,b5,rI,e⟩:=h.owned b U;exact⟨ax,b5,rI,(xv _ _ (h.owned.lt U)).trans e⟩
 refine⟨a1,?_,gE⟩;refine h.HY bj r0 q8 ?_ (fun i b hi ao=>?_)
 case refine_2=>
  by_cases aK:b=w.heap.size
  ·subst aK;rw[gE]at ao;simp only[c0.box.injEq]at ao;omega
  rw[hA b aK]at ao;cases e:ω b with
  | bB=>simp[e]at ao
  | tok t q=>simp[e]at ao
  | box j=>
   simp only[e]at ao;split at ao
   ·cases ao
   exact ao
 intro i fr aj;simp only[dE]at aj;split at aj
 ·rename_i hi;subst hi;have e:=eQ aj;subst e;refine⟨w.heap.size,arr,ty,gE,?_,ov _ _,ai.map bj.sat⟩;intro c3 di;by_cases aK:c3=w.heap.size
  ·exact aK
  rw[hA c3 aK]at di;cases e:ω c3 with
  | bB=>simp[e]at di
  | tok t q=>simp[e]at di
  | box j=>
   simp only[e]at di;split at di
   ·cases di
   rename_i cf;simp only[c0.box.injEq]at di;exact absurd di cf
 rename_i hi;rw[tO,b2]at aj;obtain⟨kd,bl,rfl⟩:=aj;have cf:i≠id:=fun e=>hi e.symm
 rw[zj cf]at bl;obtain⟨b,b5,rI,ao,hu,bC,eV⟩:=h.boxes i kd bl;have bu:=h.owned.lt (b:=b) (by simp[ao]);refine⟨b,b5,rI,bj.box i b (by simp[kB,cf]) ao,?_,(xv _ _ bu).trans bC,eV.map bj.sat⟩;intro c3 di;by_cases aK:c3=w.heap.size
 ·subst aK;rw[gE]at di;simp only[c0.box.injEq]at di;exact absurd di.symm cf
 rw[hA c3 aK]at di;refine hu c3 ?_;cases e:ω c3 with
 | bB=>simp[e]at di
 | tok t q=>simp[e]at di
 | box j=>
  simp only[e]at di;split at di
  ·cases di
  exact di
end Go.Sx
namespace Go.Sx
open Go.RowKit
inductive cK where
 | one (d:D)
 | agg (ds:List D)
inductive bG where
 | vals (rs:List cK)
 | kf (src:List (Option Nat)) (ds:List D)
abbrev bG.new (ds : List D) : bG := .kf [] ds
inductive h' where
 | normal
 | exit (id:Nat)
 | ret
inductive b6 where
 | own
 | sub
 | rG (wR:List (List (Option (Option (List (List D)))))) (src:Nat) (ds:List D) (rs:List cK)
 | res (rs:List cK)
 | hd (wR:List (Option (List D))) (r:bG)
 | loop (EA:List (Nat×Nat×Nat)) (eW boxes:List Nat) (e:h') (st:aG)
 | pP (b:Bool)
 | el (ds:List D)
 | wr
 | eq (c:Bool)
 | num (n:Int)
 | pq (p:aI)
 | z' (st:aG)
def c8:List Prop->Prop
 | []=>True
 | p::r=>p/\c8 r
theorem c8.append:∀{a b:List Prop},c8 (a++b)->c8 a/\c8 b
 | [],_,h=>⟨ae,h⟩
 | _::_,_,h=>⟨⟨h.1,(c8.append h.2).1⟩,(c8.append h.2).2⟩
abbrev kH:=Option (aI×List b6×List Prop)
def DR:Value->aI
 | .agg cs=>.agg (cs.toList.map .v)
 | v=>.one (.v v)
def aG.bj(st:aG):Operand->aI
 | .tmp t=>st.env.getD t .cu
 | .const v=>DR v
 | .func f=>.one (.fd (.cl f []))
 | _=>.cu
theorem anV(w:World)(ω:Own)(τ:Nat->Nat×Value)(v:Value):cP (Sat w ω τ) (DR v) v:=by
 unfold DR;split
 ·rename_i cs;refine⟨cs,rfl,by simp,fun i l aj=>?_⟩;rw[dG,b2]at aj;obtain⟨u,hu,rfl⟩:=aj;exact⟨u,by simpa using hu,rfl⟩
 exact rfl
variable{w:World}{ω:Own}{τ:Nat->Nat×Value}
theorem cE.bj{w0:eN}{st:aG}{a:Act}(h:cE w0 st a w ω τ)(x:Operand):cP (Sat w ω τ) (st.bj x) (a.eval x):=by
 cases x with
 | tmp t=>
  simp only[aG.bj,Act.eval];cases e:st.env[t]? with
  | none=>
   rw[iF,e];exact trivial
  | some p=>
   obtain⟨v,bz,ai⟩:=h.env t p e;rw[iF,e];simpa[eu,bz]using ai
 | const v=>exact anV w ω τ v
 | global g=>exact trivial
 | func f=>exact bX.cl _ f [] #[] (fun _=>undef) rfl (fun j d aB=>by simp at aB) (fun j d aB=>by simp at aB)
def aD.val:aD->Option Value
 | .v x=>some x
 | .cg c=>some (.bool c)
 | _=>none
variable{y:Value}
theorem aD.Wh{l:aD}{x:Value}(h:l.val=some x)(ai:Sat w ω τ l y):y=x:=by
 cases l<;>simp[aD.val]at h
 ·subst h;exact ai
 subst h;exact ai
def aI.leaf:aI->Option aD
 | .bd (.one l)=>some l
 | _=>none
theorem aI.dQ{S:aD->Value->Prop}{p:aI}{l:aD}(h:p.leaf=some l)(ai:cP S p y):S l y:=by
 cases p with
 | gv as=>cases h
 | bd a=>
  cases a with
  | agg ls=>cases h
  | one g'=>simp only[aI.leaf,aO]at h;subst h;exact ai
def aI.int(p:aI):Option (IntKind×Int):=
 match p.leaf with
 | some (.v (.int k n))=>some (k,n)
 | _=>none
variable{p:aI}{k:IntKind}
theorem aI.o9{n:Int}(h:p.int=some (k,n))(ai:cP (Sat w ω τ) p y):y=.int k n:=by
 unfold aI.int at h;split at h
 ·rename_i cb aaY e;simp only[aO,bx]at h;obtain⟨rfl,rfl⟩:=h;exact aI.dQ e ai
 cases h
def aI.vals:aI->Option (List Value)
 | .bd (.agg ls)=>ls.mapM aD.val
 | _=>none
theorem QC{w:World}{ω:Own}{τ:Nat->Nat×Value}:∀{ls:List aD} {xs:List Value},ls.mapM aD.val=some xs->∀{vs:List Value},vs.length=ls.length->(∀(i:Nat) (l:aD),ls[i]?=some l->∃u,vs[i]?=some u/\Sat w ω τ l u)->vs=xs
 | [],xs,h,vs,aK,_=>by
  simp at h;subst h;exact x' aK
 | l::ls,xs,h,vs,aK,ai=>by
  rw[yb]at h;cases e:l.val with
  | none=>simp[e]at h
  | some x=>
   cases e2:ls.mapM aD.val with
   | none=>simp[e,e2]at h
   | some ys=>
    simp[e,e2]at h;subst h;cases vs with
    | nil=>simp at aK
    | cons v vs=>
     obtain⟨u,hu,eV⟩:=ai 0 l rfl;simp at hu;subst hu;rw[aD.Wh e eV]
     congr 1
     exact QC e2 (by simpa using aK) (fun i g' aj=>by have:=ai (i+1) g' (by simpa using aj);simpa using this)
theorem aI.avw{xs:List Value}(h:p.vals=some xs)(ai:cP (Sat w ω τ) p y):y=.agg xs.toArray:=by
 cases p with
 | gv as=>cases h
 | bd a=>
  cases a with
  | one l=>cases h
  | agg ls=>
   obtain⟨vs,rfl,aK,bz⟩:=ai;have:=QC (w:=w) (ω:=ω) (τ:=τ) h (vs:=vs.toList) (by simpa using aK) (fun i l aj=>by obtain⟨u,h1,U⟩:=bz i l aj;exact⟨u,by simpa using h1,U⟩);rw[<-this]
def aC(k:IntKind)(e:Int):Prop:=
 match k with
 | .i64=>-9223372036854775808<=e/\e<=9223372036854775807
 | k=>k.wrap e=e
theorem aC.wrap{e:Int}(h:aC k e):k.wrap e=e:=by
 cases k<;>first | exact h | (simp only[aC]at h;rw[IntKind.wrap_i64];omega)
def arith(k:IntKind)(e:Int)(ans:List b6):kH:=
 match ans with
 | .wr::r=>some (.one (.v (.int k (k.wrap e))),r,[])
 | _=>some (.one (.v (.int k e)),ans,[aC k e])
variable{ans cj:List b6}{obs:List Prop}
theorem zk{e:Int}(h:arith k e ans=some (p,cj,obs))(aN:c8 obs):cP (Sat w ω τ) p (.int k (k.wrap e)):=by
 unfold arith at h;split at h
 ·simp only[aO,bx]at h;obtain⟨rfl,_,_⟩:=h;exact rfl
 simp only[aO,bx]at h;obtain⟨rfl,_,rfl⟩:=h;rw[aN.1.wrap];exact rfl
def mZ(P:Program)(op:BinOp)(t:TypeId)(x y:Operand)(u v c:Value):Prop:=
 ∀w:World,((do eqGuard op t x y u v;binOp op t u v:Sem Value)).run P w=.ok c w
def Kj(op:BinOp)(k:IntKind)(x y:Int)(ans:List b6):kH:=
 match op with
 | .add=>arith k (x+y) ans
 | .sub=>arith k (x-y) ans
 | .mul=>arith k (x*y) ans
 | .quo=>(arith k (x.tdiv y) ans).map fun r=>(r.1,r.2.1,(y≠0)::r.2.2)
 | .rem=>some (.one (.v (.int k (x.tmod y))),ans,[y≠0])
 | .eql=>some (.one (.cg (x==y)),ans,[])
 | .neq=>some (.one (.cg (x != y)),ans,[])
 | .lss=>some (.one (.cg (decide (x<y))),ans,[])
 | .leq=>some (.one (.cg (decide (x<=y))),ans,[])
 | .gtr=>some (.one (.cg (decide (x>y))),ans,[])
 | .geq=>some (.one (.cg (decide (x>=y))),ans,[])
 | _=>none
variable{P:Program}{op:BinOp}
theorem anW{x y:Int}(t:TypeId)(aa7 aa8:Operand)
  (h:Kj op k x y ans=some (p,cj,obs)) (aN:c8 obs):
  ∃v,((do eqGuard op t aa7 aa8 (.int k x) (.int k y);binOp op t (.int k x) (.int k y):Sem Value)).run P w=.ok v w/\cP (Sat w ω τ) p v:=by
 rw[eqGuard_at_int];simp only[Sem.run_bind,Sem.run_pure,Result.andThen_ok];cases op<;>simp only[Kj,aO,bx,reduceCtorEq]at h
 case add=>exact⟨_,by rw[binOp_add];rfl,zk h aN⟩
 case sub=>exact⟨_,by rw[binOp_sub];rfl,zk h aN⟩
 case mul=>exact⟨_,by rw[binOp_mul];rfl,zk h aN⟩
 case quo=>
  rw[b2]at h;obtain⟨⟨ri,cF,p7⟩,h1,U⟩:=h;simp only[bx]at U;obtain⟨rfl,rfl,rfl⟩:=U;refine⟨_,?_,zk h1 aN.2⟩;rw[binOp_quo];simp[Op.intDiv,aN.1]
 case rem=>
  obtain⟨rfl,_,rfl⟩:=h;refine⟨_,?_,rfl⟩;rw[binOp_rem];simp[Op.intDiv,aN.1]
 case eql=>obtain⟨rfl,_,rfl⟩:=h;exact⟨_,by rw[binOp_eql];rfl,rfl⟩
 case neq=>obtain⟨rfl,_,rfl⟩:=h;exact⟨_,by rw[binOp_neq];rfl,rfl⟩
 case lss=>obtain⟨rfl,_,rfl⟩:=h;exact⟨_,by rw[binOp_lss];rfl,rfl⟩
 case leq=>obtain⟨rfl,_,rfl⟩:=h;exact⟨_,by rw[binOp_leq];rfl,rfl⟩
 case gtr=>obtain⟨rfl,_,rfl⟩:=h;exact⟨_,by rw[binOp_gtr];rfl,rfl⟩
 case geq=>obtain⟨rfl,_,rfl⟩:=h;exact⟨_,by rw[binOp_geq];rfl,rfl⟩
def aI.value(p:aI):Option Value:=
 match p with
 | .bd (.one l)=>l.val
 | p=>p.vals.map fun xs=>.agg xs.toArray
theorem aI.Ai{x:Value}(h:p.value=some x)(ai:cP (Sat w ω τ) p y):y=x:=by
 unfold aI.value at h;split at h
 ·exact aD.Wh h ai
 rw[b2]at h;obtain⟨xs,h1,rfl⟩:=h;exact aI.avw h1 ai
def xw(P:Program)(t:TypeId):Option Bool:=
 match P.underlying t with
 | some (.struct _) | some (.array _ _)=>some true
 | some _=>some false
 | none=>none
variable{t:TypeId}
theorem zl{b:Bool}(h:xw P t=some b)(w:World):(isAgg t).run P w=.ok b w:=by
 unfold xw at h;unfold isAgg;split at h
 ·rename_i hu;simp only[aO]at h;subst h;simp[run_underlying hu]
 ·rename_i hu;simp only[aO]at h;subst h;simp[run_underlying hu]
 ·rename_i d h1 U hu;simp only[aO]at h;subst h;rw[Sem.run_bind,run_underlying hu];cases d<;>first | rfl | (exact absurd rfl (h1 _)) | (exact absurd rfl (U _ _))
 cases h
def EF(P:Program)(t:TypeId)(cs:Array Value)(off:Nat):Option Value:=
 match xw P t,P.info? t with
 | some true,some i=>some (.agg (cs.extract off (off+i.size)))
 | some false,_=>cs[off]?
 | _,_=>none
variable{v:Value}
theorem QD{cs:Array Value}{off:Nat}(h:EF P t cs off=some v)(w:World):(part t cs off).run P w=.ok v w:=by
 unfold EF at h;split at h
 ·rename_i i e1 e2;simp only[aO]at h;subst h;simp[part,zl e1,sizeOf,typeInfo,e2]
 ·rename_i e1;simp[part,zl e1,h]
 cases h
def Az(P:Program)(f:TypeId->Value->Value->Option Bool)(xs ys:Array Value):List Field->Option Bool
 | []=>some true
 | fd::r=>
  if fd.name = "_" then none else
  match EF P fd.type xs fd.offset,EF P fd.type ys fd.offset with
  | some a,some b=>
   match f fd.type a b with
   | some c=>
    match r with
    | []=>some c
    | r=>(Az P f xs ys r).map fun kL=>c&&kL
   | none=>none
  | _,_=>none
def yr(P:Program):Nat->TypeId->Value->Value->Option Bool
 | 0,_,_,_=>none
 | m+1,t,x,y=>
  match P.underlying t,x,y with
  | some .bool,.bool a,.bool b=>some (a==b)
  | some (.int _),.int k a,.int cb b=>if k=cb then some (a==b) else none
  | some .string,.string a,.string b=>some (a.toList==b.toList)
  | some (.struct fg),.agg xs,.agg ys=>if P.stoodInHeld t then none else Az P (yr P m) xs ys fg.toList
  | _,_,_=>none
theorem QE{d:Nat}{f:TypeId->Value->Value->Option Bool}(bg:∀t x y c,f t x y=some c->∀w,(Op.equalIn d t x y).run P w=.ok c w){xs ys:Array Value}:
  ∀{fg:List Field} {c:Bool},Az P f xs ys fg=some c->∀w,(Op.eqFields d xs ys fg).run P w=.ok c w
 | [],c,h,w=>by simp only[Az,aO]at h;subst h;simp[Op.eqFields]
 | fd::r,c,h,w=>by
  simp only[Az]at h;split at h
  ·cases h
  rename_i aK;split at h
  ·rename_i a b e1 e2;split at h
   ·rename_i c1 cJ;simp only [Op.eqFields, aZ (show fd.name ≠ "_" from aK), Sem.run_bind, QD e1, QD e2, Result.andThen_ok, bg _ _ _ _ cJ, Sem.run_ite];split at h
    ·simp only[aO]at h;subst h;cases c1<;>simp[Op.eqFields]
    ·rw[b2]at h;obtain⟨c2,h1,rfl⟩:=h;have:=QE bg h1 w;cases c1<;>simp[this]
   cases h
  cases h
theorem QF:∀{m:Nat} {t:TypeId} {x y:Value} {c:Bool},yr P m t x y=some c->∀(d:Nat) (w:World),(Op.equalIn (d+m) t x y).run P w=.ok c w
 | 0,_,_,_,_,h,_,_=>by cases h
 | m+1,t,x,y,c,h,d,w=>by
  rw[show d+(m+1)=(d+m)+1 from rfl];simp only[yr]at h;split at h
  ·rename_i a b e;simp only[aO]at h;subst h;exact run_equalIn_bool w _ t a b e
  ·rename_i cb k a bw b e;split at h
   ·rename_i hk;subst hk;simp only[aO]at h;subst h;exact run_equalIn_int w _ t k cb a b e
   cases h
  ·rename_i a b e;simp only[aO]at h;subst h;exact run_equalIn_string w _ t a b e
  ·rename_i fg xs ys e;split at h
   ·cases h
   rename_i ai;have Pp:P.fieldsOf t=fg:=by simp[Program.fieldsOf,e]
   rw[run_equalIn_struct w _ t xs ys (by rw[Pp];exact e) (by simpa using ai),Pp];exact QE (fun t x y c h w=>QF h d w) h w
  cases h
def HW(P:Program)(op:BinOp)(t:TypeId)(u v:Value):Option Bool:=
 match op,u,v with
 | .eql,.agg xs,.agg ys=>if P.eqGuardType P.depth t then none else yr P 20 t (.agg xs) (.agg ys)
 | .neq,.agg xs,.agg ys=>if P.eqGuardType P.depth t then none else (yr P 20 t (.agg xs) (.agg ys)).map fun c=>!c
 | .eql,.bool a,.bool b=>match P.underlying t with | some .bool=>some (a==b) | _=>none
 | .neq,.bool a,.bool b=>match P.underlying t with | some .bool=>some (!(a==b)) | _=>none
 | .eql,.string a,.string b=>match P.underlying t with | some .string=>some (a.toList==b.toList) | _=>none
 | .neq,.string a,.string b=>match P.underlying t with | some .string=>some (!(a.toList==b.toList)) | _=>none
 | _,_,_=>none
theorem anX{x y:Operand}{u:Value}{c:Bool}(h:HW P op t u v=some c):mZ P op t x y u v (.bool c):=by
 intro w;have fq:∀{x y:Value} {c:Bool},yr P 20 t x y=some c->(Op.equalIn 10000 t x y).run P w=.ok c w:=fun h=>QF h 9980 w
 unfold HW at h;split at h
 ·rename_i xs ys;split at h
  ·cases h
  rename_i ar;simp[run_eqGuard_agg w .eql t x y xs ys (by simpa using ar),run_eql_struct,fq h]
 ·rename_i xs ys;split at h
  ·cases h
  rename_i ar;rw[b2]at h;obtain⟨kL,h1,rfl⟩:=h;simp[run_eqGuard_agg w .neq t x y xs ys (by simpa using ar),run_neq_struct,fq h1]
 ·rename_i a b;split at h
  ·rename_i e;simp only[aO]at h;subst h;simp[eqGuard,binOp,run_equal_bool w t a b e]
  cases h
 ·rename_i a b;split at h
  ·rename_i e;simp only[aO]at h;subst h;simp[eqGuard,binOp,run_equal_bool w t a b e]
  cases h
 ·rename_i a b;split at h
  ·simp only[aO]at h;subst h;simp[eqGuard,binOp,Op.stringOp,beq_toListBytes]
  cases h
 ·rename_i a b;split at h
  ·simp only[aO]at h;subst h;simp[eqGuard,binOp,Op.stringOp,beq_toListBytes]
  cases h
 cases h
def Kk(P:Program)(op:BinOp)(t:TypeId)(x y:Operand)(p q:aI)(ans:List b6):kH:=
 match p.int,q.int with
 | some (k,a),some (cb,b)=>
  match (if k=cb then Kj op k a b ans else none) with
  | some r=>some r
  | none=>
   match ans with
   | .pq (.bd (.one (.v c)))::r=>some (.one (.v c),r,[mZ P op t x y (.int k a) (.int cb b) c])
   | _=>none
 | _,_=>
  match (match p.value,q.value with | some u,some v=>HW P op t u v | _,_=>none) with
  | some c=>some (.one (.cg c),ans,[])
  | none=>
  match p.value,q.value,ans with
  | some u,some v,.eq c::r=>some (.one (.cg c),r,[mZ P op t x y u v (.bool c)])
  | some u,some v,.pq (.bd (.one (.v c)))::r=>some (.one (.v c),r,[mZ P op t x y u v c])
  | _,_,_=>none
theorem anY{x y:Operand}{q r:aI}{u:Value}
  (hp:cP (Sat w ω τ) p u) (aA:cP (Sat w ω τ) q v) (h:Kk P op t x y p q ans=some (r,cj,obs)) (aN:c8 obs):
  ∃z,((do eqGuard op t x y u v;binOp op t u v:Sem Value)).run P w=.ok z w/\cP (Sat w ω τ) r z:=by
 unfold Kk at h;split at h
 ·rename_i k a cb b e1 e2;rw[aI.o9 e1 hp,aI.o9 e2 aA];split at h
  ·rename_i lo cJ;simp only[aO]at h;subst h;split at cJ
   ·rename_i hk;subst hk;exact anW t x y cJ aN
   cases cJ
  split at h
  ·rename_i c lo _;simp only[aO,bx]at h;obtain⟨rfl,_,rfl⟩:=h;exact⟨_,aN.1 w,rfl⟩
  cases h
 split at h
 ·rename_i c cc;simp only[aO,bx]at h;obtain⟨rfl,_,_⟩:=h;split at cc
  ·rename_i um k4 e1 e2;rw[aI.Ai e1 hp,aI.Ai e2 aA];exact⟨_,anX cc w,rfl⟩
  cases cc
 split at h
 ·rename_i um k4 c lo e1 e2;simp only[aO,bx]at h;obtain⟨rfl,_,rfl⟩:=h;rw[aI.Ai e1 hp,aI.Ai e2 aA];exact⟨_,aN.1 w,rfl⟩
 ·rename_i um k4 c lo e1 e2;simp only[aO,bx]at h;obtain⟨rfl,_,rfl⟩:=h;rw[aI.Ai e1 hp,aI.Ai e2 aA];exact⟨_,aN.1 w,rfl⟩
 cases h
end Go.Sx
namespace Go.Sx
open Go.RowKit
def Tag.GK:Tag->Tag
 | .free=>.free
 | .own t=>.ro t
 | .ro t=>.ro t
theorem Tag.Np{t:Tag}{q dB:List (Nat×Nat)}{o:c0}(h:t.R q o):t.GK.R dB o:=by
 cases t with
 | free=>exact h
 | own s=>exact .inr ⟨q,h⟩
 | ro s=>exact h
variable{τ:Nat->Nat×Value}
theorem Tag.Nq{t:Tag}{y:Nat×Value}:t.GK.eg τ y:=by cases t<;>exact trivial
def D.leaf(t:Tag):D->aD
 | .v (.bool c)=>.cg c
 | .v x=>.v x
 | .J k es=>.J t.GK k es
 | .ptr ds=>match t with | .free=>.iC ds 0 | _=>.cu
 | .cl g bm=>match t with | .free=>.fd (.cl g bm) | _=>.cu
variable{w:World}{ω:Own}
theorem D.dQ{τ:Nat->Nat×Value}{t:Tag}{p:Nat×Nat}{d:D}{u:Value}(h:bX w ω (fun q=>t.R (p::q)) d u):Sat w ω τ (d.leaf t) u:=by
 cases d with
 | v x=>
  have e:u=x:=by cases h;rfl
  subst e;unfold D.leaf;split
  ·rename_i h;cases h;exact rfl
  ·rename_i h;cases h;exact rfl
  ·rename_i h;cases h
  ·rename_i h;cases h
  rename_i h;cases h
 | J k es=>exact⟨h.frame fun b q ao aA=>⟨Tag.Np aA,rfl⟩,Tag.Nq⟩
 | ptr ds=>
  cases t with
  | free=>
   have U:bX w ω Tag.free.R (.ptr ds) u:=h;have ax:=U;cases ax with
   | ptr R ds b arr ty cR us ao ed ai hu aB=>exact⟨b,rfl,U⟩
  | own s=>exact trivial
  | ro s=>exact trivial
 | cl g bm=>
  cases t with
  | free=>exact h
  | own s=>exact trivial
  | ro s=>exact trivial
def D.Qd(t i j:Nat):D->aD
 | .J k es=>.a8 t i j k es .here
 | d=>d.leaf (.own t)
def vh(t i:Nat):Nat->List D->List aD
 | _,[]=>[]
 | j,d::ds=>d.Qd t i j::vh t i (j+1) ds
theorem QG(t i:Nat):∀(ds:List D) (j x:Nat),(vh t i j ds)[x]?=(ds[x]?).map (D.Qd t i (j+x))
 | [],_,_=>by simp[vh]
 | d::ds,j,0=>by simp[vh]
 | d::ds,j,x+1=>by
  simp only[vh,oK,QG t i ds (j+1) x];rw[show j+1+x=j+(x+1) by omega]
theorem QH(t i:Nat):∀(ds:List D) (j:Nat),(vh t i j ds).length=ds.length
 | [],_=>rfl
 | d::ds,j=>by simp[vh,QH t i ds (j+1)]
def Kl(P:Program)(s:TypeId)(f:Nat):Option Nat:=
 match P.underlying s with
 | some (.struct fg)=>
  match fg[f]? with
  | some fd=>
   match P.info? fd.type with
   | some i=>if i.size=0 then none else some fd.offset
   | none=>none
  | none=>none
 | _=>none
theorem ry(b off n:Nat):(⟨b,off,none⟩:Addr).add n=⟨b,off+n,none⟩:=by
 unfold Addr.add;split
 ·rename_i h;simp[h]
 rfl
variable{P:Program}{off:Nat}
theorem ES{s:TypeId}{f:Nat}(h:Kl P s f=some off)(w:World)(b o:Nat):
  (Instr.fieldAt s (.pointer (some ⟨b,o,none⟩)) f).run P w=.ok (.pointer (some ⟨b,o+off,none⟩)) w:=by
 unfold Kl at h;split at h
 ·rename_i fg hu;split at h
  ·rename_i fd bg;split at h
   ·rename_i i hi;split at h
    ·cases h
    rename_i aW;simp only[aO]at h;subst h;simp[Instr.fieldAt,run_underlying hu,bg,Instr.sureAddr,fieldPlace,sizeOf,typeInfo,hi,aW,ry]
   cases h
  cases h
 cases h
def Km(P:Program)(s:TypeId)(p:aI)(f:Nat)(ans:List b6):kH:=
 match Kl P s f,p.leaf with
 | some off,some (.ptr id o)=>some (.one (.ptr id (o+off)),ans,[])
 | some off,some (.ep t k es i j)=>some (.one (.ep t k es i (j+off)),ans,[])
 | some off,some (.iC ds o)=>some (.one (.iC ds (o+off)),ans,[])
 | some off,some (.a8 t i j k es (.at_ x y))=>some (.one (.a8 t i j k es (.at_ x (y+off))),ans,[])
 | _,_=>none
variable{p r:aI}{v:Value}{ans cj:List b6}{obs:List Prop}
theorem anZ{s:TypeId}{f:Nat}
  (hp:cP (Sat w ω τ) p v) (h:Km P s p f ans=some (r,cj,obs)):
  ∃z,(Instr.fieldAt s v f).run P w=.ok z w/\cP (Sat w ω τ) r z:=by
 unfold Km at h;split at h
 ·rename_i off id o e1 e2;simp only[aO,bx]at h;obtain⟨rfl,_,rfl⟩:=h;obtain⟨b,ao,rfl⟩:=aI.dQ e2 hp;exact⟨_,ES e1 w b o,b,ao,rfl⟩
 ·rename_i off t k es i j e1 e2;simp only[aO,bx]at h;obtain⟨rfl,_,rfl⟩:=h;obtain⟨b,o,cap,rfl,hi,az,bC⟩:=aI.dQ e2 hp;exact⟨_,ES e1 w b _,b,o,cap,by rw[ye],hi,az,bC⟩
 ·rename_i off ds o e1 e2;simp only[aO,bx]at h;obtain⟨rfl,_,rfl⟩:=h;obtain⟨b,rfl,az⟩:=aI.dQ e2 hp;exact⟨_,ES e1 w b o,b,rfl,az⟩
 ·rename_i off t i j k es x y e1 e2;simp only[aO,bx]at h;obtain⟨rfl,_,rfl⟩:=h;obtain⟨u,⟨b,o,cap,rfl,rfl,aa⟩,az,hm⟩:=aI.dQ e2 hp;exact⟨_,ES e1 w b _,_,⟨b,o,cap,rfl,by rw[ye],aa⟩,az,fun _=>hm rfl⟩
 cases h
def rz(P:Program)(t:TypeId):Option (TypeId×Nat):=
 match P.underlying t with
 | some (.slice e)=>(P.info? e).map fun i=>(e,i.size)
 | _=>none
variable{t:TypeId}
theorem w5{e:TypeId}{k:Nat}(h:rz P t=some (e,k)):P.underlying t=some (.slice e)/\∃i,P.info? e=some i/\i.size=k:=by
 unfold rz at h;split at h
 ·rename_i e' hu;rw[b2]at h;obtain⟨i,hi,h⟩:=h;simp only[bx]at h;obtain⟨rfl,rfl⟩:=h;exact⟨hu,i,hi,rfl⟩
 cases h
def aD.flat:aD->aD
 | .gb _ k es=>.J .free k es
 | l=>l
def aI.lI(p:aI):Option aD:=p.leaf.map aD.flat
variable{y:Value}{l:aD}
theorem aI.wN(h:p.lI=some l)(ai:cP (Sat w ω τ) p y):Sat w ω τ l y:=by
 unfold aI.lI at h;rw[b2]at h;obtain⟨fS,bl,rfl⟩:=h;have:=aI.dQ bl ai;unfold aD.flat;split
 ·exact⟨this.1,ae⟩
 exact this
def Kn(P:Program)(t:TypeId)(p q:aI)(ans:List b6):kH:=
 match rz P t,p.lI,q.int with
 | some (_,k),some (.J tag cb es),some (_,n)=>if k=cb then some (.one (.ep tag cb es n.toNat 0),ans,[0<=n,n<(es.length:Int)]) else none
 | some (_,k),some (.a8 s i j cb es .here),some (_,n)=>if k=cb then some (.one (.a8 s i j cb es (.at_ n.toNat 0)),ans,[0<=n,n<(es.length:Int)]) else none
 | _,_,_=>none
theorem an0{q:aI}{u:Value}
  (hp:cP (Sat w ω τ) p u) (aA:cP (Sat w ω τ) q v) (h:Kn P t p q ans=some (r,cj,obs)) (aN:c8 obs):
  ∃z,(Instr.indexAt t u v).run P w=.ok z w/\cP (Sat w ω τ) r z:=by
 unfold Kn at h;split at h
 ·rename_i e k tag cb es Bn n e1 e2 cJ;split at h
  ·rename_i hk;subst hk;simp only[aO,bx]at h;obtain⟨rfl,_,rfl⟩:=h;obtain⟨hu,i,hi,aW⟩:=w5 e1;obtain⟨az,bC⟩:=aI.wN e2 hp;rw[aI.o9 cJ aA];have bl:0<=n:=aN.1;have h1:n<(es.length:Int):=aN.2.1;cases az with
   | nil=>simp at h1;omega
   | row R k es b off cap arr ty cR us ao ed af ai hk ks aB=>
    refine⟨.pointer (some ⟨b,off+n.toNat*k+0,none⟩),?_,b,off,cap,rfl,by omega,.row _ k es b off cap arr ty cR us ao ed af ai hk ks aB,bC⟩;simp[Instr.indexAt,run_underlying hu,asIntOf,bl,h1,sizeOf,typeInfo,hi,aW,ry]
  cases h
 ·rename_i e k s CQ CR cb es Bn n e1 e2 cJ;split at h
  ·rename_i hk;subst hk;simp only[aO,bx]at h;obtain⟨rfl,_,rfl⟩:=h;obtain⟨hu,i,hi,aW⟩:=w5 e1;obtain⟨fv,rfl,az,hm⟩:=aI.wN e2 hp;rw[aI.o9 cJ aA];have bl:0<=n:=aN.1;have h1:n<(es.length:Int):=aN.2.1;cases az with
   | nil=>simp at h1;omega
   | row R k es b off cap arr ty cR us ao ed af ai hk ks aB=>
    refine⟨.pointer (some ⟨b,off+n.toNat*k+0,none⟩),?_,_,⟨b,off,cap,rfl,rfl,by omega⟩,.row _ k es b off cap arr ty cR us ao ed af ai hk ks aB,hm⟩;simp[Instr.indexAt,run_underlying hu,asIntOf,bl,h1,sizeOf,typeInfo,hi,aW,ry]
  cases h
 cases h
theorem an1{P:Program}{b n:Nat}{arr:Array Value}{ty:TypeId}{cR:Nat×Nat}(ao:w.heap[b]?=some (.cells arr ty cR))(aK:off+n<=arr.size):
  (loadCells ⟨b,off,none⟩ n).run P w=.ok (arr.extract off (off+n)) w:=by
 have aj:((arr.extract off (off+n)).toList).length=n:=by simp;omega
 have:=run_loadCells_list (P:=P) w ⟨b,off,none⟩ (arr.extract off (off+n)).toList (fun j v bz=>by
  rw[ry,cell_of_row w b (off+j) arr ty cR ao];rw[iX,Array.getElem?_extract]at bz;split at bz
  ·exact bz
  cases bz)
 rw[aj,Array.toArray_toList]at this;exact this
def sk(agg:Bool)(n:Nat)(ls:List aD)(off:Nat):Option aI:=
 if agg then (if off+n<=ls.length then some (.agg ((ls.drop off).take n)) else none)
 else (ls[off]?).map fun l=>.one l
theorem zm{P:Program}{ω:Own}{τ:Nat->Nat×Value}{agg:Bool}{i:TypeInfo}{ls:List aD}(ad:xw P t=some agg)(hi:P.info? t=some i)
  (h:sk agg i.size ls off=some p) {b base:Nat} {arr:Array Value} {ty:TypeId} {cR:Nat×Nat} (ao:w.heap[b]?=some (.cells arr ty cR)) (c7:base+ls.length<=arr.size)
  (ai:∀(j:Nat) (l:aD),ls[j]?=some l->∃u,arr[base+j]?=some u/\Sat w ω τ l u):
  ∃z,(loadVar t ⟨b,base+off,none⟩).run P w=.ok z w/\cP (Sat w ω τ) p z:=by
 unfold sk at h;cases agg with
 | true=>
  simp only[fL]at h;split at h
  ·rename_i hle;simp only[aO]at h;subst h;refine⟨.agg (arr.extract (base+off) (base+off+i.size)),?_,?_⟩
   ·simp[loadVar,zl ad,sizeOf,typeInfo,hi,an1 (P:=P) ao (show base+off+i.size<=arr.size by omega)]
   refine⟨_,rfl,by simp;omega,fun j l aj=>?_⟩;rw[hj]at aj;split at aj
   ·rw[gU]at aj;obtain⟨u,h1,U⟩:=ai _ l aj;refine⟨u,?_,U⟩;rw[Array.getElem?_extract,aZ (by omega),<-h1]
    congr 1
    omega
   cases aj
  cases h
 | false=>
  simp only[ng,k9,b2]at h;obtain⟨l,aj,rfl⟩:=h;obtain⟨u,h1,U⟩:=ai _ l aj;refine⟨u,?_,U⟩;simp[loadVar,zl ad,cell_of_row w b (base+off) arr ty cR ao,h1]
def ET(P:Program)(st:aG)(t:TypeId)(p:aI)(ans:List b6):kH:=
 match xw P t,P.info? t,p.leaf with
 | some agg,some i,some (.ptr id off)=>
  match dE id st.boxes with
  | some ls=>(sk agg i.size ls off).map fun r=>(r,ans,[])
  | none=>none
 | some agg,some i,some (.ep tag k es x j)=>
  match ans with
  | .el ds::r=>if ds.length=k then (sk agg i.size (ds.map (D.leaf tag)) j).map fun v=>(v,r,[es[x]?=some ds]) else none
  | .sub::.el ds::r=>
   match tag with
   | .own t=>if ds.length=k then (sk agg i.size (vh t x 0 ds) j).map fun v=>(v,r,[es[x]?=some ds]) else none
   | _=>none
  | _=>none
 | some agg,some i,some (.iC ds off)=>(sk agg i.size (ds.map (D.leaf .free)) off).map fun r=>(r,ans,[])
 | some agg,some i,some (.a8 s _ _ k es (.at_ x y))=>
  match ans with
  | .el ds::r=>if ds.length=k then (sk agg i.size (ds.map (D.leaf (.ro s))) y).map fun v=>(v,r,[es[x]?=some ds]) else none
  | _=>none
 | _,_,_=>none
variable{w0:eN}{a:Act}{st:aG}
theorem an2
  (aT:cE w0 st a w ω τ) (hp:cP (Sat w ω τ) p v) (h:ET P st t p ans=some (r,cj,obs)) (aN:c8 obs):
  ∃z,(Instr.loadAt t v).run P w=.ok z w/\cP (Sat w ω τ) r z:=by
 unfold ET at h;split at h
 ·rename_i agg i id off e1 e2 cJ;split at h
  ·rename_i ls cv;rw[b2]at h;obtain⟨lo,h1,h⟩:=h;simp only[bx]at h;obtain⟨rfl,rfl,rfl⟩:=h;obtain⟨b,ao,rfl⟩:=aI.dQ cJ hp;obtain⟨c3,arr,ty,di,Bc,IG,c7,eV⟩:=aT.boxes id ls cv;have:=Bc b ao;subst this;have:=zm (P:=P) e1 e2 h1 IG (base:=0) (by omega) (fun j l aj=>by simpa using eV j l aj);simpa[Instr.loadAt,Instr.sureAddr]using this
  cases h
 ·rename_i agg i tag k es x j e1 e2 cJ;split at h
  ·rename_i ds h5;split at h
   ·rename_i hlen;rw[b2]at h;obtain⟨lo,h1,h⟩:=h;simp only[bx]at h;obtain⟨rfl,rfl,rfl⟩:=h;have eI:es[x]?=some ds:=aN.1;obtain⟨b,off,cap,rfl,hi,az,bC⟩:=aI.dQ cJ hp;cases az with
    | nil=>simp at hi
    | row R k es b off cap arr ty cR us ao ed af ai hk hu aB=>
     have Px:x*k+k<=cap*k:=by
      have:(x+1)*k<=cap*k:=hR k (by omega);rw[fX]at this;omega
     have:=zm (P:=P) (τ:=τ) (ω:=ω) e1 e2 h1 ao (base:=off+x*k) (by simp[hlen];omega) (fun jH l aj=>by
      rw[dG,b2]at aj;obtain⟨d,U,rfl⟩:=aj;have af:c5 es x jH=some d:=by simp[c5,eI,U]
      exact⟨us x jH,hu x jH d af,D.dQ (aB x jH d af)⟩)
     simpa[Instr.loadAt,Instr.sureAddr]using this
   cases h
  ·rename_i ds h5;split at h
   ·rename_i t;split at h
    ·rename_i hlen;rw[b2]at h;obtain⟨lo,h1,h⟩:=h;simp only[bx]at h;obtain⟨rfl,rfl,rfl⟩:=h;have eI:es[x]?=some ds:=aN.1;obtain⟨b,off,cap,rfl,hi,az,bC⟩:=aI.dQ cJ hp;cases az with
     | nil=>simp at hi
     | row R k es b off cap arr ty cR us ao ed af ai hk hu aB=>
      have Px:x*k+k<=cap*k:=by
       have:(x+1)*k<=cap*k:=hR k (by omega);rw[fX]at this;omega
      have:=zm (P:=P) (τ:=τ) (ω:=ω) e1 e2 h1 ao (base:=off+x*k) (by simp[QH,hlen];omega) (fun jH l aj=>by
       rw[QG,b2]at aj;obtain⟨d,U,rfl⟩:=aj;rw[dq];have af:c5 es x jH=some d:=by simp[c5,eI,U]
       have r3:=aB x jH d af;refine⟨us x jH,hu x jH d af,?_⟩;cases d with
       | J bw bR=>exact⟨_,rfl,r3,fun _=>⟨k,b,off,es.length,cap,arr,ty,cR,bC,ed,ao,hu x jH _ af⟩⟩
       | v z=>exact D.dQ (t:=.own t) (p:=(x,jH)) r3
       | ptr ds=>exact D.dQ (t:=.own t) (p:=(x,jH)) r3
       | cl g cs=>exact D.dQ (t:=.own t) (p:=(x,jH)) r3)
      simpa[Instr.loadAt,Instr.sureAddr]using this
    cases h
   cases h
  cases h
 ·rename_i agg i ds off e1 e2 cJ;rw[b2]at h;obtain⟨lo,h1,h⟩:=h;simp only[bx]at h;obtain⟨rfl,rfl,rfl⟩:=h;obtain⟨b,rfl,az⟩:=aI.dQ cJ hp;have ek:bX w ω Tag.free.R (.ptr ds) (.pointer (some ⟨b,0,none⟩)):=az;cases ek with
  | ptr R ds b arr ty cR us ao ed ai hu aB=>
   have:=zm (P:=P) (τ:=τ) (ω:=ω) e1 e2 h1 ao (base:=0) (by simp;omega) (fun jH l aj=>by
    rw[dG,b2]at aj;obtain⟨d,U,rfl⟩:=aj;exact⟨us jH,by simpa using hu jH d U,D.dQ (p:=(0,jH)) (aB jH d U)⟩)
   simpa[Instr.loadAt,Instr.sureAddr]using this
 ·rename_i agg i s CQ CR k es x y e1 e2 cJ;split at h
  ·rename_i ds h5;split at h
   ·rename_i hlen;rw[b2]at h;obtain⟨lo,h1,h⟩:=h;simp only[bx]at h;obtain⟨rfl,rfl,rfl⟩:=h;have eI:es[x]?=some ds:=aN.1;obtain⟨fv,⟨b,off,cap,rfl,rfl,hi⟩,az,hm⟩:=aI.dQ cJ hp;cases az with
    | nil=>simp at hi
    | row R k es b off cap arr ty cR us ao ed af ai hk hu aB=>
     have Px:x*k+k<=cap*k:=by
      have:(x+1)*k<=cap*k:=hR k (by omega);rw[fX]at this;omega
     have:=zm (P:=P) (τ:=τ) (ω:=ω) e1 e2 h1 ao (base:=off+x*k) (by simp[hlen];omega) (fun jH l aj=>by
      rw[dG,b2]at aj;obtain⟨d,U,rfl⟩:=aj;have af:c5 es x jH=some d:=by simp[c5,eI,U]
      refine⟨us x jH,hu x jH d af,D.dQ (t:=.ro s) (p:=(x,jH)) ((aB x jH d af).frame fun b q _ aA=>⟨.inr ⟨_,aA⟩,rfl⟩)⟩)
     simpa[Instr.loadAt,Instr.sureAddr]using this
   cases h
  cases h
 cases h
def Ko(P:Program)(t:TypeId)(p:aI)(ans:List b6):kH:=
 match P.underlying t,p.lI with
 | some (.slice _),some (.J _ _ es)=>some (.one (.v (.int .i64 es.length)),ans,[])
 | some (.slice _),some (.v (.slice _ n _))=>some (.one (.v (.int .i64 n)),ans,[])
 | some (.slice _),some (.a8 _ _ _ _ es .here)=>some (.one (.v (.int .i64 es.length)),ans,[])
 | some (.slice _),some (.a8 _ _ _ _ es .mD)=>some (.one (.v (.int .i64 es.length)),ans,[])
 | some .string,some (.v (.string s))=>some (.one (.v (.int .i64 s.size)),ans,[])
 | _,_=>none
theorem bX.len{R:List (Nat×Nat)->c0->Prop}{k:Nat}{es:List (List D)}(h:bX w ω R (.J k es) y):∃b c,y=.slice b es.length c:=by
 cases h with
 | nil=>exact⟨_,_,rfl⟩
 | row R k es b off cap arr ty cR us ao ed af ai hk hu aB=>exact⟨_,_,rfl⟩
theorem anu{ty:TypeId}
  (hp:cP (Sat w ω τ) p v) (h:Ko P t p ans=some (r,cj,obs)):
  ∃z,(Builtin.len_ #[t] ty #[v]).run P w=.ok z w/\cP (Sat w ω τ) r z:=by
 unfold Ko at h;split at h
 ·rename_i e GU k es e1 e2;simp only[aO,bx]at h;obtain⟨rfl,_,rfl⟩:=h;obtain⟨az,_⟩:=aI.wN e2 hp;obtain⟨b,c,rfl⟩:=az.len;exact⟨_,by simp[Builtin.len_,run_underlying e1];rfl,rfl⟩
 ·rename_i e b n c e1 e2;simp only[aO,bx]at h;obtain⟨rfl,_,rfl⟩:=h;have:v=.slice b n c:=aI.wN e2 hp;subst this;exact⟨_,by simp[Builtin.len_,run_underlying e1];rfl,rfl⟩
 ·rename_i e s CQ CR k es e1 e2;simp only[aO,bx]at h;obtain⟨rfl,_,rfl⟩:=h;obtain⟨fv,rfl,az,_⟩:=aI.wN e2 hp;obtain⟨b,c,rfl⟩:=az.len;exact⟨_,by simp[Builtin.len_,run_underlying e1];rfl,rfl⟩
 ·rename_i e s CQ CR k es e1 e2;simp only[aO,bx]at h;obtain⟨rfl,_,rfl⟩:=h;obtain⟨fv,rfl,az,_⟩:=aI.wN e2 hp;obtain⟨b,c,rfl⟩:=az.len;exact⟨_,by simp[Builtin.len_,run_underlying e1];rfl,rfl⟩
 ·rename_i s e1 e2;simp only[aO,bx]at h;obtain⟨rfl,_,rfl⟩:=h;have:v=.string s:=aI.wN e2 hp;subst this;exact⟨_,by simp[Builtin.len_,run_underlying e1];rfl,rfl⟩
 cases h
theorem QI{es:List (List D)}{l n i j:Nat}{d:D}(h:c5 ((es.drop l).take n) i j=some d):i<n/\c5 es (l+i) j=some d:=by
 unfold c5 at h ⊢;rw[hj]at h;split at h
 ·rw[gU]at h;exact⟨by omega,h⟩
 simp at h
theorem bX.sub{R i':List (Nat×Nat)->c0->Prop}{k:Nat}{es:List (List D)}{b cap:Nat}(h:bX w ω R (.J k es) (.slice (some ⟨b,off,none⟩) es.length cap))
  {l m:Nat} (aj:l<=m) (hm:m<=es.length) (D1:∀o,R [] o->i' [] o) (YF:∀i j q o,l<=i->R ((i,j)::q) o->i' ((i-l,j)::q) o):
  bX w ω i' (.J k ((es.drop l).take (m-l))) (sliced (some ⟨b,off,none⟩) l m cap k):=by
 cases h with
 | nil=>
  have e1:l=0:=by simp at hm;omega
  have e2:m=0:=by simp at hm;omega
  subst e1 e2;simpa[sliced]using bX.nil i' k _
 | row R k es b off cap arr ty cR us ao ed af ai hk hu aB=>
  have hlen:((es.drop l).take (m-l)).length=m-l:=by simp;omega
  have hmul:l*k+(cap-l)*k=cap*k:=by rw[<-fX];congr 1;omega
  have key:∀p7:Nat,(cap=l\/p7=off+l*k)->p7+(cap-l)*k<=arr.size->
    bX w ω i' (.J k ((es.drop l).take (m-l))) (.slice (some ⟨b,p7,none⟩) (m-l) (cap-l)):=by
   intro p7 aN c7;have aW:cap=l->m-l=0:=fun e=>by omega
   have az:=bX.row (w:=w) (ω:=ω) i' k ((es.drop l).take (m-l)) b p7 (cap-l) arr ty cR (fun i j=>us (l+i) j) ao (D1 _ ed) (by omega) c7
    (fun e he=>hk e (ur (rN he)))
    (fun i j d wv=>by
     obtain⟨hi,It⟩:=QI wv;rcases aN with aN | rfl
     ·have:=aW aN;omega
     rw[<-hu (l+i) j d It]
     congr 1
     rw[fX];omega)
    (fun i j d wv=>by
     obtain⟨hi,It⟩:=QI wv;refine (aB (l+i) j d It).frame fun b q _ aA=>⟨?_,rfl⟩
     have:=YF _ _ _ _ (Nat.le_add_right l i) aA;rwa[show l+i-l=i by omega]at this)
   rw[hlen]at az;exact az
  unfold sliced;split
  ·rename_i qU;exact key off (.inl qU) (by have:cap-l=0:=(by omega);rw[this];simp;omega)
  simp only[n0,ry];exact key _ (.inr rfl) (by omega)
def aD.view:aD->aD
 | .a8 t _ _ k es .here=>.J (.ro t) k es
 | .a8 t _ _ k es .mD=>.J (.ro t) k es
 | .gb _ k es=>.J .free k es
 | l=>l
theorem aD.Ns(ai:Sat w ω τ l y):Sat w ω τ l.view y:=by
 unfold aD.view;split
 ·obtain⟨fv,rfl,az,_⟩:=ai;exact⟨az.frame fun b q _ aA=>⟨.inr ⟨_,aA⟩,rfl⟩,ae⟩
 ·obtain⟨fv,rfl,az,_⟩:=ai;exact⟨az.frame fun b q _ aA=>⟨.inr ⟨_,aA⟩,rfl⟩,ae⟩
 ·exact⟨ai.1,ae⟩
 exact ai
theorem aI.Ns(h:p.leaf.map aD.view=some l)(ai:cP (Sat w ω τ) p y):Sat w ω τ l y:=by
 rw[b2]at h;obtain⟨fS,bl,rfl⟩:=h;exact aD.Ns (aI.dQ bl ai)
def mS(st:aG):Option Operand->Option (Option Int)
 | none=>some none
 | some x=>((st.bj x).int).map fun p=>some p.2
def EU(P:Program)(st:aG)(t:TypeId)(p:aI)(cW hi jI:Option Operand)(ans:List b6):kH:=
 match rz P t,p.leaf.map aD.view,jI with
 | some (_,k),some (.J tag cb es),none=>
  if k=cb then
   match mS st cW,mS st hi with
   | some l,some h=>some (.one (.J tag.GK k ((es.drop (l.getD 0).toNat).take ((h.getD es.length).toNat-(l.getD 0).toNat))),ans,[0<=l.getD 0,l.getD 0<=h.getD es.length,h.getD es.length<=es.length])
   | _,_=>none
  else none
 | _,_,_=>none
theorem B7{len cap:Nat}{cW hi:Option Value}{l h:Int}(aj:cW=none/\l=0\/∃k,cW=some (.int k l))(bC:hi=none/\h=len\/∃k,hi=some (.int k h))
  (bl:0<=l) (h1:l<=h) (U:h<=cap):(Instr.sliceBounds true len cap cW hi none).run P w=.ok (l.toNat,h.toNat,cap) w:=by
 have awk:(h.toNat:Int)=h:=Int.toNat_of_nonneg (by omega);have ax:0<=h:=by omega
 rcases aj with⟨rfl,rfl⟩ | ⟨k,rfl⟩<;>rcases bC with⟨rfl,rfl⟩ | ⟨cb,rfl⟩<;>
  simp_all[Instr.sliceBounds,run_sliceBound]
theorem B8(aT:cE w0 st a w ω τ){x:Option Operand}{r:Option Int}(h:mS st x=some r):
  (x.map a.eval=none/\r=none)\/∃k n,x.map a.eval=some (.int k n)/\r=some n:=by
 cases x with
 | none=>simp[mS]at h;exact .inl ⟨rfl,h.symm⟩
 | some x=>
  simp only[mS,b2]at h;obtain⟨⟨k,n⟩,h1,U⟩:=h;exact .inr ⟨k,n,by simp[aI.o9 h1 (aT.bj x)],U.symm⟩
theorem anv{cW hi jI:Option Operand}
  (aT:cE w0 st a w ω τ) (hp:cP (Sat w ω τ) p v) (h:EU P st t p cW hi jI ans=some (r,cj,obs)) (aN:c8 obs):
  ∃z,(Instr.sliceAt t v (cW.map a.eval) (hi.map a.eval) (jI.map a.eval)).run P w=.ok z w/\cP (Sat w ω τ) r z:=by
 unfold EU at h;split at h
 ·rename_i e k tag cb es e1 e2;split at h
  ·rename_i hk;subst hk;split at h
   ·rename_i l bC cJ e4;simp only[aO,bx]at h;obtain⟨rfl,_,rfl⟩:=h;obtain⟨hu,i,lV,aW⟩:=w5 e1;obtain⟨az,_⟩:=aI.Ns e2 hp;obtain⟨dR,dH,gF,_⟩:=aN;have ax:=B8 aT cJ;have aF:=B8 aT e4;have lW:(cW.map a.eval=none/\l.getD 0=0)\/∃k,cW.map a.eval=some (.int k (l.getD 0)):=by
     rcases ax with⟨h,rfl⟩ | ⟨k,n,h,rfl⟩
     ·exact .inl ⟨h,rfl⟩
     exact .inr ⟨k,h⟩
    have r7:(hi.map a.eval=none/\bC.getD es.length=es.length)\/∃k,hi.map a.eval=some (.int k (bC.getD es.length)):=by
     rcases aF with⟨h,rfl⟩ | ⟨k,n,h,rfl⟩
     ·exact .inl ⟨h,rfl⟩
     exact .inr ⟨k,h⟩
    cases az with
    | nil _ _ a0=>
     simp only[bY] at*;have cc:l.getD 0=0:=by omega
     have HR:bC.getD ((0:Nat):Int)=0:=by omega
     refine⟨.slice a0 0 0,?_,?_⟩
     ·simp only[Instr.sliceAt,Sem.run_bind,run_underlying hu,Result.andThen_ok,Instr.slice,Option.map_none];rw[B7 lW r7 dR dH gF];have HS:bC.getD 0=0:=by simpa using HR
      simp[sizeOf,typeInfo,lV,cc,HS]
     refine⟨?_,Tag.Nq⟩;simp only[List.drop_nil,List.take_nil];exact .nil _ _ _
    | row R k es b off cap arr ty cR us ao ed af ai hk ks aB=>
     refine⟨sliced (some ⟨b,off,none⟩) (l.getD 0).toNat (bC.getD es.length).toNat cap k,?_,?_,Tag.Nq⟩
     ·simp only[Instr.sliceAt,Sem.run_bind,run_underlying hu,Result.andThen_ok,Instr.slice,Option.map_none];rw[B7 lW r7 dR dH (by omega)];simp[sizeOf,typeInfo,lV,aW,sliced]
     exact bX.sub (.row _ k es b off cap arr ty cR us ao ed af ai hk ks aB) (by omega) (by omega) (fun o h=>Tag.Np h) (fun i j q o _ h=>Tag.Np h)
   cases h
  cases h
 cases h
end Go.Sx
namespace Go.Sx
open Go.RowKit
def aD.ok:aD->Bool
 | .cu=>false
 | .v x=>x.oneCell'
 | _=>true
variable{w:World}{ω:Own}{y:Value}
theorem bX.p9{R:List (Nat×Nat)->c0->Prop}{d:D}(h:bX w ω R d y):y.oneCell'=true:=by
 cases h with
 | v R x h1=>exact h1
 | nil=>rfl
 | row=>rfl
 | ptr=>rfl
 | cl=>rfl
variable{τ:Nat->Nat×Value}
theorem aD.Qm{l:aD}(h:l.ok=true)(ai:Sat w ω τ l y):y.oneCell'=true:=by
 cases l with
 | cu=>cases h
 | v x=>have:y=x:=ai;subst this;exact h
 | cg c=>have:y=.bool c:=ai;subst this;rfl
 | J t k es=>exact ai.1.p9
 | ptr id off=>obtain⟨b,_,rfl⟩:=ai;rfl
 | ep t k es i j=>obtain⟨b,off,cap,rfl,_⟩:=ai;rfl
 | iC ds off=>obtain⟨b,rfl,_⟩:=ai;rfl
 | fd d=>exact bX.p9 ai
 | gb t k es=>exact ai.1.p9
 | hq g ids=>obtain⟨bs,rfl,_⟩:=ai;rfl
 | a8 t i j k es m=>
  obtain⟨u,hu,az,_⟩:=ai;cases m with
  | at_ x y=>obtain⟨b,off,cap,_,rfl,_⟩:=hu;rfl
  | here=>have:y=u:=hu;subst this;exact az.p9
  | mD=>have:y=u:=hu;subst this;exact az.p9
 | fB t vs=>obtain⟨b,ty,arr,rfl,_⟩:=ai;rfl
theorem B9(h:y.oneCell'=true):y.cells=#[y]:=by
 cases y<;>first | rfl | (simp[Value.oneCell']at h)
def aI.leaves:aI->Option (List aD)
 | .bd (.one l)=>if l.ok then some [l] else none
 | .bd (.agg ls)=>if ls.all aD.ok then some ls else none
 | _=>none
variable{p:aI}{ls:List aD}
theorem aI.yZ(h:p.leaves=some ls)(ai:cP (Sat w ω τ) p y):
  lb (Sat w ω τ) ls y.cells/\∀u∈y.cells.toList,u.oneCell'=true:=by
 unfold aI.leaves at h;split at h
 ·rename_i l;split at h
  ·rename_i bD;simp only[aO]at h;subst h;have h1:=aD.Qm bD ai;rw[B9 h1];refine⟨⟨rfl,fun i g' aj=>?_⟩,by simpa using h1⟩;cases i with
   | zero=>simp at aj;subst aj;exact⟨y,rfl,ai⟩
   | succ i=>simp at aj
  cases h
 ·rename_i fr;split at h
  ·rename_i bD;simp only[aO]at h;subst h;obtain⟨vs,rfl,aK,bz⟩:=ai;refine⟨⟨aK,bz⟩,fun u hu=>?_⟩;obtain⟨i,hi⟩:=pJ.1 hu;have bu:i<fr.length:=by
    have:=(ey.1 hi).1;simp[Value.cells]at this;omega
   obtain⟨um,h1,U⟩:=bz i fr[i] (by simp);have e:u=um:=by
    have:(Value.agg vs).cells.toList[i]?=vs[i]?:=by simp[Value.cells]
    rw[this,h1]at hi;exact (eQ hi).symm
   subst e;exact aD.Qm (fW.1 bD _ (pK bu)) U
  cases h
 cases h
theorem QJ(off:Nat):∀(vs:List Value) (k:Nat) (cells:Array Value) (i:Nat),off+k+vs.length<=cells.size->
  ((vs.zipIdx k).foldl (fun cs (x:Value×Nat)=>cs.setIfInBounds (off+x.2) x.1) cells)[i]?=if off+k<=i/\i<off+k+vs.length then vs[i-(off+k)]? else cells[i]?
 | [],k,cells,i,_=>by simp;intro h1 U;omega
 | v::vs,k,cells,i,h=>by
  simp only[List.zipIdx_cons,List.foldl_cons,dJ]at h ⊢;rw[QJ off vs (k+1) _ i (by simp;omega),Array.getElem?_setIfInBounds];by_cases h1:off+k=i
  ·subst h1;rw[a6 (by omega),aZ rfl,aZ (by omega),aZ (by omega)];simp
  by_cases U:off+(k+1)<=i/\i<off+(k+1)+vs.length
  ·rw[aZ U,aZ (by omega)];obtain⟨j,aP⟩:∃j,i-(off+k)=j+1:=⟨i-(off+k)-1,by omega⟩
   rw[aP,oK]
   congr 1
   omega
  rw[a6 U,a6 h1,a6 (by omega)]
theorem QK(off:Nat):∀(l:List (Value×Nat)) (cells:Array Value),(l.foldl (fun cs (x:Value×Nat)=>cs.setIfInBounds (off+x.2) x.1) cells).size=cells.size
 | [],_=>rfl
 | x::l,cells=>by simp only[List.foldl_cons];rw[QK off l];simp
def uy(ls:List aD)(off:Nat)(xs:List aD):List aD:=ls.take off++(xs++ls.drop (off+xs.length))
variable{off:Nat}
theorem QL{xs:List aD}{i:Nat}(h:off+xs.length<=ls.length):(uy ls off xs)[i]?=if off<=i/\i<off+xs.length then xs[i-off]? else ls[i]?:=by
 unfold uy;rw[l7,qs,Nat.min_eq_left (by omega)];by_cases h1:i<off
 ·rw[aZ h1,a6 (by omega),hj,aZ h1]
 rw[a6 h1,l7];by_cases U:i-off<xs.length
 ·rw[aZ U,aZ (by omega)]
 rw[a6 U,a6 (by omega),gU]
 congr 1
 omega
theorem Kp{xs:List aD}(h:off+xs.length<=ls.length):(uy ls off xs).length=ls.length:=by
 simp[uy];omega
def rX(place:Nat->Option (Nat×Nat))(ls:List aD):List (Nat×aI)->Option (List aD)
 | []=>some ls
 | (i,p)::rest=>
  match place i,p.leaves with
  | some (off,size),some xs=>if xs.length=size/\off+size<=ls.length then rX place (uy ls off xs) rest else none
  | _,_=>none
theorem Kq{place:Nat->Option (Nat×Nat)}:∀{parts:List (Nat×aI)} {vals:List (Nat×Value)} {ls r:List aD} {cells:Array Value},
  parts.length=vals.length->(∀(j:Nat) i p,parts[j]?=some (i,p)->∃v,vals[j]?=some (i,v)/\cP (Sat w ω τ) p v)->rX place ls parts=some r->lb (Sat w ω τ) ls cells->
  ∃out,Instr.fill place cells vals=some out/\lb (Sat w ω τ) r out
 | [],vals,ls,r,cells,aK,_,h,ai=>by
  have:vals=[]:=x' (by simpa using aK.symm);subst this;simp only[rX,aO]at h;subst h;exact⟨cells,rfl,ai⟩
 | (i,p)::parts,vals,ls,r,cells,aK,hp,h,ai=>by
  obtain⟨v,bz,eV⟩:=hp 0 i p rfl;cases vals with
  | nil=>simp at bz
  | cons x vals=>
   simp only[kE,aO]at bz;subst bz;simp only[rX]at h;split at h
   ·rename_i off size xs e1 e2;split at h
    ·rename_i af;obtain⟨lS,lA⟩:=af;obtain⟨⟨c7,wL⟩,_⟩:=aI.yZ e2 eV;have yR:v.cells.size=size:=by omega
     have o1:off+v.cells.size<=cells.size:=by have:=ai.1;omega
     have gE:lb (Sat w ω τ) (uy ls off xs) (v.cells.zipIdx.foldl (fun cs (c,j)=>cs.setIfInBounds (off+j) c) cells):=by
      have e:v.cells.zipIdx.foldl (fun cs (c,j)=>cs.setIfInBounds (off+j) c) cells=(v.cells.toList.zipIdx 0).foldl (fun cs (x:Value×Nat)=>cs.setIfInBounds (off+x.2) x.1) cells:=by
       rw[<-Array.foldl_toList];simp
      rw[e];refine⟨by rw[QK,Kp (by omega)];exact ai.1,fun j l aj=>?_⟩;rw[QL (by omega)]at aj;rw[QJ off _ 0 _ _ (by simp;omega)];simp only[vX,nj];by_cases aP:off<=j/\j<off+xs.length
      ·rw[aZ aP]at aj;rw[aZ (by omega)];obtain⟨u,h1,U⟩:=wL _ _ aj;exact⟨u,by simpa using h1,U⟩
      rw[a6 aP]at aj;rw[a6 (by omega)];exact ai.2 _ _ aj
     obtain⟨out,h1,U⟩:=Kq (parts:=parts) (vals:=vals) (by simpa using aK) (fun j fA ri aP=>by have:=hp (j+1) fA ri (by simpa using aP);simpa using this) h gE;refine⟨out,?_,U⟩;simp only[Instr.fill,e1];rw[a6 (by simp;omega)];exact h1
    cases h
   cases h
def Kr(P:Program)(t:TypeId)(f:Nat):Option (Nat×Nat):=
 match P.underlying t with
 | some (.struct fg)=>
  match fg[f]? with
  | some fd=>(P.info? fd.type).map fun i=>(fd.offset,i.size)
  | none=>none
 | _=>none
def EV(P:Program)(st:aG)(t:TypeId)(parts:List (Nat×Operand))(ans:List b6):kH:=
 match P.underlying t,P.info? t with
 | some (.struct fg),some i=>
  match i.zero with
  | some z=>
   if fg.toList.all fun f=>(P.info? f.type).isSome then
    (rX (Kr P t) (z.cells.toList.map .v) (parts.map fun x=>(x.1,st.bj x.2))).map fun ls=>(.agg ls,ans,[])
   else none
  | none=>none
 | _,_=>none
theorem Qs{P:Program}(w:World):∀(fg:List Field),(∀f∈fg,(P.info? f.type).isSome=true)->
  (fg.mapM fun f=>(do pure (f.offset,<-sizeOf f.type):Sem (Nat×Nat))).run P w=.ok (fg.map fun f=>(f.offset,((P.info? f.type).map (·.size)).getD 0)) w
 | [],_=>by simp
 | f::fg,h=>by
  obtain⟨i,hi⟩:=qo.1 (h f (by simp));have dk:=Qs (P:=P) w fg (fun g ar=>h g (by simp[ar]));simp only[yb,Sem.run_bind,sizeOf,typeInfo,run_program,Result.andThen_ok,hi,Sem.run_pure,k8,n0,jx];simp only[Sem.run_bind,sizeOf,typeInfo,Sem.run_pure]at dk;rw[dk];simp
theorem EW{P:Program}{α β:Type}(f:α->Sem β)(xs:Array α)(w:World)(r:List β)(h:(xs.toList.mapM f).run P w=.ok r w):(xs.mapM f).run P w=.ok r.toArray w:=by
 rw[<-Array.toArray_toList (xs:=xs),List.mapM_toArray];rw[<-bind_pure_comp,Sem.run_bind,h];rfl
variable{P:Program}{w0:eN}{a:Act}{st:aG}{t:TypeId}{r:aI}{ans cj:List b6}{obs:List Prop}
theorem anw{parts:Array (Nat×Operand)}
  (aT:cE w0 st a w ω τ) (h:EV P st t parts.toList ans=some (r,cj,obs)):
  ∃z,(Instr.build t (parts.map fun (i,x)=>(i,a.eval x))).run P w=.ok z w/\cP (Sat w ω τ) r z:=by
 unfold EV at h;split at h
 ·rename_i fg i hu hi;split at h
  ·rename_i z aW;split at h
   ·rename_i hY;rw[b2]at h;obtain⟨ls,h1,h⟩:=h;simp only[bx]at h;obtain⟨rfl,_,_⟩:=h;have Eu:lb (Sat w ω τ) (z.cells.toList.map .v) z.cells:=by
     refine⟨by simp,fun j l aj=>?_⟩;rw[dG,b2]at aj;obtain⟨u,hu,rfl⟩:=aj;exact⟨u,by simpa using hu,rfl⟩
    obtain⟨out,U,ax⟩:=Kq (vals:=parts.toList.map fun x=>(x.1,a.eval x.2)) (by simp) (fun j fA p aP=>by
     rw[dG,b2]at aP;obtain⟨⟨i2,x⟩,aa,e⟩:=aP;simp only[bx]at e;obtain⟨rfl,rfl⟩:=e;exact⟨a.eval x,by simp only[dG,aa,n0],aT.bj x⟩) h1 Eu
    have hm:=EW (P:=P) (fun f:Field=>(do pure (f.offset,<-sizeOf f.type):Sem (Nat×Nat))) fg w _ (Qs (P:=P) w fg.toList (fun f bg=>fW.1 hY f bg));have pY:(fun x=>(fg.toList.map fun f=>(f.offset,((P.info? f.type).map (·.size)).getD 0)).toArray[x]?)=Kr P t:=by
     funext x;simp only[nY,dG,iX,Kr,hu];cases aa:fg[x]? with
     | none=>rfl
     | some fd=>
      have:(P.info? fd.type).isSome=true:=fW.1 hY fd (by simpa using Array.mem_of_getElem? aa);obtain⟨fA,lV⟩:=qo.1 this;simp[lV]
    refine⟨.agg out,?_,out,rfl,ax⟩;simp only[Instr.build,Sem.run_bind,zeroValue,typeInfo,run_program,Result.andThen_ok,hi,Sem.run_pure,aW,run_underlying hu,hm,pY];have e:(Array.map (fun (x:Nat×Operand)=>(x.1,a.eval x.2)) parts).toList=parts.toList.map fun x=>(x.1,a.eval x.2):=by simp
    simp only[e,U,Sem.run_pure]
   cases h
  cases h
 cases h
def Ks(p:aI)(lH:Nat)(ans:List b6):kH:=
 match p with
 | .gv as=>(as[lH]?).map fun a=>(.bd a,ans,[])
 | _=>none
variable{v:Value}
theorem anx{P:Program}{lH:Nat}
  (hp:cP (Sat w ω τ) p v) (h:Ks p lH ans=some (r,cj,obs)):∃z,(Instr.extract v lH).run P w=.ok z w/\cP (Sat w ω τ) r z:=by
 unfold Ks at h;split at h
 ·rename_i as;rw[b2]at h;obtain⟨bd,h1,h⟩:=h;simp only[bx]at h;obtain⟨rfl,_,_⟩:=h;obtain⟨vs,rfl,aK,bz⟩:=hp;obtain⟨u,U,ax⟩:=bz _ _ h1;exact⟨u,by simp[Instr.extract,U],ax⟩
 cases h
def Kt(P:Program)(t:TypeId)(p:aI)(f:Nat)(ans:List b6):kH:=
 match P.underlying t with
 | some (.struct fg)=>
  match fg[f]? with
  | some fd=>
   match xw P fd.type,P.info? fd.type,p with
   | some agg,some i,.bd (.agg ls)=>(sk agg i.size ls fd.offset).map fun r=>(r,ans,[])
   | _,_,_=>none
  | none=>none
 | _=>none
theorem anz{f:Nat}
  (hp:cP (Sat w ω τ) p v) (h:Kt P t p f ans=some (r,cj,obs)):∃z,(Instr.field t v f).run P w=.ok z w/\cP (Sat w ω τ) r z:=by
 unfold Kt at h;split at h
 ·rename_i fg hu;split at h
  ·rename_i fd bg;split at h
   ·rename_i agg i ls e1 e2;rw[b2]at h;obtain⟨lo,h1,h⟩:=h;simp only[bx]at h;obtain⟨rfl,_,_⟩:=h;obtain⟨vs,rfl,aK,bz⟩:=hp;unfold sk at h1;cases agg with
    | true=>
     simp only[fL]at h1;split at h1
     ·rename_i hle;simp only[aO]at h1;subst h1;refine⟨.agg (vs.extract fd.offset (fd.offset+i.size)),by simp[Instr.field,run_underlying hu,bg,asAgg,part,zl e1,sizeOf,typeInfo,e2],_,rfl,by simp;omega,fun j l aj=>?_⟩;rw[hj]at aj;split at aj
      ·rw[gU]at aj;obtain⟨u,h1,U⟩:=bz _ l aj;refine⟨u,?_,U⟩;rw[Array.getElem?_extract,aZ (by omega),<-h1]
      cases aj
     cases h1
    | false=>
     simp only[ng,k9,b2]at h1;obtain⟨l,aj,rfl⟩:=h1;obtain⟨u,h1,U⟩:=bz _ l aj;exact⟨u,by simp[Instr.field,run_underlying hu,bg,asAgg,part,zl e1,h1],U⟩
   cases h
  cases h
 cases h
def Ku(op:UnOp)(p:aI)(ans:List b6):kH:=
 match op,p.leaf with
 | .not,some (.cg c)=>some (.one (.cg (!c)),ans,[])
 | .not,some (.v (.bool c))=>some (.one (.v (.bool (!c))),ans,[])
 | .neg,some (.v (.int k n))=>arith k (0-n) ans
 | _,_=>none
theorem anA{op:UnOp}
  (hp:cP (Sat w ω τ) p v) (h:Ku op p ans=some (r,cj,obs)) (aN:c8 obs):∃z,(Op.unary op v).run P w=.ok z w/\cP (Sat w ω τ) r z:=by
 unfold Ku at h;split at h
 ·rename_i c e;simp only[aO,bx]at h;obtain⟨rfl,_,_⟩:=h;have:v=.bool c:=aI.dQ e hp;subst this;exact⟨_,rfl,rfl⟩
 ·rename_i c e;simp only[aO,bx]at h;obtain⟨rfl,_,_⟩:=h;have:v=.bool c:=aI.dQ e hp;subst this;exact⟨_,rfl,rfl⟩
 ·rename_i k n e;have:v=.int k n:=aI.dQ e hp;subst this;exact⟨_,rfl,zk h aN⟩
 cases h
def cY(c a b:aI)(ans:List b6):kH:=
 match c.leaf with
 | some (.v (.bool true))=>some (a,ans,[])
 | some (.v (.bool false))=>some (b,ans,[])
 | some (.cg c)=>
  match ans with
  | .pP true::r=>some (a,r,[c=true])
  | .pP false::r=>some (b,r,[c=false])
  | _=>none
 | _=>none
variable{u:Value}
theorem anB{c a b:aI}{x:Value}
  (af:cP (Sat w ω τ) c u) (ad:cP (Sat w ω τ) a x) (ao:cP (Sat w ω τ) b y) (h:cY c a b ans=some (r,cj,obs)) (aN:c8 obs):
  ∃z,(do pure (.value (if <-asBool u then x else y)):Sem Next).run P w=.ok (.value z) w/\cP (Sat w ω τ) r z:=by
 unfold cY at h;split at h
 ·rename_i e;simp only[aO,bx]at h;obtain⟨rfl,_,_⟩:=h;have:u=.bool true:=aI.dQ e af;subst this;exact⟨x,rfl,ad⟩
 ·rename_i e;simp only[aO,bx]at h;obtain⟨rfl,_,_⟩:=h;have:u=.bool false:=aI.dQ e af;subst this;exact⟨y,rfl,ao⟩
 ·rename_i kL e;have:u=.bool kL:=aI.dQ e af;subst this;split at h
  ·simp only[aO,bx]at h;obtain⟨rfl,_,rfl⟩:=h;have wv:kL=true:=aN.1;subst wv;exact⟨x,rfl,ad⟩
  ·simp only[aO,bx]at h;obtain⟨rfl,_,rfl⟩:=h;have wv:kL=false:=aN.1;subst wv;exact⟨y,rfl,ao⟩
  cases h
 cases h
def zn:List (List D)->Option (List Int)
 | []=>some []
 | [.v (.int .u8 n)]::r=>(zn r).map (n::·)
 | _=>none
theorem Qt:∀{es:List (List D)} {xs:List Int},zn es=some xs->xs.length=es.length/\∀i,i<xs.length->c5 es i 0=some (.v (.int .u8 (xs.getD i 0)))/\∀e,es[i]?=some e->e.length=1
 | [],xs,h=>by
  simp only[zn,aO]at h;subst h;exact⟨rfl,fun i hi=>by simp at hi⟩
 | e::r,xs,h=>by
  unfold zn at h;split at h
  ·rename_i he;cases he
  ·rename_i n lo he;obtain⟨rfl,rfl⟩:=XZ he;rw[b2]at h;obtain⟨ys,h1,rfl⟩:=h;obtain⟨U,ax⟩:=Qt h1;refine⟨by simp[U],fun i hi=>?_⟩;cases i with
   | zero=>exact⟨rfl,fun e he=>by simp at he;subst he;rfl⟩
   | succ i=>
    simp only[dJ,Nat.add_lt_add_iff_right]at hi;obtain⟨aF,aQ⟩:=ax i hi;exact⟨by simpa[c5]using aF,fun e he=>aQ e (by simpa using he)⟩
  cases h
theorem cell_of_heap{w:World}{b:Nat}{arr:Array Value}{ty:TypeId}{cR:Nat×Nat}(ao:w.heap[b]?=some (.cells arr ty cR))(h:arr[off]?=some v):w.cell? ⟨b,off,none⟩=some v:=by
 unfold World.cell?;simp[ao,h]
def aD.V9:aD->Option (List (List D))
 | .J _ 1 es=>some es
 | _=>none
def Kv(P:Program)(src dst:TypeId)(p:aI)(ans:List b6):kH:=
 match P.underlying src,P.underlying dst,p.int with
 | some _,some (.int k),some (_,n)=>arith k n ans
 | some (.slice e),some .string,none=>
  match P.underlying e,p.leaf.bind aD.V9,ans with
  | some (.int .u8),some es,.pq (.bd (.one (.v (.string s))))::r=>some (.one (.v (.string s)),r,[(zn es).map strOfNums=some s])
  | _,_,_=>none
 | _,_,_=>none
theorem anC{src dst:TypeId}
  (hp:cP (Sat w ω τ) p v) (h:Kv P src dst p ans=some (r,cj,obs)) (aN:c8 obs):∃z,(convert src dst v).run P w=.ok z w/\cP (Sat w ω τ) r z:=by
 unfold Kv at h;split at h
 ·rename_i d k Bn n e1 e2 cJ;rw[aI.o9 cJ hp];exact⟨_,by simp[convert,run_underlying e1,run_underlying e2,Conv.intToInt],zk h aN⟩
 ·rename_i e e1 e2 cJ;split at h
  ·rename_i es s lo e4 ko;simp only[aO,bx]at h;obtain⟨rfl,_,rfl⟩:=h;have lC:(zn es).map strOfNums=some s:=aN.1;rw[b2]at lC;obtain⟨xs,h1,rfl⟩:=lC;obtain⟨U,ax⟩:=Qt h1;rw[nf]at ko;obtain⟨l,oV,tc⟩:=ko;have aj:=aI.dQ oV hp;unfold aD.V9 at tc;split at tc
   ·rename_i t cB;simp only[aO]at tc;subst tc;obtain⟨az,_⟩:=aj;refine⟨.string (strOfNums xs),?_,rfl⟩;cases az with
    | nil R k a=>
     have:xs=[]:=List.length_eq_zero_iff.1 (by simpa using U);subst this;cases a with
     | none=>exact run_convert_bytes_nil w src e e1 e4 0 0 dst e2
     | some a=>
      rw[run_convert_bytes_string w src dst e _ 0 0 e1 e4 e2];exact run_bytesToString w a 0 0 [] (run_loadCells_list w a [] (fun j v aP=>by simp at aP))
    | row R k _ b off cap arr ty cR us ao ed af ai hk hu aB=>
     refine run_convert_bytes_arg w src e e1 e4 b off cB.length cap xs U (fun i hi=>?_) dst e2;obtain⟨aF,_⟩:=ax i (by omega);have aQ:=hu i 0 _ aF;have bb:=aB i 0 _ aF;generalize us i 0=u at aQ bb;cases bb;rw[Nat.mul_one,nj]at aQ;exact (cell_of_heap ao (by simpa using aQ))
   cases tc
  cases h
 cases h
def Kw(P:Program)(t:TypeId)(p q:aI)(ans:List b6):kH:=
 match P.underlying t,p.leaf,q.int with
 | some .string,some (.v (.string s)),some (_,n)=>
  match ans with
  | .num m::r=>some (.one (.v (.int .u8 m)),r,[0<=n,(s[n.toNat]?).map (fun b=>((b.toNat:Nat):Int))=some m])
  | _=>none
 | _,_,_=>none
variable{q:aI}
theorem anD
  (hp:cP (Sat w ω τ) p u) (aA:cP (Sat w ω τ) q v) (h:Kw P t p q ans=some (r,cj,obs)) (aN:c8 obs):∃z,(Instr.index t u v).run P w=.ok z w/\cP (Sat w ω τ) r z:=by
 unfold Kw at h;split at h
 ·rename_i s Bn n e1 e2 cJ;split at h
  ·rename_i m h5;simp only[aO,bx]at h;obtain⟨rfl,_,rfl⟩:=h;obtain⟨bl,h1,_⟩:=aN;have:u=.string s:=aI.dQ e2 hp;subst this;rw[aI.o9 cJ aA];rw[b2]at h1;obtain⟨b,ao,hm⟩:=h1;exact⟨.int .u8 m,by simp[Instr.index,asIntOf,run_underlying e1,bl,ao,hm],rfl⟩
  cases h
 cases h
def Kx(p q:aI)(ans:List b6):kH:=
 match p.int,q.int with
 | some (k,a),some (_,b)=>some (.one (.v (.int k (if b<a then b else a))),ans,[])
 | _,_=>none
def Ky(p q:aI)(ans:List b6):kH:=
 match p.int,q.int with
 | some (k,a),some (_,b)=>some (.one (.v (.int k (if b>a then b else a))),ans,[])
 | _,_=>none
theorem anE{P:Program}{ts:Array TypeId}{ty:TypeId}
  (hp:cP (Sat w ω τ) p u) (aA:cP (Sat w ω τ) q v) (h:Kx p q ans=some (r,cj,obs)):∃z,(Builtin.min_ ts ty #[u,v]).run P w=.ok z w/\cP (Sat w ω τ) r z:=by
 unfold Kx at h;split at h
 ·rename_i k a Bn b e1 e2;simp only[aO,bx]at h;obtain⟨rfl,_,_⟩:=h;rw[aI.o9 e1 hp,aI.o9 e2 aA];exact⟨_,by simp[Builtin.min_,Builtin.min2],rfl⟩
 cases h
theorem anF{P:Program}{ts:Array TypeId}{ty:TypeId}
  (hp:cP (Sat w ω τ) p u) (aA:cP (Sat w ω τ) q v) (h:Ky p q ans=some (r,cj,obs)):∃z,(Builtin.max_ ts ty #[u,v]).run P w=.ok z w/\cP (Sat w ω τ) r z:=by
 unfold Ky at h;split at h
 ·rename_i k a Bn b e1 e2;simp only[aO,bx]at h;obtain⟨rfl,_,_⟩:=h;rw[aI.o9 e1 hp,aI.o9 e2 aA];exact⟨_,by simp[Builtin.max_,Builtin.max2],rfl⟩
 cases h
def Qu(p:aI)(ans:List b6):kH:=
 match p.leaf with
 | some (.ptr id off)=>some (.one (.ptr id off),ans,[])
 | some (.ep t k es i j)=>some (.one (.ep t k es i j),ans,[])
 | some (.iC ds off)=>some (.one (.iC ds off),ans,[])
 | some (.a8 t i j k es (.at_ x y))=>some (.one (.a8 t i j k es (.at_ x y)),ans,[])
 | _=>none
def Qp(p:aI):Option Nat:=
 match p.leaf with
 | some (.ptr id 0)=>some id
 | _=>none
def OS(p:aI):Option D:=
 match p.leaf with
 | some (.iC ds 0)=>some (.ptr ds)
 | some (.v x)=>if x.oneCell' then some (.v x) else none
 | _=>none
def EX(st:aG)(fn:Fn)(first captured:List Operand)(ans:List b6):kH:=
 match fn,first with
 | .func g,[]=>
  match (captured.map st.bj).mapM Qp with
  | some ids=>some (.one (.hq g ids),ans,[])
  | none=>
   match (captured.map st.bj).mapM OS with
   | some ds=>some (.one (.fd (.cl g ds)),ans,[])
   | none=>none
 | _,_=>none
theorem Kz{α β:Type}{f:α->Option β}:∀{xs:List α} {ys:List β},xs.mapM f=some ys->ys.length=xs.length/\∀(i:Nat) (y:β),ys[i]?=some y->∃x,xs[i]?=some x/\f x=some y
 | [],ys,h=>by simp at h;subst h;simp
 | x::xs,ys,h=>by
  rw[yb]at h;cases e:f x with
  | none=>simp[e]at h
  | some y=>
   cases e2:xs.mapM f with
   | none=>simp[e,e2]at h
   | some zs=>
    simp[e,e2]at h;subst h;obtain⟨h1,U⟩:=Kz e2;refine⟨by simp[h1],fun i gT hi=>?_⟩;cases i with
    | zero=>simp at hi;subst hi;exact⟨x,rfl,e⟩
    | succ i=>simpa using U i gT (by simpa using hi)
theorem anG{P:Program}{fn:Fn}{first captured:Array Operand}
  (aT:cE w0 st a w ω τ) (h:EX st fn first.toList captured.toList ans=some (r,cj,obs)):
  ∃z,(Instr.makeFunc fn (first.map a.eval) (captured.map a.eval)).run P w=.ok z w/\cP (Sat w ω τ) r z:=by
 unfold EX at h;split at h
 ·rename_i g Zf;have bg:first=#[]:=by
   rcases first with⟨l⟩
   simpa using Zf
  subst bg;refine⟨.func (.func g) #[] (captured.map a.eval),by simp[Instr.makeFunc],?_⟩;have r5:∀(i:Nat) (x:aI),(captured.toList.map st.bj)[i]?=some x->∃v,(captured.map a.eval)[i]?=some v/\cP (Sat w ω τ) x v:=by
   intro i x aa;rw[dG,b2]at aa;obtain⟨o,aN,rfl⟩:=aa;refine⟨a.eval o,?_,aT.bj o⟩;rw[Ap];rw[iX]at aN;rw[aN];rfl
  split at h
  ·rename_i ids Zp;simp only[aO,bx]at h;obtain⟨rfl,_,_⟩:=h;obtain⟨aK,ar⟩:=Kz Zp;have hex:∀i,i<ids.length->∃b id,ids[i]?=some id/\(captured.map a.eval)[i]?=some (ptrTo b)/\ω b=.box id:=by
    intro i hi;obtain⟨x,aa,ka⟩:=ar i ids[i] (by simp[hi]);obtain⟨v,bz,ai⟩:=r5 i x aa;unfold Qp at ka;split at ka
    ·rename_i id aj;simp only[aO]at ka;obtain⟨b,ao,rfl⟩:=aI.dQ aj ai;exact⟨b,id,by simp[hi,ka],bz,ao⟩
    cases ka
   have c7:(captured.map a.eval).size=ids.length:=by simp at aK;simp[aK]
   let bs:=(List.range ids.length).map fun i=>(match (captured.map a.eval)[i]? with | some (.pointer (some p))=>p.block | _=>0)
   refine⟨bs,?_,by simp[bs],fun i id gq=>?_⟩
   ·congr 1
    apply Array.ext
    ·simp[bs,c7]
    intro i h1 U;obtain⟨b,id,_,bz,_⟩:=hex i (by rw[<-c7];exact h1);have nE:=bz;rw[hS h1,aO]at nE;rw[nE];have e:bs[i]'(by simpa using U)=b:=by simp only[bs,List.getElem_map,List.getElem_range,bz,ptrTo]
    simp[e]
   have hi:=(ey.1 gq).1;obtain⟨b,hB,Pt,bz,ao⟩:=hex i hi;rw[gq]at Pt;have:=eQ Pt;subst this;refine⟨b,?_,ao⟩;simp only[bs,dG,List.getElem?_range hi,n0,bz,ptrTo]
  split at h
  ·rename_i ds eI;simp only[aO,bx]at h;obtain⟨rfl,_,_⟩:=h;obtain⟨aK,ar⟩:=Kz eI;refine bX.cl _ g ds (captured.map a.eval) (fun j=>(captured.map a.eval).getD j undef) (by simp at aK;simp[aK]) (fun j d aB=>?_) (fun j d aB=>?_)
   ·obtain⟨x,aa,_⟩:=ar j d aB;obtain⟨v,bz,_⟩:=r5 j x aa;rw[bz];simp only[eu,bz,jx]
   obtain⟨x,aa,ka⟩:=ar j d aB;obtain⟨v,bz,ai⟩:=r5 j x aa;have e:(captured.map a.eval).getD j undef=v:=by simp only[eu,bz,jx]
   rw[e];unfold OS at ka;split at ka
   ·rename_i ta aj;simp only[aO]at ka;subst ka;obtain⟨b,rfl,az⟩:=aI.dQ aj ai;exact az.frame fun b q ao aA=>⟨aA,rfl⟩
   ·rename_i y aj;split at ka
    ·rename_i ZW;simp only[aO]at ka;subst ka;have:v=y:=aI.dQ aj ai;subst this;exact .v _ _ ZW
    cases ka
   cases ka
  cases h
 cases h
def EY(P:Program)(st:aG)(b:Builtin)(args:List Operand)(ts:List TypeId)(ans:List b6):kH:=
 match b,args,ts with
 | .len,[x],[t]=>Ko P t (st.bj x) ans
 | .min,[x,y],_=>Kx (st.bj x) (st.bj y) ans
 | .max,[x,y],_=>Ky (st.bj x) (st.bj y) ans
 | _,_,_=>none
def qc(P:Program)(st:aG)(op:Op)(ans:List b6):kH:=
 match op with
 | .move x | .assign x=>some (st.bj x,ans,[])
 | .pick c a b=>cY (st.bj c) (st.bj a) (st.bj b) ans
 | .load t x=>ET P st t (st.bj x) ans
 | .nilCheck x=>Qu (st.bj x) ans
 | .binOp op t x y _=>Kk P op t x y (st.bj x) (st.bj y) ans
 | .unOp op _ x=>Ku op (st.bj x) ans
 | .convert s d x=>Kv P s d (st.bj x) ans
 | .slice t x cW hi jI=>EU P st t (st.bj x) cW hi jI ans
 | .fieldAddr s x f=>Km P s (st.bj x) f ans
 | .field t x f=>Kt P t (st.bj x) f ans
 | .indexAddr t x i=>Kn P t (st.bj x) (st.bj i) ans
 | .index t x i=>Kw P t (st.bj x) (st.bj i) ans
 | .extract x i=>Ks (st.bj x) i ans
 | .build t parts=>EV P st t parts.toList ans
 | .call ⟨.builtin b,args,ts⟩=>EY P st b args.toList ts.toList ans
 | .makeFunc fn first captured=>EX st fn first.toList captured.toList ans
 | _=>none
theorem jR{aJ:World}{s:Sem Value}{z:Value}(h:s.run P w=.ok z aJ):(do pure (.value (<-s)):Sem Next).run P w=.ok (.value z) aJ:=by
 rw[Sem.run_bind,h];rfl
theorem anH{b:Builtin}{args:Array Operand}{ts:Array TypeId}{ty:TypeId}{consts:Array Bool}
  (aT:cE w0 st a w ω τ) (h:EY P st b args.toList ts.toList ans=some (r,cj,obs)):
  ∃z,(builtin b ts ty consts (args.map a.eval)).run P w=.ok (.value z) w/\cP (Sat w ω τ) r z:=by
 obtain⟨args⟩:=args;obtain⟨ts⟩:=ts;unfold EY at h;split at h
 ·rename_i x t e1 e2;simp only at e1 e2;subst e1 e2;obtain⟨z,h1,U⟩:=anu (ty:=ty) (aT.bj x) h;refine⟨z,jR (s:=Builtin.len_ #[t] ty (Array.map a.eval #[x])) ?_,U⟩;simpa using h1
 ·rename_i x y e1;simp only at e1;subst e1;obtain⟨z,h1,U⟩:=anE (P:=P) (ts:=⟨ts⟩) (ty:=ty) (aT.bj x) (aT.bj y) h;refine⟨z,jR (s:=Builtin.min_ ⟨ts⟩ ty (Array.map a.eval #[x,y])) ?_,U⟩;simpa using h1
 ·rename_i x y e1;simp only at e1;subst e1;obtain⟨z,h1,U⟩:=anF (P:=P) (ts:=⟨ts⟩) (ty:=ty) (aT.bj x) (aT.bj y) h;refine⟨z,jR (s:=Builtin.max_ ⟨ts⟩ ty (Array.map a.eval #[x,y])) ?_,U⟩;simpa using h1
 cases h
theorem KA{o:Oper}
  (aT:cE w0 st a w ω τ) (h:qc P st o.op ans=some (r,cj,obs)) (aN:c8 obs):
  ∃z,(execOp a.eval o).run P w=.ok (.value z) w/\cP (Sat w ω τ) r z:=by
 obtain⟨dst,op,type,pos,after,guard⟩:=o;simp only at h;unfold qc at h;split at h
 ·rename_i x;simp only[aO,bx]at h;obtain⟨rfl,_,_⟩:=h;exact⟨a.eval x,rfl,aT.bj x⟩
 ·rename_i x;simp only[aO,bx]at h;obtain⟨rfl,_,_⟩:=h;exact⟨a.eval x,rfl,aT.bj x⟩
 ·rename_i c x y;exact anB (aT.bj c) (aT.bj x) (aT.bj y) h aN
 ·rename_i t x;obtain⟨z,h1,U⟩:=an2 aT (aT.bj x) h aN;exact⟨z,jR h1,U⟩
 ·rename_i x;unfold Qu at h;split at h
  ·rename_i id off e;simp only[aO,bx]at h;obtain⟨rfl,_,_⟩:=h;have ai:=aI.dQ e (aT.bj x);obtain⟨b,ao,aa⟩:=ai;exact⟨_,by simp only[execOp,aa];rfl,b,ao,rfl⟩
  ·rename_i t k es i j e;simp only[aO,bx]at h;obtain⟨rfl,_,_⟩:=h;have ai:=aI.dQ e (aT.bj x);have c':=ai;obtain⟨b,off,cap,aa,h1⟩:=ai;refine⟨_,by simp only[execOp,aa];rfl,?_⟩;rw[<-aa];exact c'
  ·rename_i ds off e;simp only[aO,bx]at h;obtain⟨rfl,_,_⟩:=h;have ai:=aI.dQ e (aT.bj x);have c':=ai;obtain⟨b,aa,h1⟩:=ai;refine⟨_,by simp only[execOp,aa];rfl,?_⟩;rw[<-aa];exact c'
  ·rename_i t i j k es avz Oz e;simp only[aO,bx]at h;obtain⟨rfl,_,_⟩:=h;have ai:=aI.dQ e (aT.bj x);have c':=ai;obtain⟨fv,⟨b,off,cap,_,aa,_⟩,_⟩:=ai;refine⟨_,by simp only[execOp,aa];rfl,?_⟩;rw[<-aa];exact c'
  cases h
 ·rename_i aa4 t x y rI;obtain⟨z,h1,U⟩:=anY (aT.bj x) (aT.bj y) h aN;exact⟨z,jR h1,U⟩
 ·rename_i aa4 t x;obtain⟨z,h1,U⟩:=anA (aT.bj x) h aN;exact⟨z,jR h1,U⟩
 ·rename_i s d x;obtain⟨z,h1,U⟩:=anC (aT.bj x) h aN;exact⟨z,jR h1,U⟩
 ·rename_i t x cW hi jI;obtain⟨z,h1,U⟩:=anv aT (aT.bj x) h aN;exact⟨z,jR h1,U⟩
 ·rename_i s x f;obtain⟨z,h1,U⟩:=anZ (aT.bj x) h;exact⟨z,jR h1,U⟩
 ·rename_i t x f;obtain⟨z,h1,U⟩:=anz (aT.bj x) h;exact⟨z,jR h1,U⟩
 ·rename_i t x i;obtain⟨z,h1,U⟩:=an0 (aT.bj x) (aT.bj i) h aN;exact⟨z,jR h1,U⟩
 ·rename_i t x i;obtain⟨z,h1,U⟩:=anD (aT.bj x) (aT.bj i) h aN;exact⟨z,jR h1,U⟩
 ·rename_i x i;obtain⟨z,h1,U⟩:=anx (P:=P) (aT.bj x) h;exact⟨z,jR h1,U⟩
 ·rename_i t parts;obtain⟨z,h1,U⟩:=anw aT h;exact⟨z,jR h1,U⟩
 ·rename_i b args ts;obtain⟨z,h1,U⟩:=anH (ty:=type) (consts:=args.map fun | .const _=>true | _=>false) aT h;exact⟨z,by simp only[execOp,resolve,Sem.run_bind,Sem.run_pure,Result.andThen_ok,invoke];exact h1,U⟩
 ·rename_i fn first captured
  obtain⟨z,h1,U⟩:=anG (P:=P) aT h;exact⟨z,jR h1,U⟩
 cases h
