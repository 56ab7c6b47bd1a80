import Derived.WalkKit
import Derived.WalkSpells
import Derived.WalkLawsBesides
import Derived.KernelRfl
set_option linter.unusedVariables false
set_option linter.unusedSimpArgs false
namespace Go.Sx
open Go.RowKit
universe u v w x
theorem aa:True:=⟨⟩
theorem aV:type_of% @Option.some.injEq.{u}:=@Option.some.injEq.{u}
theorem bl:type_of% @List.length_map.{u,v}:=@List.length_map.{u,v}
theorem cc:type_of% @Option.map_eq_some_iff.{u,v}:=@Option.map_eq_some_iff.{u,v}
theorem bH:type_of% @Prod.mk.injEq.{u,v}:=@Prod.mk.injEq.{u,v}
theorem cS:type_of% @Bool.eq_false_or_eq_true:=@Bool.eq_false_or_eq_true
theorem lp:type_of% @decide_eq_false_iff_not:=@decide_eq_false_iff_not
theorem iA:type_of% @List.mem_cons_of_mem.{u}:=@List.mem_cons_of_mem.{u}
theorem b7:type_of% @List.length_nil.{u}:=@List.length_nil.{u}
theorem cV:type_of% @decide_eq_true_eq:=@decide_eq_true_eq
theorem cx:type_of% @Bool.and_eq_true:=@Bool.and_eq_true
theorem ek:type_of% @List.getElem?_eq_some_iff.{u}:=@List.getElem?_eq_some_iff.{u}
theorem eG:type_of% @Array.getD_eq_getD_getElem?.{u}:=@Array.getD_eq_getD_getElem?.{u}
theorem hX:type_of% @List.mem_cons_self.{u}:=@List.mem_cons_self.{u}
theorem fR:type_of% @List.length_set.{u}:=@List.length_set.{u}
theorem bk:type_of% @if_neg.{u}:=@if_neg.{u}
theorem bm:type_of% @if_pos.{u}:=@if_pos.{u}
theorem eh:type_of% @List.length_cons.{u}:=@List.length_cons.{u}
theorem dq:type_of% @List.getElem?_map.{u,v}:=@List.getElem?_map.{u,v}
theorem lQ:type_of% @decide_eq_false:=@decide_eq_false
theorem fJ:type_of% @List.getElem?_eq_getElem.{u}:=@List.getElem?_eq_getElem.{u}
theorem dF:type_of% @Nat.zero_add:=@Nat.zero_add
theorem ft:type_of% @List.mem_of_getElem?.{u}:=@List.mem_of_getElem?.{u}
theorem eW:type_of% @Option.some.inj.{u}:=@Option.some.inj.{u}
theorem hG:type_of% @Bool.or_eq_false_iff:=@Bool.or_eq_false_iff
theorem iB:type_of% @Array.getElem?_eq_some_iff.{u}:=@Array.getElem?_eq_some_iff.{u}
theorem gH:type_of% @List.getElem?_drop.{u}:=@List.getElem?_drop.{u}
theorem hF:type_of% @Nat.mul_le_mul_right:=@Nat.mul_le_mul_right
theorem k5:type_of% @List.take_length.{u}:=@List.take_length.{u}
theorem ht:type_of% @Array.getElem?_eq_getElem.{u}:=@Array.getElem?_eq_getElem.{u}
theorem dE:type_of% @beq_iff_eq.{u}:=@beq_iff_eq.{u}
theorem gI:type_of% @List.getElem?_take.{u}:=@List.getElem?_take.{u}
theorem aaN:type_of% @List.cons.inj.{u}:=@List.cons.inj.{u}
theorem iO:type_of% @Array.getElem?_toList.{u}:=@Array.getElem?_toList.{u}
theorem ij:type_of% @List.mem_append_left.{u}:=@List.mem_append_left.{u}
theorem jU:type_of% @List.mem_append_right.{u}:=@List.mem_append_right.{u}
theorem hW:type_of% @Array.getElem?_append.{u}:=@Array.getElem?_append.{u}
theorem eP:type_of% @List.mem_cons.{u}:=@List.mem_cons.{u}
theorem gx:type_of% @List.all_eq_true.{u}:=@List.all_eq_true.{u}
theorem jB:type_of% @List.getD_eq_getElem?_getD.{u}:=@List.getD_eq_getElem?_getD.{u}
theorem fI:type_of% @Nat.le_refl:=@Nat.le_refl
theorem ik:type_of% @List.any_eq_false.{u}:=@List.any_eq_false.{u}
theorem jV:type_of% @Bool.eq_false_iff:=@Bool.eq_false_iff
theorem gg:type_of% @Nat.add_mul:=@Nat.add_mul
theorem gT:type_of% @Bool.not_eq_true':=@Bool.not_eq_true'
theorem l8:type_of% @List.getElem?_append.{u}:=@List.getElem?_append.{u}
theorem fQ:type_of% @List.map_append.{u,v}:=@List.map_append.{u,v}
theorem il:type_of% @Option.getD_some.{u}:=@Option.getD_some.{u}
theorem l9:type_of% @List.map_congr_left.{u,v}:=@List.map_congr_left.{u,v}
theorem ln:type_of% @Bool.not_eq_false':=@Bool.not_eq_false'
theorem nW:type_of% @List.getElem?_toArray.{u}:=@List.getElem?_toArray.{u}
theorem jC:type_of% @Bool.not_true:=@Bool.not_true
theorem kE:type_of% @List.append_nil.{u}:=@List.append_nil.{u}
theorem fF:type_of% @List.length_append.{u}:=@List.length_append.{u}
theorem lO:type_of% @List.size_toArray.{u}:=@List.size_toArray.{u}
theorem k6:type_of% @List.getElem?_set.{u}:=@List.getElem?_set.{u}
theorem k7:type_of% @Int.toNat_natCast:=@Int.toNat_natCast
theorem oL:type_of% @List.getElem?_cons_succ.{u}:=@List.getElem?_cons_succ.{u}
theorem kh:type_of% @List.getElem?_cons_zero.{u}:=@List.getElem?_cons_zero.{u}
theorem ni:type_of% @Option.bind_eq_some_iff.{u,v}:=@Option.bind_eq_some_iff.{u,v}
theorem qs:type_of% @List.findIdx?_eq_some_iff_getElem.{u}:=@List.findIdx?_eq_some_iff_getElem.{u}
theorem qt:type_of% @Option.isSome_iff_exists.{u}:=@Option.isSome_iff_exists.{u}
theorem nj:type_of% @List.mem_iff_getElem?.{u}:=@List.mem_iff_getElem?.{u}
theorem kF:type_of% @Bool.false_or:=@Bool.false_or
theorem qu:type_of% @List.set_set.{u}:=@List.set_set.{u}
theorem nX:type_of% @Option.bind_some.{u,v}:=@Option.bind_some.{u,v}
theorem nY:type_of% @Bool.false_eq_true:=@Bool.false_eq_true
theorem jj:type_of% @decide_eq_true:=@decide_eq_true
theorem aDB:type_of% @Int.le_trans:=@Int.le_trans
theorem nm:type_of% @List.mem_flatMap.{u,v}:=@List.mem_flatMap.{u,v}
theorem qv:type_of% @List.getElem?_append_right.{u}:=@List.getElem?_append_right.{u}
theorem qw:type_of% @List.length_filter_le.{u}:=@List.length_filter_le.{u}
theorem h6:type_of% @List.map_set.{u,v}:=@List.map_set.{u,v}
theorem l':type_of% @List.map_cons.{u,v}:=@List.map_cons.{u,v}
theorem mz:type_of% @Option.map_some.{u,v}:=@Option.map_some.{u,v}
theorem nn:type_of% @List.getElem_mem.{u}:=@List.getElem_mem.{u}
theorem ma:type_of% @List.length_take.{u}:=@List.length_take.{u}
theorem ki:type_of% @List.mem_append.{u}:=@List.mem_append.{u}
theorem oM:type_of% @List.append_assoc.{u}:=@List.append_assoc.{u}
theorem fX:type_of% @if_true.{u}:=@if_true.{u}
theorem oN:type_of% @Bool.not_false:=@Bool.not_false
theorem rO:type_of% @Array.size_append.{u}:=@Array.size_append.{u}
theorem uq:type_of% @List.take_add_one.{u}:=@List.take_add_one.{u}
theorem pH:type_of% @List.mem_or_eq_of_mem_set.{u}:=@List.mem_or_eq_of_mem_set.{u}
theorem ur:type_of% @List.getElem?_append_left.{u}:=@List.getElem?_append_left.{u}
theorem qx:type_of% @List.mem_of_mem_take.{u}:=@List.mem_of_mem_take.{u}
theorem oO:type_of% @Bool.or_eq_true:=@Bool.or_eq_true
theorem np:type_of% @Nat.add_zero:=@Nat.add_zero
theorem sS:type_of% @List.take_of_length_le.{u}:=@List.take_of_length_le.{u}
theorem oP:type_of% @Bool.true_and:=@Bool.true_and
theorem lo:type_of% @List.mem_map.{u,v}:=@List.mem_map.{u,v}
theorem rP:type_of% @List.mem_of_mem_drop.{u}:=@List.mem_of_mem_drop.{u}
theorem DB:type_of% @List.getElem?_replicate.{u}:=@List.getElem?_replicate.{u}
theorem pI:type_of% @Nat.lt_or_ge:=@Nat.lt_or_ge
theorem sT:type_of% @beq_eq_false_iff_ne.{u}:=@beq_eq_false_iff_ne.{u}
theorem sU:type_of% @List.cons.injEq.{u}:=@List.cons.injEq.{u}
theorem ya:type_of% @List.findIdx?_eq_none_iff.{u}:=@List.findIdx?_eq_none_iff.{u}
theorem v7:type_of% @Bool.not_eq_true:=@Bool.not_eq_true
theorem nZ:type_of% @List.not_mem_nil.{u}:=@List.not_mem_nil.{u}
theorem sV:type_of% @List.eq_nil_of_length_eq_zero.{u}:=@List.eq_nil_of_length_eq_zero.{u}
theorem HT:type_of% @List.take_append_of_le_length.{u}:=@List.take_append_of_le_length.{u}
theorem v8:type_of% @Array.length_toList.{u}:=@Array.length_toList.{u}
theorem v':type_of% @beq_self_eq_true.{u}:=@beq_self_eq_true.{u}
theorem Aj:type_of% @Nat.lt_of_lt_of_le:=@Nat.lt_of_lt_of_le
theorem HU:type_of% @Option.isSome_eq_false_iff.{u}:=@Option.isSome_eq_false_iff.{u}
theorem Ak:type_of% @List.take_append_drop.{u}:=@List.take_append_drop.{u}
theorem gy:type_of% @ne_eq.{u}:=@ne_eq.{u}
theorem HV:type_of% @Option.isNone_iff_eq_none.{u}:=@Option.isNone_iff_eq_none.{u}
theorem sW:type_of% @Nat.le_trans:=@Nat.le_trans
theorem sX:type_of% @List.map_id.{u}:=@List.map_id.{u}
theorem wa:type_of% @List.any_cons.{u}:=@List.any_cons.{u}
theorem yb:type_of% @List.mapM_cons.{u,v,w}:=@List.mapM_cons.{u,v,w}
theorem lP:type_of% @if_false.{u}:=@if_false.{u}
theorem qy:type_of% @List.any_eq_true.{u}:=@List.any_eq_true.{u}
theorem uu:type_of% @List.drop_zero.{u}:=@List.drop_zero.{u}
theorem aDD:type_of% @Int.natCast_zero:=@Int.natCast_zero
theorem DC:type_of% @List.flatMap_nil.{u,v}:=@List.flatMap_nil.{u,v}
theorem Al:type_of% @Array.getElem?_eq_none.{u}:=@Array.getElem?_eq_none.{u}
theorem Am:type_of% @Array.getElem?_map.{u,v}:=@Array.getElem?_map.{u,v}
theorem HW:type_of% @Option.toList_some.{u}:=@Option.toList_some.{u}
theorem Qu:type_of% @List.range_zero:=@List.range_zero
theorem pJ:type_of% @List.map_take.{u,v}:=@List.map_take.{u,v}
theorem wb:type_of% @Bool.and_true:=@Bool.and_true
theorem An:type_of% @List.length_range:=@List.length_range
theorem Ao:type_of% @Nat.mod_eq_of_lt:=@Nat.mod_eq_of_lt
theorem wc:type_of% @Nat.add_assoc:=@Nat.add_assoc
theorem we:type_of% @List.sum_cons.{u}:=@List.sum_cons.{u}
inductive D where
 | v (x:Value)
 | J (k:Nat) (es:List (List D))
 | ptr (ds:List D)
 | cl (g:FuncId) (bx:List D)
inductive db where
 | bI
 | box (id:Nat)
 | tok (t:Nat) (q:List (Nat×Nat))
abbrev Own:=Nat->db
def df(es:List (List D))(i j:Nat):Option D:=(es[i]?).bind (·[j]?)
inductive b0 (w:World) (ω:Own):(List (Nat×Nat)->db->Prop)->D->Value->Prop
 | v (R:List (Nat×Nat)->db->Prop) (x:Value) (h1:x.oneCell'=true):b0 w ω R (.v x) x
 | nil (R:List (Nat×Nat)->db->Prop) (k:Nat) (a:Option Addr):b0 w ω R (.J k []) (.slice a 0 0)
 | row (R:List (Nat×Nat)->db->Prop) (k:Nat) (es:List (List D)) (b off cap:Nat) (arr:Array Value) (ty:TypeId) (c3:Nat×Nat) (us:Nat->Nat->Value)
   (av:w.heap[b]?=some (.cells arr ty c3)) (ej:R [] (ω b)) (aj:es.length<=cap) (ao:off+cap*k<=arr.size) (hk:∀e∈es,e.length=k)
   (hu:∀i j d,df es i j=some d->arr[off+i*k+j]?=some (us i j))
   (aG:∀i j d,df es i j=some d->b0 w ω (fun q=>R ((i,j)::q)) d (us i j)):
   b0 w ω R (.J k es) (.slice (some ⟨b,off,none⟩) es.length cap)
 | ptr (R:List (Nat×Nat)->db->Prop) (ds:List D) (b:Nat) (arr:Array Value) (ty:TypeId) (c3:Nat×Nat) (us:Nat->Value)
   (av:w.heap[b]?=some (.cells arr ty c3)) (ej:R [] (ω b)) (ao:arr.size=ds.length)
   (hu:∀j d,ds[j]?=some d->arr[j]?=some (us j)) (aG:∀j d,ds[j]?=some d->b0 w ω (fun q=>R ((0,j)::q)) d (us j)):
   b0 w ω R (.ptr ds) (.pointer (some ⟨b,0,none⟩))
 | cl (R:List (Nat×Nat)->db->Prop) (g:FuncId) (bx:List D) (cs:Array Value) (us:Nat->Value) (ao:cs.size=bx.length)
   (hu:∀j d,bx[j]?=some d->cs[j]?=some (us j)) (aG:∀j d,bx[j]?=some d->b0 w ω (fun q=>R ((0,j)::q)) d (us j)):
   b0 w ω R (.cl g bx) (.func (.func g) #[] cs)
variable{w aO:World}{ω:Own}
theorem b0.frame{bc:Own}{R:List (Nat×Nat)->db->Prop}{d:D}{v:Value}(h:b0 w ω R d v):
  ∀{jm:List (Nat×Nat)->db->Prop},(∀b q,b<w.heap.size->R q (ω b)->jm q (bc b)/\aO.heap[b]?=w.heap[b]?)->b0 aO bc jm d v:=by
 induction h with
 | v R x h1=>intro jm _;exact .v jm x h1
 | nil R k a=>intro jm _;exact .nil jm k a
 | row R k es b off cap arr ty c3 us av ej aj ao hk hu aG ee=>
  intro jm b2;have bz:b<w.heap.size:=by
   rcases pI b w.heap.size with h | h
   ·exact h
   simp[Al h]at av
  obtain⟨h1,U⟩:=b2 b [] bz ej;exact .row jm k es b off cap arr ty c3 us (U.trans av) h1 aj ao hk hu (fun i j d ed=>ee i j d ed (fun b q ap aK=>b2 b ((i,j)::q) ap aK))
 | ptr R ds b arr ty c3 us av ej ao hu aG ee=>
  intro jm b2;have bz:b<w.heap.size:=by
   rcases pI b w.heap.size with h | h
   ·exact h
   simp[Al h]at av
  obtain⟨h1,U⟩:=b2 b [] bz ej;exact .ptr jm ds b arr ty c3 us (U.trans av) h1 ao hu (fun j d ed=>ee j d ed (fun b q ap aK=>b2 b ((0,j)::q) ap aK))
 | cl R g bx cs us ao hu aG ee=>
  intro jm b2;exact .cl jm g bx cs us ao hu (fun j d ed=>ee j d ed (fun b q ap aK=>b2 b ((0,j)::q) ap aK))
inductive Tag where
 | free
 | own (t:Nat)
 | ro (t:Nat)
def Tag.R:Tag->List (Nat×Nat)->db->Prop
 | .free,_,o=>o=.bI
 | .own t,q,o=>o=.tok t q
 | .ro t,_,o=>o=.bI\/∃q,o=.tok t q
def Tag.ev(τ:Nat->Nat×Value):Tag->Nat×Value->Prop
 | .own t,y=>τ t=y
 | _,_=>True
def dn:Nat:=1000000000
inductive fj where
 | cA
 | v (x:Value)
 | J (t:Tag) (k:Nat) (es:List (List D))
inductive wh where
 | here
 | mD
 | at_ (x y:Nat)
def wh.rel(k n:Nat):wh->Value->Value->Prop
 | .at_ x y,u,v=>∃b off cap,u=.slice (some ⟨b,off,none⟩) n cap/\v=.pointer (some ⟨b,off+x*k+y,none⟩)/\x<n
 | _,u,v=>v=u
def wh.home:wh->Bool
 | .mD=>false
 | _=>true
inductive aH where
 | cA
 | v (x:Value)
 | bg (c:Bool)
 | J (t:Tag) (k:Nat) (es:List (List D))
 | ptr (id off:Nat)
 | cP (t:Tag) (k:Nat) (es:List (List D)) (i j:Nat)
 | iK (ds:List D) (off:Nat)
 | fd (d:D)
 | hv (g:FuncId) (ids:List Nat)
 | aQ (t i j k:Nat) (es:List (List D)) (m:wh)
 | fN (t:Nat) (vs:List fj)
 | dw (t k:Nat) (es:List (List D))
def ptrTo(b:Nat):Value:=.pointer (some ⟨b,0,none⟩)
def rS(w:World)(ω:Own)(τ:Nat->Nat×Value):fj->Value->Prop
 | .cA,_=>True
 | .v x,y=>y=x
 | .J t k es,y=>b0 w ω t.R (.J k es) y/\t.ev τ (k,y)
def vl(w:World)(ω:Own)(τ:Nat->Nat×Value)(t i j:Nat)(u:Value):Prop:=
 ∃(kT b off len cap:Nat) (arr:Array Value) (ty:TypeId) (c3:Nat×Nat),τ t=(kT,.slice (some ⟨b,off,none⟩) len cap)/\ω b=.tok t []/\w.heap[b]?=some (.cells arr ty c3)/\arr[off+i*kT+j]?=some u
def Sat(w:World)(ω:Own)(τ:Nat->Nat×Value):aH->Value->Prop
 | .cA,_=>True
 | .v x,y=>y=x
 | .bg c,y=>y=.bool c
 | .J t k es,y=>b0 w ω t.R (.J k es) y/\t.ev τ (k,y)
 | .ptr id off,y=>∃b,ω b=.box id/\y=.pointer (some ⟨b,off,none⟩)
 | .cP t k es i j,y=>∃b off cap,y=.pointer (some ⟨b,off+i*k+j,none⟩)/\i<es.length/\
   b0 w ω t.R (.J k es) (.slice (some ⟨b,off,none⟩) es.length cap)/\t.ev τ (k,.slice (some ⟨b,off,none⟩) es.length cap)
 | .iK ds off,y=>∃b,y=.pointer (some ⟨b,off,none⟩)/\b0 w ω Tag.free.R (.ptr ds) (ptrTo b)
 | .fd d,y=>b0 w ω Tag.free.R d y
 | .hv g ids,y=>∃bs:List Nat,y=.func (.func g) #[] (bs.map ptrTo).toArray/\bs.length=ids.length/\∀(i:Nat) (id:Nat),ids[i]?=some id->∃b,bs[i]?=some b/\ω b=.box id
 | .dw t k es,y=>b0 w ω Tag.free.R (.J k es) y/\(dn<=t->τ t=(k,y))
 | .aQ t i j k es m,y=>∃u,m.rel k es.length u y/\b0 w ω (fun q o=>o=.tok t ((i,j)::q)) (.J k es) u/\(m.home=true->vl w ω τ t i j u)
 | .fN t vs,y=>∃(b:Nat) (ty:TypeId) (arr:Array Value),y=ptrTo b/\ω b=.tok t []/\w.heap[b]?=some (.cells arr ty (0,0))/\arr.size=vs.length/\∀(j:Nat) (c:fj),vs[j]?=some c->∃u,arr[j]?=some u/\rS w ω τ c u
inductive bn where
 | one (l:aH)
 | agg (ls:List aH)
inductive aL where
 | aI (a:bn)
 | gf (as:List bn)
abbrev aL.one(l:aH):aL:=.aI (.one l)
abbrev aL.agg(ls:List aH):aL:=.aI (.agg ls)
abbrev aL.cA:aL:=.aI (.one .cA)
def k9(S:aH->Value->Prop)(ls:List aH)(vs:Array Value):Prop:=
 vs.size=ls.length/\∀(i:Nat) (l:aH),ls[i]?=some l->∃u,vs[i]?=some u/\S l u
def k8(S:aH->Value->Prop):bn->Value->Prop
 | .one l,y=>S l y
 | .agg ls,y=>∃vs,y=.agg vs/\k9 S ls vs
def cW(S:aH->Value->Prop):aL->Value->Prop
 | .aI a,y=>k8 S a y
 | .gf as,y=>∃vs:Array Value,y=.tuple vs/\vs.size=as.length/\∀(i:Nat) (a:bn),as[i]?=some a->∃u,vs[i]?=some u/\k8 S a u
structure aJ where
 env:List aL
 boxes:List (Nat×List aH)
def dM(id:Nat):List (Nat×List aH)->Option (List aH)
 | []=>none
 | (i,ls)::r=>if i=id then some ls else dM id r
def bn.map(f:aH->aH):bn->bn
 | .one l=>.one (f l)
 | .agg ls=>.agg (ls.map f)
def aL.map(f:aH->aH):aL->aL
 | .aI a=>.aI (a.map f)
 | .gf as=>.gf (as.map (bn.map f))
def aJ.map(f:aH->aH)(s:aJ):aJ:=⟨s.env.map (aL.map f),s.boxes.map fun x=>(x.1,x.2.map f)⟩
variable{S:aH->Value->Prop}
theorem k9.map{lr:aH->Value->Prop}{f:aH->aH}(h:∀l v,S l v->lr (f l) v){ls:List aH}{vs:Array Value}(ao:k9 S ls vs):k9 lr (ls.map f) vs:=by
 refine⟨by simpa using ao.1,fun i l ap=>?_⟩;rw[dq,cc]at ap;obtain⟨ea,bG,rfl⟩:=ap;obtain⟨u,h1,U⟩:=ao.2 i ea bG;exact⟨u,h1,h _ _ U⟩
theorem k8.map{lr:aH->Value->Prop}{f:aH->aH}(h:∀l v,S l v->lr (f l) v):∀{a:bn} {y:Value},k8 S a y->k8 lr (a.map f) y
 | .one l,y,ao=>h _ _ ao
 | .agg ls,y,⟨vs,e,ao⟩=>⟨vs,e,ao.map h⟩
theorem cW.map{lr:aH->Value->Prop}{f:aH->aH}(h:∀l v,S l v->lr (f l) v):∀{p:aL} {y:Value},cW S p y->cW lr (p.map f) y
 | .aI a,y,ao=>show k8 lr (a.map f) y from k8.map h (show k8 S a y from ao)
 | .gf as,y,⟨vs,e,aX,ao⟩=>⟨vs,e,by simpa using aX,fun i a ak=>by
   rw[dq,cc]at ak;obtain⟨a0,bG,rfl⟩:=ak;obtain⟨u,h1,U⟩:=ao i a0 bG;exact⟨u,h1,k8.map h U⟩⟩
theorem tI(f:aH->aH)(id:Nat):∀bs:List (Nat×List aH),dM id (bs.map fun x=>(x.1,x.2.map f))=(dM id bs).map (·.map f)
 | []=>rfl
 | (i,ls)::r=>by
  simp only[l',dM];split
  ·rfl
  exact tI f id r
structure eT where
 w:World
 G:Nat->Prop
 H:Nat->Nat×Value
def eT.EF(B:eT)(b:Nat):Prop:=B.w.heap.size<=b\/B.G b
def KR:Bool:=true
structure hb (n:Nat) (w aO:World):Prop where
 below:Below n w aO
 drawn:KR=true->w.drawn<=aO.drawn
variable{n:Nat}
theorem hb.size(h:hb n w aO):w.heap.size<=aO.heap.size:=h.below.size
theorem hb.block(h:hb n w aO):∀k,k<n->aO.heap[k]?=w.heap[k]?:=h.below.block
theorem hb.refl(n:Nat)(w:World):hb n w w:=⟨Below.refl _ _,fun _=>fI _⟩
theorem hb.drew(h:hb n w aO):hb n w aO.drew:=⟨h.below.drew,fun ao=>Nat.le_succ_of_le (h.drawn ao)⟩
theorem hb.alloc(h:hb n w aO)(aX:n<=aO.heap.size)(o:Obj):hb n w (aO.alloc o):=⟨h.below.alloc aX o,h.drawn⟩
def CY:List (Nat×List Int):=[]
def pM(w:World):Prop:=∀x∈CY,∃ty c3,w.heap[x.1]?=some (.cells (x.2.map (Value.int .u64)).toArray ty c3)
theorem pM.lt(h:pM w){x:Nat×List Int}(ah:x∈CY):x.1<w.heap.size:=by
 obtain⟨ty,c3,e⟩:=h x ah;rcases pI x.1 w.heap.size with h | h
 ·exact h
 simp[Al h]at e
def Tidy(w:World)(ω:Own):Prop:=pM w/\∀x∈CY,ω x.1=.bI
structure ha (B:eT) (w:World):Prop where
 os:w.os=B.w.os
 tape:w.tape=B.w.tape
 output:w.output=B.w.output
 size:B.w.heap.size<=w.heap.size
 block:∀k,k<B.w.heap.size->¬B.G k->w.heap[k]?=B.w.heap[k]?
 drawn:KR=true->B.w.drawn<=w.drawn
 laid:pM w
 free:∀x∈Go.Sx.CY,¬B.EF x.1
theorem pM.next(h:pM w)(k:hb w.heap.size w aO):pM aO:=fun x ah=>by
 rw[k.below.block x.1 (h.lt ah)];exact h x ah
theorem ha.next{B:eT}(h:ha B w)(k:hb w.heap.size w aO):ha B aO:=
 ⟨k.below.os.trans h.os,k.below.tape.trans h.tape,k.below.output.trans h.output,sW h.size k.below.size,fun i hi ay=>(k.below.block i (Aj hi h.size)).trans (h.block i hi ay),fun ao=>sW (h.drawn ao) (k.drawn ao),h.laid.next k,h.free⟩
def eT.of(w:World):eT:=⟨w,fun _=>False,fun _=>(0,undef)⟩
theorem ha.refl(B:eT)(h:pM B.w)(ay:∀x∈CY,¬B.G x.1):ha B B.w:=⟨rfl,rfl,rfl,fI _,fun _ _ _=>rfl,fun _=>fI _,h,fun x ah hm=>by
 rcases hm with hm | hm
 ·exact absurd (h.lt ah) (by omega)
 exact ay x ah hm⟩
theorem ha.start{H:Nat->Nat×Value}(h:Tidy w ω):ha ⟨w,fun b=>ω b≠.bI,H⟩ w:=ha.refl ⟨w,fun b=>ω b≠.bI,H⟩ h.1 fun x ah hm=>hm (h.2 x ah)
theorem ha.below(h:ha (eT.of w) aO):hb w.heap.size w aO:=⟨⟨h.os,h.tape,h.output,h.size,fun k hk=>h.block k hk (fun h=>h)⟩,h.drawn⟩
theorem ha.setRow{B:eT}(h:ha B w){b:Nat}(av:B.EF b)(arr:Array Value):ha B (w.setRow b arr):=
 ⟨h.os,h.tape,h.output,by simpa using h.size,fun k hk ay=>by
  have:k≠b:=by
   rintro rfl;rcases av with av | av
   ·omega
   exact ay av
  rw[setRow_other w b k arr this];exact h.block k hk ay,h.drawn,fun x ah=>by
  have:x.1≠b:=fun e=>h.free x ah (e▸av)
  rw[setRow_other w b x.1 arr this];exact h.laid x ah,h.free⟩
def oR(w0:eT)(w:World)(ω:Own):Prop:=∀b,ω b≠.bI->w0.EF b/\∃arr ty,w.heap[b]?=some (.cells arr ty (0,0))
def uw(w:World)(ω:Own)(τ:Nat->Nat×Value)(id:Nat)(ls:List aH):Prop:=
 ∃b arr ty,ω b=.box id/\(∀dc,ω dc=.box id->dc=b)/\w.heap[b]?=some (.cells arr ty (0,0))/\k9 (Sat w ω τ) ls arr
structure cJ (w0:eT) (st:aJ) (a:Act) (w:World) (ω:Own) (τ:Nat->Nat×Value):Prop where
 defers:a.defers=[]
 size:a.tmps.size=st.env.length
 below:ha w0 w
 owned:oR w0 w ω
 fixed:∀t,dn<=t->τ t=w0.H t
 pinned:∀id b,dn<=id->ω b=.box id->(w0.H id).1=b
 env:∀(i:Nat) (p:aL),st.env[i]?=some p->∃v,a.tmps[i]?=some v/\cW (Sat w ω τ) p v
 boxes:∀id ls,dM id st.boxes=some ls->uw w ω τ id ls
def Rel(w0:eT)(st:aJ)(a:Act)(w:World):Prop:=∃ω τ,cJ w0 st a w ω τ
structure rQ (B:eT) (w:World):Prop where
 os:w.os=B.w.os
 tape:w.tape=B.w.tape
 output:w.output=B.w.output
 size:B.w.heap.size<=w.heap.size
 block:∀k,k<B.w.heap.size->¬B.G k->w.heap[k]?=B.w.heap[k]?
 drawn:KR=true->B.w.drawn<=w.drawn
theorem rQ.full{H:Nat->Nat×Value}(h:rQ ⟨w,fun b=>ω b≠.bI,H⟩ aO)(bT:Tidy w ω):ha ⟨w,fun b=>ω b≠.bI,H⟩ aO:=
 ⟨h.os,h.tape,h.output,h.size,h.block,h.drawn,fun x ah=>by
  rw[h.block x.1 (bT.1.lt ah) fun aX=>aX (bT.2 x ah)];exact bT.1 x ah,(ha.start (H:=H) bT).free⟩
variable{w0:eT}
theorem cJ.tidy{st:aJ}{a:Act}{bc:Own}{τ:Nat->Nat×Value}(h:cJ w0 st a w ω τ)(da:∀b,ω b=.bI->bc b=.bI):Tidy w bc:=
 ⟨h.below.laid,fun x ah=>da _ (Classical.byContradiction fun aX=>h.below.free x ah (h.owned _ aX).1)⟩
theorem oR.lt(h:oR w0 w ω){b:Nat}(av:ω b≠.bI):b<w.heap.size:=by
 obtain⟨_,arr,ty,e⟩:=h b av;rcases pI b w.heap.size with h | h
 ·exact h
 simp[Al h]at e
theorem oR.fresh(h:oR w0 w ω){b:Nat}(av:w.heap.size<=b):ω b=.bI:=by
 cases e:ω b with
 | bI=>rfl
 | box id=>have:=h.lt (b:=b) (by simp[e]);omega
 | tok t q=>have:=h.lt (b:=b) (by simp[e]);omega
end Go.Sx
namespace Go.Sx
open Go.RowKit
def fj.cu(g:Tag->Option Tag):fj->fj
 | .J t k es=>match g t with | some di=>.J di k es | none=>.cA
 | c=>c
def aH.cu(g:Tag->Option Tag)(p:Nat->Bool):aH->aH
 | .J t k es=>match g t with | some di=>.J di k es | none=>.cA
 | .cP t k es i j=>match g t with | some di=>.cP di k es i j | none=>.cA
 | .ptr id off=>if p id then .ptr id off else .cA
 | .hv f ids=>if ids.all p then .hv f ids else .cA
 | .aQ t i j k es m=>match g (.own t) with | some (.own di)=>if di=t then .aQ t i j k es m else .cA | _=>.cA
 | .fN t vs=>match g (.own t) with | some (.own di)=>if di=t then .fN t (vs.map (fj.cu g)) else .cA | _=>.cA
 | l=>l
structure mB (w:World) (ω:Own) (τ:Nat->Nat×Value) (aO:World) (bc:Own) (cY:Nat->Nat×Value) (g:Tag->Option Tag) (p:Nat->Bool):Prop where
 rep:∀t di b q,g t=some di->b<w.heap.size->t.R q (ω b)->di.R q (bc b)/\aO.heap[b]?=w.heap[b]?
 ev:∀t di y,g t=some di->t.ev τ y->di.ev cY y
 box:∀id b,p id=true->ω b=.box id->bc b=.box id
 free:g .free=some .free
 fix:∀t,dn<=t->cY t=τ t
variable{w aO:World}{ω bc:Own}{τ cY:Nat->Nat×Value}{g:Tag->Option Tag}
theorem EV(h:∀c u,rS w ω τ c u->rS aO bc cY (fj.cu g c) u){arr:Array Value}{vs:List fj}
  (aX:arr.size=vs.length) (bp:∀(j:Nat) (c:fj),vs[j]?=some c->∃u,arr[j]?=some u/\rS w ω τ c u):
  arr.size=(vs.map (fj.cu g)).length/\∀(j:Nat) (c:fj),(vs.map (fj.cu g))[j]?=some c->∃u,arr[j]?=some u/\rS aO bc cY c u:=by
 refine⟨by simpa using aX,fun j c aj=>?_⟩;rw[dq,cc]at aj;obtain⟨cO,bG,rfl⟩:=aj;obtain⟨u,h1,U⟩:=bp j cO bG;exact⟨u,h1,h cO u U⟩
theorem mB.mm{p:Nat->Bool}(h:mB w ω τ aO bc cY g p)(c:fj)(u:Value)(ao:rS w ω τ c u):rS aO bc cY (fj.cu g c) u:=by
 cases c with
 | cA=>exact trivial
 | v x=>exact ao
 | J t k es=>
  simp only[fj.cu];cases ay:g t with
  | none=>exact trivial
  | some di=>exact⟨ao.1.frame fun b q av aK=>h.rep t di b q ay av aK,h.ev t di _ ay ao.2⟩
theorem mB.sat{g:Tag->Option Tag}{p:Nat->Bool}(h:mB w ω τ aO bc cY g p):
  ∀(l:aH) (v:Value),Sat w ω τ l v->Sat aO bc cY (l.cu g p) v:=by
 intro l v ao;cases l with
 | cA=>exact trivial
 | v x=>exact ao
 | bg c=>exact ao
 | J t k es=>
  simp only[aH.cu];cases ay:g t with
  | none=>exact trivial
  | some di=>exact⟨ao.1.frame fun b q av aK=>h.rep t di b q ay av aK,h.ev t di _ ay ao.2⟩
 | ptr id off=>
  simp only[aH.cu];split
  ·obtain⟨b,av,e⟩:=ao;exact⟨b,h.box id b ‹_› av,e⟩
  exact trivial
 | hv f ids=>
  simp only[aH.cu];split
  ·rename_i hp;obtain⟨bs,e,aX,hi⟩:=ao;refine⟨bs,e,aX,fun i id gE=>?_⟩;obtain⟨b,h1,U⟩:=hi i id gE;exact⟨b,h1,h.box id b (gx.1 hp id (ft gE)) U⟩
  exact trivial
 | iK ds off=>
  obtain⟨b,e,aA⟩:=ao;exact⟨b,e,aA.frame fun b q av aK=>h.rep .free .free b q h.free av aK⟩
 | fd d=>exact b0.frame ao fun b q av aK=>h.rep .free .free b q h.free av aK
 | dw t k es=>exact⟨ao.1.frame fun b q av aK=>h.rep .free .free b q h.free av aK,fun bT=>(h.fix t bT).trans (ao.2 bT)⟩
 | aQ t i j k es m=>
  simp only[aH.cu];split
  ·rename_i di ay;split
   ·rename_i bT;subst bT;obtain⟨u,hu,h1,hm⟩:=ao;refine⟨u,hu,h1.frame fun c q aj aK=>h.rep _ _ c _ ay aj aK,fun bJ=>?_⟩;obtain⟨kT,b,off,len,cap,arr,ty,c3,U,aZ,ax,aF⟩:=hm bJ;have bz:b<w.heap.size:=(iB.1 ax).1;have hk:=h.rep _ _ b [] ay bz aZ;exact⟨kT,b,off,len,cap,arr,ty,c3,h.ev _ _ _ ay U,hk.1,hk.2.trans ax,aF⟩
   exact trivial
  exact trivial
 | fN t vs=>
  simp only[aH.cu];split
  ·rename_i di ay;split
   ·rename_i bT;subst bT;obtain⟨b,ty,arr,e,aZ,ax,aX,bp⟩:=ao;have bz:b<w.heap.size:=(iB.1 ax).1;have hk:=h.rep _ _ b [] ay bz aZ;exact⟨b,ty,arr,e,hk.1,hk.2.trans ax,EV (h.mm) aX bp⟩
   exact trivial
  exact trivial
 | cP t k es i j=>
  simp only[aH.cu];cases ay:g t with
  | none=>exact trivial
  | some di=>
   obtain⟨b,off,cap,e,hi,aA,bJ⟩:=ao;exact⟨b,off,cap,e,hi,aA.frame fun b q av aK=>h.rep t di b q ay av aK,h.ev t di _ ay bJ⟩
variable{a:Act}
theorem abn{d:Nat}{v:Value}{i:Nat}:(a.put (some d) v).tmps[i]?=if d=i/\i<a.tmps.size then some v else a.tmps[i]?:=by
 simp only[Act.put,Array.getElem?_setIfInBounds];by_cases h:d=i
 ·subst h;by_cases U:d<a.tmps.size
  ·simp[U]
  simp[U]
 simp[h]
variable{w0:eT}{st:aJ}
theorem cJ.put(h:cJ w0 st a w ω τ){d:Nat}{p:aL}{v:Value}(ao:cW (Sat w ω τ) p v):
  cJ w0 ⟨st.env.set d p,st.boxes⟩ (a.put (some d) v) w ω τ where
 defers:=h.defers
 size:=by simp[Act.put,h.size]
 below:=h.below
 owned:=h.owned
 fixed:=h.fixed
 pinned:=h.pinned
 boxes:=h.boxes
 env:=by
  intro i q aK;rw[k6]at aK;rw[abn];by_cases aG:d=i
  ·subst aG;simp only[fX]at aK;split at aK
   ·rename_i bz;have e:=eW aK;subst e;exact⟨v,by rw[bm ⟨rfl,by rw[h.size];exact bz⟩],ao⟩
   cases aK
  rw[bk aG]at aK;rw[bk (by simp[aG])];exact h.env i q aK
theorem cJ.Iw{p:Nat->Bool}
  (h:cJ w0 st a w ω τ) (e:mB w ω τ aO bc cY g p) (o4:ha w0 aO) (q2:oR w0 aO bc) {bs:List (Nat×List aH)}
  (r3:∀id ls,dM id bs=some ls->uw aO bc cY id ls) (wR:∀id b,dn<=id->bc b=.box id->ω b=.box id) (r6:∀t,dn<=t->cY t=τ t:=by intros;rfl):cJ w0 ⟨st.env.map (aL.map (aH.cu g p)),bs⟩ a aO bc cY where
 defers:=h.defers
 size:=by simp[h.size]
 below:=o4
 owned:=q2
 fixed:=fun t bT=>(r6 t bT).trans (h.fixed t bT)
 pinned:=fun id b hi av=>h.pinned id b hi (wR id b hi av)
 boxes:=r3
 env:=by
  intro i q aK;rw[dq,cc]at aK;obtain⟨gM,bG,rfl⟩:=aK;obtain⟨v,h1,U⟩:=h.env i gM bG;exact⟨v,h1,cW.map e.sat U⟩
theorem ow(w:World)(o:Obj):(w.alloc o).heap[w.heap.size]?=some o:=by
 show (w.heap.push o)[_]?=_;simp
theorem xb(w:World)(o:Obj){i:Nat}(h:i<w.heap.size):(w.alloc o).heap[i]?=w.heap[i]?:=Below.heap_alloc w o i h
def qd(id:Nat):List (Nat×List aH)->List (Nat×List aH)
 | []=>[]
 | (i,ls)::r=>if i=id then qd id r else (i,ls)::qd id r
theorem KS(id:Nat):∀bs,dM id (qd id bs)=none
 | []=>rfl
 | (i,ls)::r=>by
  simp only[qd];split
  ·exact KS id r
  simp only[dM];rw[bk ‹_›];exact KS id r
theorem zu{id hM:Nat}(h:hM≠id):∀bs,dM hM (qd id bs)=dM hM bs
 | []=>rfl
 | (i,ls)::r=>by
  simp only[qd,dM];by_cases h1:i=id
  ·rw[bm h1,bk (by omega)];exact zu h r
  rw[bk h1];simp only[dM];split
  ·rfl
  exact zu h r
def sg:Tag->Option Tag:=some
def ky(id:Nat):Nat->Bool:=fun i=>decide (i≠id)
def aJ.u6(st:aJ)(id:Nat)(ls:List aH):aJ:=
 let f:=aH.cu sg (ky id)
 ⟨st.env.map (aL.map f),(id,ls.map f)::(qd id st.boxes).map fun x=>(x.1,x.2.map f)⟩
theorem cJ.u6(h:cJ w0 st a w ω τ)(id:Nat)(gE:id<dn){ls:List aH}{arr:Array Value}(ty:TypeId)
  (ao:k9 (Sat w ω τ) ls arr):
  ∃bc,cJ w0 (st.u6 id ls) a (w.alloc (.cells arr ty)) bc τ/\bc w.heap.size=.box id:=by
 let bc:Own:=fun b=>if b=w.heap.size then .box id else match ω b with | .box i=>if i=id then .bI else .box i | o=>o
 have gL:bc w.heap.size=.box id:=by simp[bc]
 have hold:∀b,b<w.heap.size->bc b=(match ω b with | .box i=>if i=id then .bI else .box i | o=>o):=by
  intro b av;simp only[bc];rw[bk (by omega)]
 have hL:∀b,b≠w.heap.size->bc b=(match ω b with | .box i=>if i=id then .bI else .box i | o=>o):=by
  intro b av;simp only[bc];rw[bk av]
 have br:mB w ω τ (w.alloc (.cells arr ty)) bc τ sg (ky id):=by
  refine⟨?_,?_,?_,rfl,fun _ _=>rfl⟩
  ·intro t di b q ay av aK;simp only[sg,aV]at ay;subst ay;refine⟨?_,xb _ _ av⟩;rw[hold b av];cases t with
   | free=>simp only[Tag.R]at aK ⊢;rw[aK]
   | own s=>simp only[Tag.R]at aK ⊢;rw[aK]
   | ro s=>
    simp only[Tag.R]at aK ⊢;rcases aK with aK | ⟨dJ,aK⟩
    ·rw[aK];exact .inl rfl
    rw[aK];exact .inr ⟨dJ,rfl⟩
  ·intro t di y ay bf;simp only[sg,aV]at ay;subst ay;exact bf
  intro i b hp av;have bz:=h.owned.lt (b:=b) (by simp[av]);rw[hold b bz,av];simp only[ky,cV]at hp;simp[hp]
 have o4:ha w0 (w.alloc (.cells arr ty)):=h.below.next ((hb.refl _ _).alloc (fI _) _);have q2:oR w0 (w.alloc (.cells arr ty)) bc:=by
  intro b av;by_cases aX:b=w.heap.size
  ·subst aX;exact⟨.inl h.below.size,arr,ty,ow _ _⟩
  rw[hL b aX]at av;have U:ω b≠.bI:=by intro e;rw[e]at av;exact av rfl
  obtain⟨ax,cd,rK,e⟩:=h.owned b U;exact⟨ax,cd,rK,(xb _ _ (h.owned.lt U)).trans e⟩
 refine⟨bc,?_,gL⟩;refine h.Iw br o4 q2 ?_ (fun i b hi av=>?_)
 case refine_2=>
  by_cases aX:b=w.heap.size
  ·subst aX;rw[gL]at av;simp only[db.box.injEq]at av;omega
  rw[hL b aX]at av;cases e:ω b with
  | bI=>simp[e]at av
  | tok t q=>simp[e]at av
  | box j=>
   simp only[e]at av;split at av
   ·cases av
   exact av
 intro i fz ap;simp only[dM]at ap;split at ap
 ·rename_i hi;subst hi;have e:=eW ap;subst e;refine⟨w.heap.size,arr,ty,gL,?_,ow _ _,ao.map br.sat⟩;intro dc dL;by_cases aX:dc=w.heap.size
  ·exact aX
  rw[hL dc aX]at dL;cases e:ω dc with
  | bI=>simp[e]at dL
  | tok t q=>simp[e]at dL
  | box j=>
   simp only[e]at dL;split at dL
   ·cases dL
   rename_i cC;simp only[db.box.injEq]at dL;exact absurd dL cC
 rename_i hi;rw[tI,cc]at ap;obtain⟨j8,bG,rfl⟩:=ap;have cC:i≠id:=fun e=>hi e.symm
 rw[zu cC]at bG;obtain⟨b,cd,rK,av,hu,bJ,e3⟩:=h.boxes i j8 bG;have bz:=h.owned.lt (b:=b) (by simp[av]);refine⟨b,cd,rK,br.box i b (by simp[ky,cC]) av,?_,(xb _ _ bz).trans bJ,e3.map br.sat⟩;intro dc dL;by_cases aX:dc=w.heap.size
 ·subst aX;rw[gL]at dL;simp only[db.box.injEq]at dL;exact absurd dL.symm cC
 rw[hL dc aX]at dL;refine hu dc ?_;cases e:ω dc with
 | bI=>simp[e]at dL
 | tok t q=>simp[e]at dL
 | box j=>
  simp only[e]at dL;split at dL
  ·cases dL
  exact dL
end Go.Sx
namespace Go.Sx
open Go.RowKit
inductive cQ where
 | one (d:D)
 | agg (ds:List D)
inductive aU where
 | vals (rs:List cQ)
 | iX (src:List (Option Nat)) (ds:List D)
abbrev aU.new (ds : List D) : aU := .iX [] ds
inductive hY where
 | normal
 | exit (id:Nat)
 | ret
inductive cf where
 | own
 | sub
 | pF (wY:List (List (Option (Option (List (List D)))))) (src:Nat) (ds:List D) (rs:List cQ)
 | res (rs:List cQ)
 | dp (wY:List (Option (List D))) (r:aU)
 | loop (EG:List (Nat×Nat×Nat)) (fU boxes:List Nat) (e:hY) (st:aJ)
 | pN (b:Bool)
 | el (ds:List D)
 | wr
 | eq (c:Bool)
 | num (n:Int)
 | po (p:aL)
 | iy (st:aJ)
def cL:List Prop->Prop
 | []=>True
 | p::r=>p/\cL r
theorem cL.append:∀{a b:List Prop},cL (a++b)->cL a/\cL b
 | [],_,h=>⟨aa,h⟩
 | _::_,_,h=>⟨⟨h.1,(cL.append h.2).1⟩,(cL.append h.2).2⟩
abbrev kG:=Option (aL×List cf×List Prop)
def D1:Value->aL
 | .agg cs=>.agg (cs.toList.map .v)
 | v=>.one (.v v)
def aJ.br(st:aJ):Operand->aL
 | .tmp t=>st.env.getD t .cA
 | .const v=>D1 v
 | .func f=>.one (.fd (.cl f []))
 | _=>.cA
theorem avZ(w:World)(ω:Own)(τ:Nat->Nat×Value)(v:Value):cW (Sat w ω τ) (D1 v) v:=by
 unfold D1;split
 ·rename_i cs;refine⟨cs,rfl,by simp,fun i l ap=>?_⟩;rw[dq,cc]at ap;obtain⟨u,hu,rfl⟩:=ap;exact⟨u,by simpa using hu,rfl⟩
 exact rfl
variable{w:World}{ω:Own}{τ:Nat->Nat×Value}
theorem cJ.br{w0:eT}{st:aJ}{a:Act}(h:cJ w0 st a w ω τ)(x:Operand):cW (Sat w ω τ) (st.br x) (a.eval x):=by
 cases x with
 | tmp t=>
  simp only[aJ.br,Act.eval];cases e:st.env[t]? with
  | none=>
   rw[jB,e];exact trivial
  | some p=>
   obtain⟨v,bp,ao⟩:=h.env t p e;rw[jB,e];simpa[eG,bp]using ao
 | const v=>exact avZ w ω τ v
 | global g=>exact trivial
 | func f=>exact b0.cl _ f [] #[] (fun _=>undef) rfl (fun j d aG=>by simp at aG) (fun j d aG=>by simp at aG)
def aH.val:aH->Option Value
 | .v x=>some x
 | .bg c=>some (.bool c)
 | _=>none
variable{y:Value}
theorem aH.YZ{l:aH}{x:Value}(h:l.val=some x)(ao:Sat w ω τ l y):y=x:=by
 cases l<;>simp[aH.val]at h
 ·subst h;exact ao
 subst h;exact ao
def aL.leaf:aL->Option aH
 | .aI (.one l)=>some l
 | _=>none
theorem aL.dV{S:aH->Value->Prop}{p:aL}{l:aH}(h:p.leaf=some l)(ao:cW S p y):S l y:=by
 cases p with
 | gf as=>cases h
 | aI a=>
  cases a with
  | agg ls=>cases h
  | one hz=>simp only[aL.leaf,aV]at h;subst h;exact ao
def aL.int(p:aL):Option (IntKind×Int):=
 match p.leaf with
 | some (.v (.int k n))=>some (k,n)
 | _=>none
variable{p:aL}{k:IntKind}
theorem aL.pa{n:Int}(h:p.int=some (k,n))(ao:cW (Sat w ω τ) p y):y=.int k n:=by
 unfold aL.int at h;split at h
 ·rename_i cw adI e;simp only[aV,bH]at h;obtain⟨rfl,rfl⟩:=h;exact aL.dV e ao
 cases h
def aL.vals:aL->Option (List Value)
 | .aI (.agg ls)=>ls.mapM aH.val
 | _=>none
theorem SA{w:World}{ω:Own}{τ:Nat->Nat×Value}:∀{ls:List aH} {xs:List Value},ls.mapM aH.val=some xs->∀{vs:List Value},vs.length=ls.length->(∀(i:Nat) (l:aH),ls[i]?=some l->∃u,vs[i]?=some u/\Sat w ω τ l u)->vs=xs
 | [],xs,h,vs,aX,_=>by
  simp at h;subst h;exact sV aX
 | l::ls,xs,h,vs,aX,ao=>by
  rw[yb]at h;cases e:l.val with
  | none=>simp[e]at h
  | some x=>
   cases e2:ls.mapM aH.val with
   | none=>simp[e,e2]at h
   | some ys=>
    simp[e,e2]at h;subst h;cases vs with
    | nil=>simp at aX
    | cons v vs=>
     obtain⟨u,hu,e3⟩:=ao 0 l rfl;simp at hu;subst hu;rw[aH.YZ e e3]
     congr 1
     exact SA e2 (by simpa using aX) (fun i hz ap=>by have:=ao (i+1) hz (by simpa using ap);simpa using this)
theorem aL.aBK{xs:List Value}(h:p.vals=some xs)(ao:cW (Sat w ω τ) p y):y=.agg xs.toArray:=by
 cases p with
 | gf as=>cases h
 | aI a=>
  cases a with
  | one l=>cases h
  | agg ls=>
   obtain⟨vs,rfl,aX,bp⟩:=ao;have:=SA (w:=w) (ω:=ω) (τ:=τ) h (vs:=vs.toList) (by simpa using aX) (fun i l ap=>by obtain⟨u,h1,U⟩:=bp i l ap;exact⟨u,by simpa using h1,U⟩);rw[<-this]
def aD(k:IntKind)(e:Int):Prop:=
 match k with
 | .i64=>-9223372036854775808<=e/\e<=9223372036854775807
 | k=>k.wrap e=e
theorem aD.wrap{e:Int}(h:aD k e):k.wrap e=e:=by
 cases k<;>first | exact h | (simp only[aD]at h;rw[IntKind.wrap_i64];omega)
def arith(k:IntKind)(e:Int)(ans:List cf):kG:=
 match ans with
 | .wr::r=>some (.one (.v (.int k (k.wrap e))),r,[])
 | _=>some (.one (.v (.int k e)),ans,[aD k e])
variable{ans cq:List cf}{obs:List Prop}
theorem zv{e:Int}(h:arith k e ans=some (p,cq,obs))(ba:cL obs):cW (Sat w ω τ) p (.int k (k.wrap e)):=by
 unfold arith at h;split at h
 ·simp only[aV,bH]at h;obtain⟨rfl,_,_⟩:=h;exact rfl
 simp only[aV,bH]at h;obtain⟨rfl,_,rfl⟩:=h;rw[ba.1.wrap];exact rfl
def na(P:Program)(op:BinOp)(t:TypeId)(x y:Operand)(u v c:Value):Prop:=
 ∀w:World,((do eqGuard op t x y u v;binOp op t u v:Sem Value)).run P w=.ok c w
def KT(op:BinOp)(k:IntKind)(x y:Int)(ans:List cf):kG:=
 match op with
 | .add=>arith k (x+y) ans
 | .sub=>arith k (x-y) ans
 | .mul=>arith k (x*y) ans
 | .quo=>(arith k (x.tdiv y) ans).map fun r=>(r.1,r.2.1,(y≠0)::r.2.2)
 | .rem=>some (.one (.v (.int k (x.tmod y))),ans,[y≠0])
 | .eql=>some (.one (.bg (x==y)),ans,[])
 | .neq=>some (.one (.bg (x != y)),ans,[])
 | .lss=>some (.one (.bg (decide (x<y))),ans,[])
 | .leq=>some (.one (.bg (decide (x<=y))),ans,[])
 | .gtr=>some (.one (.bg (decide (x>y))),ans,[])
 | .geq=>some (.one (.bg (decide (x>=y))),ans,[])
 | _=>none
variable{P:Program}{op:BinOp}
theorem av0{x y:Int}(t:TypeId)(adS adT:Operand)
  (h:KT op k x y ans=some (p,cq,obs)) (ba:cL obs):
  ∃v,((do eqGuard op t adS adT (.int k x) (.int k y);binOp op t (.int k x) (.int k y):Sem Value)).run P w=.ok v w/\cW (Sat w ω τ) p v:=by
 rw[eqGuard_at_int];simp only[Sem.run_bind,Sem.run_pure,Result.andThen_ok];cases op<;>simp only[KT,aV,bH,reduceCtorEq]at h
 case add=>exact⟨_,by rw[binOp_add];rfl,zv h ba⟩
 case sub=>exact⟨_,by rw[binOp_sub];rfl,zv h ba⟩
 case mul=>exact⟨_,by rw[binOp_mul];rfl,zv h ba⟩
 case quo=>
  rw[cc]at h;obtain⟨⟨re,cK,pj⟩,h1,U⟩:=h;simp only[bH]at U;obtain⟨rfl,rfl,rfl⟩:=U;refine⟨_,?_,zv h1 ba.2⟩;rw[binOp_quo];simp[Op.intDiv,ba.1]
 case rem=>
  obtain⟨rfl,_,rfl⟩:=h;refine⟨_,?_,rfl⟩;rw[binOp_rem];simp[Op.intDiv,ba.1]
 case eql=>obtain⟨rfl,_,rfl⟩:=h;exact⟨_,by rw[binOp_eql];rfl,rfl⟩
 case neq=>obtain⟨rfl,_,rfl⟩:=h;exact⟨_,by rw[binOp_neq];rfl,rfl⟩
 case lss=>obtain⟨rfl,_,rfl⟩:=h;exact⟨_,by rw[binOp_lss];rfl,rfl⟩
 case leq=>obtain⟨rfl,_,rfl⟩:=h;exact⟨_,by rw[binOp_leq];rfl,rfl⟩
 case gtr=>obtain⟨rfl,_,rfl⟩:=h;exact⟨_,by rw[binOp_gtr];rfl,rfl⟩
 case geq=>obtain⟨rfl,_,rfl⟩:=h;exact⟨_,by rw[binOp_geq];rfl,rfl⟩
def aL.value(p:aL):Option Value:=
 match p with
 | .aI (.one l)=>l.val
 | p=>p.vals.map fun xs=>.agg xs.toArray
theorem aL.Ab{x:Value}(h:p.value=some x)(ao:cW (Sat w ω τ) p y):y=x:=by
 unfold aL.value at h;split at h
 ·exact aH.YZ h ao
 rw[cc]at h;obtain⟨xs,h1,rfl⟩:=h;exact aL.aBK h1 ao
def xc(P:Program)(t:TypeId):Option Bool:=
 match P.underlying t with
 | some (.struct _) | some (.array _ _)=>some true
 | some _=>some false
 | none=>none
variable{t:TypeId}
theorem zw{b:Bool}(h:xc P t=some b)(w:World):(isAgg t).run P w=.ok b w:=by
 unfold xc at h;unfold isAgg;split at h
 ·rename_i hu;simp only[aV]at h;subst h;simp[run_underlying hu]
 ·rename_i hu;simp only[aV]at h;subst h;simp[run_underlying hu]
 ·rename_i d h1 U hu;simp only[aV]at h;subst h;rw[Sem.run_bind,run_underlying hu];cases d<;>first | rfl | (exact absurd rfl (h1 _)) | (exact absurd rfl (U _ _))
 cases h
def EJ(P:Program)(t:TypeId)(cs:Array Value)(off:Nat):Option Value:=
 match xc P t,P.info? t with
 | some true,some i=>some (.agg (cs.extract off (off+i.size)))
 | some false,_=>cs[off]?
 | _,_=>none
variable{v:Value}
theorem SB{cs:Array Value}{off:Nat}(h:EJ P t cs off=some v)(w:World):(part t cs off).run P w=.ok v w:=by
 unfold EJ at h;split at h
 ·rename_i i e1 e2;simp only[aV]at h;subst h;simp[part,zw e1,sizeOf,typeInfo,e2]
 ·rename_i e1;simp[part,zw e1,h]
 cases h
def AD(P:Program)(f:TypeId->Value->Value->Option Bool)(xs ys:Array Value):List Field->Option Bool
 | []=>some true
 | fd::r=>
  if fd.name = "_" then none else
  match EJ P fd.type xs fd.offset,EJ P fd.type ys fd.offset with
  | some a,some b=>
   match f fd.type a b with
   | some c=>
    match r with
    | []=>some c
    | r=>(AD P f xs ys r).map fun kJ=>c&&kJ
   | none=>none
  | _,_=>none
def yl(P:Program):Nat->TypeId->Value->Value->Option Bool
 | 0,_,_,_=>none
 | m+1,t,x,y=>
  match P.underlying t,x,y with
  | some .bool,.bool a,.bool b=>some (a==b)
  | some (.int _),.int k a,.int cw b=>if k=cw then some (a==b) else none
  | some .string,.string a,.string b=>some (a.toList==b.toList)
  | some (.struct eU),.agg xs,.agg ys=>if P.stoodInHeld t then none else AD P (yl P m) xs ys eU.toList
  | _,_,_=>none
theorem SC{d:Nat}{f:TypeId->Value->Value->Option Bool}(b2:∀t x y c,f t x y=some c->∀w,(Op.equalIn d t x y).run P w=.ok c w){xs ys:Array Value}:
  ∀{eU:List Field} {c:Bool},AD P f xs ys eU=some c->∀w,(Op.eqFields d xs ys eU).run P w=.ok c w
 | [],c,h,w=>by simp only[AD,aV]at h;subst h;simp[Op.eqFields]
 | fd::r,c,h,w=>by
  simp only[AD]at h;split at h
  ·cases h
  rename_i aX;split at h
  ·rename_i a b e1 e2;split at h
   ·rename_i c1 cg;simp only [Op.eqFields, bm (show fd.name ≠ "_" from aX), Sem.run_bind, SB e1, SB e2, Result.andThen_ok, b2 _ _ _ _ cg, Sem.run_ite];split at h
    ·simp only[aV]at h;subst h;cases c1<;>simp[Op.eqFields]
    ·rw[cc]at h;obtain⟨c2,h1,rfl⟩:=h;have:=SC b2 h1 w;cases c1<;>simp[this]
   cases h
  cases h
theorem SD:∀{m:Nat} {t:TypeId} {x y:Value} {c:Bool},yl P m t x y=some c->∀(d:Nat) (w:World),(Op.equalIn (d+m) t x y).run P w=.ok c w
 | 0,_,_,_,_,h,_,_=>by cases h
 | m+1,t,x,y,c,h,d,w=>by
  rw[show d+(m+1)=(d+m)+1 from rfl];simp only[yl]at h;split at h
  ·rename_i a b e;simp only[aV]at h;subst h;exact run_equalIn_bool w _ t a b e
  ·rename_i cw k a bM b e;split at h
   ·rename_i hk;subst hk;simp only[aV]at h;subst h;exact run_equalIn_int w _ t k cw a b e
   cases h
  ·rename_i a b e;simp only[aV]at h;subst h;exact run_equalIn_string w _ t a b e
  ·rename_i eU xs ys e;split at h
   ·cases h
   rename_i ao;have Rg:P.fieldsOf t=eU:=by simp[Program.fieldsOf,e]
   rw[run_equalIn_struct w _ t xs ys (by rw[Rg];exact e) (by simpa using ao),Rg];exact SC (fun t x y c h w=>SD h d w) h w
  cases h
def Iv(P:Program)(op:BinOp)(t:TypeId)(u v:Value):Option Bool:=
 match op,u,v with
 | .eql,.agg xs,.agg ys=>if P.eqGuardType P.depth t then none else yl P 20 t (.agg xs) (.agg ys)
 | .neq,.agg xs,.agg ys=>if P.eqGuardType P.depth t then none else (yl P 20 t (.agg xs) (.agg ys)).map fun c=>!c
 | .eql,.bool a,.bool b=>match P.underlying t with | some .bool=>some (a==b) | _=>none
 | .neq,.bool a,.bool b=>match P.underlying t with | some .bool=>some (!(a==b)) | _=>none
 | .eql,.string a,.string b=>match P.underlying t with | some .string=>some (a.toList==b.toList) | _=>none
 | .neq,.string a,.string b=>match P.underlying t with | some .string=>some (!(a.toList==b.toList)) | _=>none
 | _,_,_=>none
theorem av1{x y:Operand}{u:Value}{c:Bool}(h:Iv P op t u v=some c):na P op t x y u v (.bool c):=by
 intro w;have fv:∀{x y:Value} {c:Bool},yl P 20 t x y=some c->(Op.equalIn 10000 t x y).run P w=.ok c w:=fun h=>SD h 9980 w
 unfold Iv at h;split at h
 ·rename_i xs ys;split at h
  ·cases h
  rename_i ay;simp[run_eqGuard_agg w .eql t x y xs ys (by simpa using ay),run_eql_struct,fv h]
 ·rename_i xs ys;split at h
  ·cases h
  rename_i ay;rw[cc]at h;obtain⟨kJ,h1,rfl⟩:=h;simp[run_eqGuard_agg w .neq t x y xs ys (by simpa using ay),run_neq_struct,fv h1]
 ·rename_i a b;split at h
  ·rename_i e;simp only[aV]at h;subst h;simp[eqGuard,binOp,run_equal_bool w t a b e]
  cases h
 ·rename_i a b;split at h
  ·rename_i e;simp only[aV]at h;subst h;simp[eqGuard,binOp,run_equal_bool w t a b e]
  cases h
 ·rename_i a b;split at h
  ·simp only[aV]at h;subst h;simp[eqGuard,binOp,Op.stringOp,beq_toListBytes]
  cases h
 ·rename_i a b;split at h
  ·simp only[aV]at h;subst h;simp[eqGuard,binOp,Op.stringOp,beq_toListBytes]
  cases h
 cases h
def KU(P:Program)(op:BinOp)(t:TypeId)(x y:Operand)(p q:aL)(ans:List cf):kG:=
 match p.int,q.int with
 | some (k,a),some (cw,b)=>
  match (if k=cw then KT op k a b ans else none) with
  | some r=>some r
  | none=>
   match ans with
   | .po (.aI (.one (.v c)))::r=>some (.one (.v c),r,[na P op t x y (.int k a) (.int cw b) c])
   | _=>none
 | _,_=>
  match (match p.value,q.value with | some u,some v=>Iv P op t u v | _,_=>none) with
  | some c=>some (.one (.bg c),ans,[])
  | none=>
  match p.value,q.value,ans with
  | some u,some v,.eq c::r=>some (.one (.bg c),r,[na P op t x y u v (.bool c)])
  | some u,some v,.po (.aI (.one (.v c)))::r=>some (.one (.v c),r,[na P op t x y u v c])
  | _,_,_=>none
theorem av2{x y:Operand}{q r:aL}{u:Value}
  (hp:cW (Sat w ω τ) p u) (aK:cW (Sat w ω τ) q v) (h:KU P op t x y p q ans=some (r,cq,obs)) (ba:cL obs):
  ∃z,((do eqGuard op t x y u v;binOp op t u v:Sem Value)).run P w=.ok z w/\cW (Sat w ω τ) r z:=by
 unfold KU at h;split at h
 ·rename_i k a cw b e1 e2;rw[aL.pa e1 hp,aL.pa e2 aK];split at h
  ·rename_i lm cg;simp only[aV]at h;subst h;split at cg
   ·rename_i hk;subst hk;exact av0 t x y cg ba
   cases cg
  split at h
  ·rename_i c lm _;simp only[aV,bH]at h;obtain⟨rfl,_,rfl⟩:=h;exact⟨_,ba.1 w,rfl⟩
  cases h
 split at h
 ·rename_i c bu;simp only[aV,bH]at h;obtain⟨rfl,_,_⟩:=h;split at bu
  ·rename_i uk nh e1 e2;rw[aL.Ab e1 hp,aL.Ab e2 aK];exact⟨_,av1 bu w,rfl⟩
  cases bu
 split at h
 ·rename_i uk nh c lm e1 e2;simp only[aV,bH]at h;obtain⟨rfl,_,rfl⟩:=h;rw[aL.Ab e1 hp,aL.Ab e2 aK];exact⟨_,ba.1 w,rfl⟩
 ·rename_i uk nh c lm e1 e2;simp only[aV,bH]at h;obtain⟨rfl,_,rfl⟩:=h;rw[aL.Ab e1 hp,aL.Ab e2 aK];exact⟨_,ba.1 w,rfl⟩
 cases h
end Go.Sx
namespace Go.Sx
open Go.RowKit
def Tag.GU:Tag->Tag
 | .free=>.free
 | .own t=>.ro t
 | .ro t=>.ro t
theorem Tag.OX{t:Tag}{q dJ:List (Nat×Nat)}{o:db}(h:t.R q o):t.GU.R dJ o:=by
 cases t with
 | free=>exact h
 | own s=>exact .inr ⟨q,h⟩
 | ro s=>exact h
variable{τ:Nat->Nat×Value}
theorem Tag.OY{t:Tag}{y:Nat×Value}:t.GU.ev τ y:=by cases t<;>exact trivial
def D.leaf(t:Tag):D->aH
 | .v (.bool c)=>.bg c
 | .v x=>.v x
 | .J k es=>.J t.GU k es
 | .ptr ds=>match t with | .free=>.iK ds 0 | _=>.cA
 | .cl g bx=>match t with | .free=>.fd (.cl g bx) | _=>.cA
variable{w:World}{ω:Own}
theorem D.dV{τ:Nat->Nat×Value}{t:Tag}{p:Nat×Nat}{d:D}{u:Value}(h:b0 w ω (fun q=>t.R (p::q)) d u):Sat w ω τ (d.leaf t) u:=by
 cases d with
 | v x=>
  have e:u=x:=by cases h;rfl
  subst e;unfold D.leaf;split
  ·rename_i h;cases h;exact rfl
  ·rename_i h;cases h;exact rfl
  ·rename_i h;cases h
  ·rename_i h;cases h
  rename_i h;cases h
 | J k es=>exact⟨h.frame fun b q av aK=>⟨Tag.OX aK,rfl⟩,Tag.OY⟩
 | ptr ds=>
  cases t with
  | free=>
   have U:b0 w ω Tag.free.R (.ptr ds) u:=h;have ax:=U;cases ax with
   | ptr R ds b arr ty c3 us av ej ao hu aG=>exact⟨b,rfl,U⟩
  | own s=>exact trivial
  | ro s=>exact trivial
 | cl g bx=>
  cases t with
  | free=>exact h
  | own s=>exact trivial
  | ro s=>exact trivial
def D.R7(t i j:Nat):D->aH
 | .J k es=>.aQ t i j k es .here
 | d=>d.leaf (.own t)
def vm(t i:Nat):Nat->List D->List aH
 | _,[]=>[]
 | j,d::ds=>d.R7 t i j::vm t i (j+1) ds
theorem SE(t i:Nat):∀(ds:List D) (j x:Nat),(vm t i j ds)[x]?=(ds[x]?).map (D.R7 t i (j+x))
 | [],_,_=>by simp[vm]
 | d::ds,j,0=>by simp[vm]
 | d::ds,j,x+1=>by
  simp only[vm,oL,SE t i ds (j+1) x];rw[show j+1+x=j+(x+1) by omega]
theorem SF(t i:Nat):∀(ds:List D) (j:Nat),(vm t i j ds).length=ds.length
 | [],_=>rfl
 | d::ds,j=>by simp[vm,SF t i ds (j+1)]
def KV(P:Program)(s:TypeId)(f:Nat):Option Nat:=
 match P.underlying s with
 | some (.struct eU)=>
  match eU[f]? with
  | some fd=>
   match P.info? fd.type with
   | some i=>if i.size=0 then none else some fd.offset
   | none=>none
  | none=>none
 | _=>none
theorem rr(b off n:Nat):(⟨b,off,none⟩:Addr).add n=⟨b,off+n,none⟩:=by
 unfold Addr.add;split
 ·rename_i h;simp[h]
 rfl
variable{P:Program}{off:Nat}
theorem EW{s:TypeId}{f:Nat}(h:KV P s f=some off)(w:World)(b o:Nat):
  (Instr.fieldAt s (.pointer (some ⟨b,o,none⟩)) f).run P w=.ok (.pointer (some ⟨b,o+off,none⟩)) w:=by
 unfold KV at h;split at h
 ·rename_i eU hu;split at h
  ·rename_i fd b2;split at h
   ·rename_i i hi;split at h
    ·cases h
    rename_i bi;simp only[aV]at h;subst h;simp[Instr.fieldAt,run_underlying hu,b2,Instr.sureAddr,fieldPlace,sizeOf,typeInfo,hi,bi,rr]
   cases h
  cases h
 cases h
def KW(P:Program)(s:TypeId)(p:aL)(f:Nat)(ans:List cf):kG:=
 match KV P s f,p.leaf with
 | some off,some (.ptr id o)=>some (.one (.ptr id (o+off)),ans,[])
 | some off,some (.cP t k es i j)=>some (.one (.cP t k es i (j+off)),ans,[])
 | some off,some (.iK ds o)=>some (.one (.iK ds (o+off)),ans,[])
 | some off,some (.aQ t i j k es (.at_ x y))=>some (.one (.aQ t i j k es (.at_ x (y+off))),ans,[])
 | _,_=>none
variable{p r:aL}{v:Value}{ans cq:List cf}{obs:List Prop}
theorem av4{s:TypeId}{f:Nat}
  (hp:cW (Sat w ω τ) p v) (h:KW P s p f ans=some (r,cq,obs)):
  ∃z,(Instr.fieldAt s v f).run P w=.ok z w/\cW (Sat w ω τ) r z:=by
 unfold KW at h;split at h
 ·rename_i off id o e1 e2;simp only[aV,bH]at h;obtain⟨rfl,_,rfl⟩:=h;obtain⟨b,av,rfl⟩:=aL.dV e2 hp;exact⟨_,EW e1 w b o,b,av,rfl⟩
 ·rename_i off t k es i j e1 e2;simp only[aV,bH]at h;obtain⟨rfl,_,rfl⟩:=h;obtain⟨b,o,cap,rfl,hi,aA,bJ⟩:=aL.dV e2 hp;exact⟨_,EW e1 w b _,b,o,cap,by rw[wc],hi,aA,bJ⟩
 ·rename_i off ds o e1 e2;simp only[aV,bH]at h;obtain⟨rfl,_,rfl⟩:=h;obtain⟨b,rfl,aA⟩:=aL.dV e2 hp;exact⟨_,EW e1 w b o,b,rfl,aA⟩
 ·rename_i off t i j k es x y e1 e2;simp only[aV,bH]at h;obtain⟨rfl,_,rfl⟩:=h;obtain⟨u,⟨b,o,cap,rfl,rfl,ah⟩,aA,hm⟩:=aL.dV e2 hp;exact⟨_,EW e1 w b _,_,⟨b,o,cap,rfl,by rw[wc],ah⟩,aA,fun _=>hm rfl⟩
 cases h
def ru(P:Program)(t:TypeId):Option (TypeId×Nat):=
 match P.underlying t with
 | some (.slice e)=>(P.info? e).map fun i=>(e,i.size)
 | _=>none
variable{t:TypeId}
theorem xd{e:TypeId}{k:Nat}(h:ru P t=some (e,k)):P.underlying t=some (.slice e)/\∃i,P.info? e=some i/\i.size=k:=by
 unfold ru at h;split at h
 ·rename_i e' hu;rw[cc]at h;obtain⟨i,hi,h⟩:=h;simp only[bH]at h;obtain⟨rfl,rfl⟩:=h;exact⟨hu,i,hi,rfl⟩
 cases h
def aH.flat:aH->aH
 | .dw _ k es=>.J .free k es
 | l=>l
def aL.lF(p:aL):Option aH:=p.leaf.map aH.flat
variable{y:Value}{l:aH}
theorem aL.wV(h:p.lF=some l)(ao:cW (Sat w ω τ) p y):Sat w ω τ l y:=by
 unfold aL.lF at h;rw[cc]at h;obtain⟨ea,bG,rfl⟩:=h;have:=aL.dV bG ao;unfold aH.flat;split
 ·exact⟨this.1,aa⟩
 exact this
def KX(P:Program)(t:TypeId)(p q:aL)(ans:List cf):kG:=
 match ru P t,p.lF,q.int with
 | some (_,k),some (.J tag cw es),some (_,n)=>if k=cw then some (.one (.cP tag cw es n.toNat 0),ans,[0<=n,n<(es.length:Int)]) else none
 | some (_,k),some (.aQ s i j cw es .here),some (_,n)=>if k=cw then some (.one (.aQ s i j cw es (.at_ n.toNat 0)),ans,[0<=n,n<(es.length:Int)]) else none
 | _,_,_=>none
theorem av5{q:aL}{u:Value}
  (hp:cW (Sat w ω τ) p u) (aK:cW (Sat w ω τ) q v) (h:KX P t p q ans=some (r,cq,obs)) (ba:cL obs):
  ∃z,(Instr.indexAt t u v).run P w=.ok z w/\cW (Sat w ω τ) r z:=by
 unfold KX at h;split at h
 ·rename_i e k tag cw es By n e1 e2 cg;split at h
  ·rename_i hk;subst hk;simp only[aV,bH]at h;obtain⟨rfl,_,rfl⟩:=h;obtain⟨hu,i,hi,bi⟩:=xd e1;obtain⟨aA,bJ⟩:=aL.wV e2 hp;rw[aL.pa cg aK];have bG:0<=n:=ba.1;have h1:n<(es.length:Int):=ba.2.1;cases aA with
   | nil=>simp at h1;omega
   | row R k es b off cap arr ty c3 us av ej aj ao hk kr aG=>
    refine⟨.pointer (some ⟨b,off+n.toNat*k+0,none⟩),?_,b,off,cap,rfl,by omega,.row _ k es b off cap arr ty c3 us av ej aj ao hk kr aG,bJ⟩;simp[Instr.indexAt,run_underlying hu,asIntOf,bG,h1,sizeOf,typeInfo,hi,bi,rr]
  cases h
 ·rename_i e k s CW CX cw es By n e1 e2 cg;split at h
  ·rename_i hk;subst hk;simp only[aV,bH]at h;obtain⟨rfl,_,rfl⟩:=h;obtain⟨hu,i,hi,bi⟩:=xd e1;obtain⟨fW,rfl,aA,hm⟩:=aL.wV e2 hp;rw[aL.pa cg aK];have bG:0<=n:=ba.1;have h1:n<(es.length:Int):=ba.2.1;cases aA with
   | nil=>simp at h1;omega
   | row R k es b off cap arr ty c3 us av ej aj ao hk kr aG=>
    refine⟨.pointer (some ⟨b,off+n.toNat*k+0,none⟩),?_,_,⟨b,off,cap,rfl,rfl,by omega⟩,.row _ k es b off cap arr ty c3 us av ej aj ao hk kr aG,hm⟩;simp[Instr.indexAt,run_underlying hu,asIntOf,bG,h1,sizeOf,typeInfo,hi,bi,rr]
  cases h
 cases h
theorem av6{P:Program}{b n:Nat}{arr:Array Value}{ty:TypeId}{c3:Nat×Nat}(av:w.heap[b]?=some (.cells arr ty c3))(aX:off+n<=arr.size):
  (loadCells ⟨b,off,none⟩ n).run P w=.ok (arr.extract off (off+n)) w:=by
 have ap:((arr.extract off (off+n)).toList).length=n:=by simp;omega
 have:=run_loadCells_list (P:=P) w ⟨b,off,none⟩ (arr.extract off (off+n)).toList (fun j v bp=>by
  rw[rr,cell_of_row w b (off+j) arr ty c3 av];rw[iO,Array.getElem?_extract]at bp;split at bp
  ·exact bp
  cases bp)
 rw[ap,Array.toArray_toList]at this;exact this
def sl(agg:Bool)(n:Nat)(ls:List aH)(off:Nat):Option aL:=
 if agg then (if off+n<=ls.length then some (.agg ((ls.drop off).take n)) else none)
 else (ls[off]?).map fun l=>.one l
theorem y4{P:Program}{ω:Own}{τ:Nat->Nat×Value}{agg:Bool}{i:TypeInfo}{ls:List aH}(ak:xc P t=some agg)(hi:P.info? t=some i)
  (h:sl agg i.size ls off=some p) {b base:Nat} {arr:Array Value} {ty:TypeId} {c3:Nat×Nat} (av:w.heap[b]?=some (.cells arr ty c3)) (c':base+ls.length<=arr.size)
  (ao:∀(j:Nat) (l:aH),ls[j]?=some l->∃u,arr[base+j]?=some u/\Sat w ω τ l u):
  ∃z,(loadVar t ⟨b,base+off,none⟩).run P w=.ok z w/\cW (Sat w ω τ) p z:=by
 unfold sl at h;cases agg with
 | true=>
  simp only[fX]at h;split at h
  ·rename_i hle;simp only[aV]at h;subst h;refine⟨.agg (arr.extract (base+off) (base+off+i.size)),?_,?_⟩
   ·simp[loadVar,zw ak,sizeOf,typeInfo,hi,av6 (P:=P) av (show base+off+i.size<=arr.size by omega)]
   refine⟨_,rfl,by simp;omega,fun j l ap=>?_⟩;rw[gI]at ap;split at ap
   ·rw[gH]at ap;obtain⟨u,h1,U⟩:=ao _ l ap;refine⟨u,?_,U⟩;rw[Array.getElem?_extract,bm (by omega),<-h1]
    congr 1
    omega
   cases ap
  cases h
 | false=>
  simp only[nY,lP,cc]at h;obtain⟨l,ap,rfl⟩:=h;obtain⟨u,h1,U⟩:=ao _ l ap;refine⟨u,?_,U⟩;simp[loadVar,zw ak,cell_of_row w b (base+off) arr ty c3 av,h1]
def EX(P:Program)(st:aJ)(t:TypeId)(p:aL)(ans:List cf):kG:=
 match xc P t,P.info? t,p.leaf with
 | some agg,some i,some (.ptr id off)=>
  match dM id st.boxes with
  | some ls=>(sl agg i.size ls off).map fun r=>(r,ans,[])
  | none=>none
 | some agg,some i,some (.cP tag k es x j)=>
  match ans with
  | .el ds::r=>if ds.length=k then (sl agg i.size (ds.map (D.leaf tag)) j).map fun v=>(v,r,[es[x]?=some ds]) else none
  | .sub::.el ds::r=>
   match tag with
   | .own t=>if ds.length=k then (sl agg i.size (vm t x 0 ds) j).map fun v=>(v,r,[es[x]?=some ds]) else none
   | _=>none
  | _=>none
 | some agg,some i,some (.iK ds off)=>(sl agg i.size (ds.map (D.leaf .free)) off).map fun r=>(r,ans,[])
 | some agg,some i,some (.aQ s _ _ k es (.at_ x y))=>
  match ans with
  | .el ds::r=>if ds.length=k then (sl agg i.size (ds.map (D.leaf (.ro s))) y).map fun v=>(v,r,[es[x]?=some ds]) else none
  | _=>none
 | _,_,_=>none
variable{w0:eT}{a:Act}{st:aJ}
theorem av7
  (a8:cJ w0 st a w ω τ) (hp:cW (Sat w ω τ) p v) (h:EX P st t p ans=some (r,cq,obs)) (ba:cL obs):
  ∃z,(Instr.loadAt t v).run P w=.ok z w/\cW (Sat w ω τ) r z:=by
 unfold EX at h;split at h
 ·rename_i agg i id off e1 e2 cg;split at h
  ·rename_i ls cy;rw[cc]at h;obtain⟨lm,h1,h⟩:=h;simp only[bH]at h;obtain⟨rfl,rfl,rfl⟩:=h;obtain⟨b,av,rfl⟩:=aL.dV cg hp;obtain⟨dc,arr,ty,dL,Bm,Jg,c',e3⟩:=a8.boxes id ls cy;have:=Bm b av;subst this;have:=y4 (P:=P) e1 e2 h1 Jg (base:=0) (by omega) (fun j l ap=>by simpa using e3 j l ap);simpa[Instr.loadAt,Instr.sureAddr]using this
  cases h
 ·rename_i agg i tag k es x j e1 e2 cg;split at h
  ·rename_i ds ih;split at h
   ·rename_i hlen;rw[cc]at h;obtain⟨lm,h1,h⟩:=h;simp only[bH]at h;obtain⟨rfl,rfl,rfl⟩:=h;have eR:es[x]?=some ds:=ba.1;obtain⟨b,off,cap,rfl,hi,aA,bJ⟩:=aL.dV cg hp;cases aA with
    | nil=>simp at hi
    | row R k es b off cap arr ty c3 us av ej aj ao hk hu aG=>
     have Rr:x*k+k<=cap*k:=by
      have:(x+1)*k<=cap*k:=hF k (by omega);rw[gg]at this;omega
     have:=y4 (P:=P) (τ:=τ) (ω:=ω) e1 e2 h1 av (base:=off+x*k) (by simp[hlen];omega) (fun jH l ap=>by
      rw[dq,cc]at ap;obtain⟨d,U,rfl⟩:=ap;have aj:df es x jH=some d:=by simp[df,eR,U]
      exact⟨us x jH,hu x jH d aj,D.dV (aG x jH d aj)⟩)
     simpa[Instr.loadAt,Instr.sureAddr]using this
   cases h
  ·rename_i ds ih;split at h
   ·rename_i t;split at h
    ·rename_i hlen;rw[cc]at h;obtain⟨lm,h1,h⟩:=h;simp only[bH]at h;obtain⟨rfl,rfl,rfl⟩:=h;have eR:es[x]?=some ds:=ba.1;obtain⟨b,off,cap,rfl,hi,aA,bJ⟩:=aL.dV cg hp;cases aA with
     | nil=>simp at hi
     | row R k es b off cap arr ty c3 us av ej aj ao hk hu aG=>
      have Rr:x*k+k<=cap*k:=by
       have:(x+1)*k<=cap*k:=hF k (by omega);rw[gg]at this;omega
      have:=y4 (P:=P) (τ:=τ) (ω:=ω) e1 e2 h1 av (base:=off+x*k) (by simp[SF,hlen];omega) (fun jH l ap=>by
       rw[SE,cc]at ap;obtain⟨d,U,rfl⟩:=ap;rw[dF];have aj:df es x jH=some d:=by simp[df,eR,U]
       have Eg:=aG x jH d aj;refine⟨us x jH,hu x jH d aj,?_⟩;cases d with
       | J bM bV=>exact⟨_,rfl,Eg,fun _=>⟨k,b,off,es.length,cap,arr,ty,c3,bJ,ej,av,hu x jH _ aj⟩⟩
       | v z=>exact D.dV (t:=.own t) (p:=(x,jH)) Eg
       | ptr ds=>exact D.dV (t:=.own t) (p:=(x,jH)) Eg
       | cl g cs=>exact D.dV (t:=.own t) (p:=(x,jH)) Eg)
      simpa[Instr.loadAt,Instr.sureAddr]using this
    cases h
   cases h
  cases h
 ·rename_i agg i ds off e1 e2 cg;rw[cc]at h;obtain⟨lm,h1,h⟩:=h;simp only[bH]at h;obtain⟨rfl,rfl,rfl⟩:=h;obtain⟨b,rfl,aA⟩:=aL.dV cg hp;have ep:b0 w ω Tag.free.R (.ptr ds) (.pointer (some ⟨b,0,none⟩)):=aA;cases ep with
  | ptr R ds b arr ty c3 us av ej ao hu aG=>
   have:=y4 (P:=P) (τ:=τ) (ω:=ω) e1 e2 h1 av (base:=0) (by simp;omega) (fun jH l ap=>by
    rw[dq,cc]at ap;obtain⟨d,U,rfl⟩:=ap;exact⟨us jH,by simpa using hu jH d U,D.dV (p:=(0,jH)) (aG jH d U)⟩)
   simpa[Instr.loadAt,Instr.sureAddr]using this
 ·rename_i agg i s CW CX k es x y e1 e2 cg;split at h
  ·rename_i ds ih;split at h
   ·rename_i hlen;rw[cc]at h;obtain⟨lm,h1,h⟩:=h;simp only[bH]at h;obtain⟨rfl,rfl,rfl⟩:=h;have eR:es[x]?=some ds:=ba.1;obtain⟨fW,⟨b,off,cap,rfl,rfl,hi⟩,aA,hm⟩:=aL.dV cg hp;cases aA with
    | nil=>simp at hi
    | row R k es b off cap arr ty c3 us av ej aj ao hk hu aG=>
     have Rr:x*k+k<=cap*k:=by
      have:(x+1)*k<=cap*k:=hF k (by omega);rw[gg]at this;omega
     have:=y4 (P:=P) (τ:=τ) (ω:=ω) e1 e2 h1 av (base:=off+x*k) (by simp[hlen];omega) (fun jH l ap=>by
      rw[dq,cc]at ap;obtain⟨d,U,rfl⟩:=ap;have aj:df es x jH=some d:=by simp[df,eR,U]
      refine⟨us x jH,hu x jH d aj,D.dV (t:=.ro s) (p:=(x,jH)) ((aG x jH d aj).frame fun b q _ aK=>⟨.inr ⟨_,aK⟩,rfl⟩)⟩)
     simpa[Instr.loadAt,Instr.sureAddr]using this
   cases h
  cases h
 cases h
def KY(P:Program)(t:TypeId)(p:aL)(ans:List cf):kG:=
 match P.underlying t,p.lF with
 | some (.slice _),some (.J _ _ es)=>some (.one (.v (.int .i64 es.length)),ans,[])
 | some (.slice _),some (.v (.slice _ n _))=>some (.one (.v (.int .i64 n)),ans,[])
 | some (.slice _),some (.aQ _ _ _ _ es .here)=>some (.one (.v (.int .i64 es.length)),ans,[])
 | some (.slice _),some (.aQ _ _ _ _ es .mD)=>some (.one (.v (.int .i64 es.length)),ans,[])
 | some .string,some (.v (.string s))=>some (.one (.v (.int .i64 s.size)),ans,[])
 | _,_=>none
theorem b0.len{R:List (Nat×Nat)->db->Prop}{k:Nat}{es:List (List D)}(h:b0 w ω R (.J k es) y):∃b c,y=.slice b es.length c:=by
 cases h with
 | nil=>exact⟨_,_,rfl⟩
 | row R k es b off cap arr ty c3 us av ej aj ao hk hu aG=>exact⟨_,_,rfl⟩
theorem av8{ty:TypeId}
  (hp:cW (Sat w ω τ) p v) (h:KY P t p ans=some (r,cq,obs)):
  ∃z,(Builtin.len_ #[t] ty #[v]).run P w=.ok z w/\cW (Sat w ω τ) r z:=by
 unfold KY at h;split at h
 ·rename_i e G0 k es e1 e2;simp only[aV,bH]at h;obtain⟨rfl,_,rfl⟩:=h;obtain⟨aA,_⟩:=aL.wV e2 hp;obtain⟨b,c,rfl⟩:=aA.len;exact⟨_,by simp[Builtin.len_,run_underlying e1];rfl,rfl⟩
 ·rename_i e b n c e1 e2;simp only[aV,bH]at h;obtain⟨rfl,_,rfl⟩:=h;have:v=.slice b n c:=aL.wV e2 hp;subst this;exact⟨_,by simp[Builtin.len_,run_underlying e1];rfl,rfl⟩
 ·rename_i e s CW CX k es e1 e2;simp only[aV,bH]at h;obtain⟨rfl,_,rfl⟩:=h;obtain⟨fW,rfl,aA,_⟩:=aL.wV e2 hp;obtain⟨b,c,rfl⟩:=aA.len;exact⟨_,by simp[Builtin.len_,run_underlying e1];rfl,rfl⟩
 ·rename_i e s CW CX k es e1 e2;simp only[aV,bH]at h;obtain⟨rfl,_,rfl⟩:=h;obtain⟨fW,rfl,aA,_⟩:=aL.wV e2 hp;obtain⟨b,c,rfl⟩:=aA.len;exact⟨_,by simp[Builtin.len_,run_underlying e1];rfl,rfl⟩
 ·rename_i s e1 e2;simp only[aV,bH]at h;obtain⟨rfl,_,rfl⟩:=h;have:v=.string s:=aL.wV e2 hp;subst this;exact⟨_,by simp[Builtin.len_,run_underlying e1];rfl,rfl⟩
 cases h
theorem SG{es:List (List D)}{l n i j:Nat}{d:D}(h:df ((es.drop l).take n) i j=some d):i<n/\df es (l+i) j=some d:=by
 unfold df at h ⊢;rw[gI]at h;split at h
 ·rw[gH]at h;exact⟨by omega,h⟩
 simp at h
theorem b0.sub{R jm:List (Nat×Nat)->db->Prop}{k:Nat}{es:List (List D)}{b cap:Nat}(h:b0 w ω R (.J k es) (.slice (some ⟨b,off,none⟩) es.length cap))
  {l m:Nat} (ap:l<=m) (hm:m<=es.length) (D':∀o,R [] o->jm [] o) (abt:∀i j q o,l<=i->R ((i,j)::q) o->jm ((i-l,j)::q) o):
  b0 w ω jm (.J k ((es.drop l).take (m-l))) (sliced (some ⟨b,off,none⟩) l m cap k):=by
 cases h with
 | nil=>
  have e1:l=0:=by simp at hm;omega
  have e2:m=0:=by simp at hm;omega
  subst e1 e2;simpa[sliced]using b0.nil jm k _
 | row R k es b off cap arr ty c3 us av ej aj ao hk hu aG=>
  have hlen:((es.drop l).take (m-l)).length=m-l:=by simp;omega
  have hmul:l*k+(cap-l)*k=cap*k:=by rw[<-gg];congr 1;omega
  have key:∀pj:Nat,(cap=l\/pj=off+l*k)->pj+(cap-l)*k<=arr.size->
    b0 w ω jm (.J k ((es.drop l).take (m-l))) (.slice (some ⟨b,pj,none⟩) (m-l) (cap-l)):=by
   intro pj ba c';have bi:cap=l->m-l=0:=fun e=>by omega
   have aA:=b0.row (w:=w) (ω:=ω) jm k ((es.drop l).take (m-l)) b pj (cap-l) arr ty c3 (fun i j=>us (l+i) j) av (D' _ ej) (by omega) c'
    (fun e he=>hk e (rP (qx he)))
    (fun i j d qN=>by
     obtain⟨hi,I3⟩:=SG qN;rcases ba with ba | rfl
     ·have:=bi ba;omega
     rw[<-hu (l+i) j d I3]
     congr 1
     rw[gg];omega)
    (fun i j d qN=>by
     obtain⟨hi,I3⟩:=SG qN;refine (aG (l+i) j d I3).frame fun b q _ aK=>⟨?_,rfl⟩
     have:=abt _ _ _ _ (Nat.le_add_right l i) aK;rwa[show l+i-l=i by omega]at this)
   rw[hlen]at aA;exact aA
  unfold sliced;split
  ·rename_i nE;exact key off (.inl nE) (by have:cap-l=0:=(by omega);rw[this];simp;omega)
  simp only[mz,rr];exact key _ (.inr rfl) (by omega)
def aH.view:aH->aH
 | .aQ t _ _ k es .here=>.J (.ro t) k es
 | .aQ t _ _ k es .mD=>.J (.ro t) k es
 | .dw _ k es=>.J .free k es
 | l=>l
theorem aH.O1(ao:Sat w ω τ l y):Sat w ω τ l.view y:=by
 unfold aH.view;split
 ·obtain⟨fW,rfl,aA,_⟩:=ao;exact⟨aA.frame fun b q _ aK=>⟨.inr ⟨_,aK⟩,rfl⟩,aa⟩
 ·obtain⟨fW,rfl,aA,_⟩:=ao;exact⟨aA.frame fun b q _ aK=>⟨.inr ⟨_,aK⟩,rfl⟩,aa⟩
 ·exact⟨ao.1,aa⟩
 exact ao
theorem aL.O1(h:p.leaf.map aH.view=some l)(ao:cW (Sat w ω τ) p y):Sat w ω τ l y:=by
 rw[cc]at h;obtain⟨ea,bG,rfl⟩:=h;exact aH.O1 (aL.dV bG ao)
def nc(st:aJ):Option Operand->Option (Option Int)
 | none=>some none
 | some x=>((st.br x).int).map fun p=>some p.2
def EY(P:Program)(st:aJ)(t:TypeId)(p:aL)(de hi jI:Option Operand)(ans:List cf):kG:=
 match ru P t,p.leaf.map aH.view,jI with
 | some (_,k),some (.J tag cw es),none=>
  if k=cw then
   match nc st de,nc st hi with
   | some l,some h=>some (.one (.J tag.GU k ((es.drop (l.getD 0).toNat).take ((h.getD es.length).toNat-(l.getD 0).toNat))),ans,[0<=l.getD 0,l.getD 0<=h.getD es.length,h.getD es.length<=es.length])
   | _,_=>none
  else none
 | _,_,_=>none
theorem BU{len cap:Nat}{de hi:Option Value}{l h:Int}(ap:de=none/\l=0\/∃k,de=some (.int k l))(bJ:hi=none/\h=len\/∃k,hi=some (.int k h))
  (bG:0<=l) (h1:l<=h) (U:h<=cap):(Instr.sliceBounds true len cap de hi none).run P w=.ok (l.toNat,h.toNat,cap) w:=by
 have aCr:(h.toNat:Int)=h:=Int.toNat_of_nonneg (by omega);have ax:0<=h:=by omega
 rcases ap with⟨rfl,rfl⟩ | ⟨k,rfl⟩<;>rcases bJ with⟨rfl,rfl⟩ | ⟨cw,rfl⟩<;>
  simp_all[Instr.sliceBounds,run_sliceBound]
theorem BV(a8:cJ w0 st a w ω τ){x:Option Operand}{r:Option Int}(h:nc st x=some r):
  (x.map a.eval=none/\r=none)\/∃k n,x.map a.eval=some (.int k n)/\r=some n:=by
 cases x with
 | none=>simp[nc]at h;exact .inl ⟨rfl,h.symm⟩
 | some x=>
  simp only[nc,cc]at h;obtain⟨⟨k,n⟩,h1,U⟩:=h;exact .inr ⟨k,n,by simp[aL.pa h1 (a8.br x)],U.symm⟩
theorem av9{de hi jI:Option Operand}
  (a8:cJ w0 st a w ω τ) (hp:cW (Sat w ω τ) p v) (h:EY P st t p de hi jI ans=some (r,cq,obs)) (ba:cL obs):
  ∃z,(Instr.sliceAt t v (de.map a.eval) (hi.map a.eval) (jI.map a.eval)).run P w=.ok z w/\cW (Sat w ω τ) r z:=by
 unfold EY at h;split at h
 ·rename_i e k tag cw es e1 e2;split at h
  ·rename_i hk;subst hk;split at h
   ·rename_i l bJ cg eo;simp only[aV,bH]at h;obtain⟨rfl,_,rfl⟩:=h;obtain⟨hu,i,lb,bi⟩:=xd e1;obtain⟨aA,_⟩:=aL.O1 e2 hp;obtain⟨ci,b6,ct,_⟩:=ba;have ax:=BV a8 cg;have aF:=BV a8 eo;have qW:(de.map a.eval=none/\l.getD 0=0)\/∃k,de.map a.eval=some (.int k (l.getD 0)):=by
     rcases ax with⟨h,rfl⟩ | ⟨k,n,h,rfl⟩
     ·exact .inl ⟨h,rfl⟩
     exact .inr ⟨k,h⟩
    have r7:(hi.map a.eval=none/\bJ.getD es.length=es.length)\/∃k,hi.map a.eval=some (.int k (bJ.getD es.length)):=by
     rcases aF with⟨h,rfl⟩ | ⟨k,n,h,rfl⟩
     ·exact .inl ⟨h,rfl⟩
     exact .inr ⟨k,h⟩
    cases aA with
    | nil _ _ a0=>
     simp only[b7] at*;have bu:l.getD 0=0:=by omega
     have Iq:bJ.getD ((0:Nat):Int)=0:=by omega
     refine⟨.slice a0 0 0,?_,?_⟩
     ·simp only[Instr.sliceAt,Sem.run_bind,run_underlying hu,Result.andThen_ok,Instr.slice,Option.map_none];rw[BU qW r7 ci b6 ct];have Ir:bJ.getD 0=0:=by simpa using Iq
      simp[sizeOf,typeInfo,lb,bu,Ir]
     refine⟨?_,Tag.OY⟩;simp only[List.drop_nil,List.take_nil];exact .nil _ _ _
    | row R k es b off cap arr ty c3 us av ej aj ao hk kr aG=>
     refine⟨sliced (some ⟨b,off,none⟩) (l.getD 0).toNat (bJ.getD es.length).toNat cap k,?_,?_,Tag.OY⟩
     ·simp only[Instr.sliceAt,Sem.run_bind,run_underlying hu,Result.andThen_ok,Instr.slice,Option.map_none];rw[BU qW r7 ci b6 (by omega)];simp[sizeOf,typeInfo,lb,bi,sliced]
     exact b0.sub (.row _ k es b off cap arr ty c3 us av ej aj ao hk kr aG) (by omega) (by omega) (fun o h=>Tag.OX h) (fun i j q o _ h=>Tag.OX h)
   cases h
  cases h
 cases h
end Go.Sx
namespace Go.Sx
open Go.RowKit
def aH.ok:aH->Bool
 | .cA=>false
 | .v x=>x.oneCell'
 | _=>true
variable{w:World}{ω:Own}{y:Value}
theorem b0.qa{R:List (Nat×Nat)->db->Prop}{d:D}(h:b0 w ω R d y):y.oneCell'=true:=by
 cases h with
 | v R x h1=>exact h1
 | nil=>rfl
 | row=>rfl
 | ptr=>rfl
 | cl=>rfl
variable{τ:Nat->Nat×Value}
theorem aH.Sh{l:aH}(h:l.ok=true)(ao:Sat w ω τ l y):y.oneCell'=true:=by
 cases l with
 | cA=>cases h
 | v x=>have:y=x:=ao;subst this;exact h
 | bg c=>have:y=.bool c:=ao;subst this;rfl
 | J t k es=>exact ao.1.qa
 | ptr id off=>obtain⟨b,_,rfl⟩:=ao;rfl
 | cP t k es i j=>obtain⟨b,off,cap,rfl,_⟩:=ao;rfl
 | iK ds off=>obtain⟨b,rfl,_⟩:=ao;rfl
 | fd d=>exact b0.qa ao
 | dw t k es=>exact ao.1.qa
 | hv g ids=>obtain⟨bs,rfl,_⟩:=ao;rfl
 | aQ t i j k es m=>
  obtain⟨u,hu,aA,_⟩:=ao;cases m with
  | at_ x y=>obtain⟨b,off,cap,_,rfl,_⟩:=hu;rfl
  | here=>have:y=u:=hu;subst this;exact aA.qa
  | mD=>have:y=u:=hu;subst this;exact aA.qa
 | fN t vs=>obtain⟨b,ty,arr,rfl,_⟩:=ao;rfl
theorem BW(h:y.oneCell'=true):y.cells=#[y]:=by
 cases y<;>first | rfl | (simp[Value.oneCell']at h)
def aL.leaves:aL->Option (List aH)
 | .aI (.one l)=>if l.ok then some [l] else none
 | .aI (.agg ls)=>if ls.all aH.ok then some ls else none
 | _=>none
variable{p:aL}{ls:List aH}
theorem aL.yQ(h:p.leaves=some ls)(ao:cW (Sat w ω τ) p y):
  k9 (Sat w ω τ) ls y.cells/\∀u∈y.cells.toList,u.oneCell'=true:=by
 unfold aL.leaves at h;split at h
 ·rename_i l;split at h
  ·rename_i cF;simp only[aV]at h;subst h;have h1:=aH.Sh cF ao;rw[BW h1];refine⟨⟨rfl,fun i hz ap=>?_⟩,by simpa using h1⟩;cases i with
   | zero=>simp at ap;subst ap;exact⟨y,rfl,ao⟩
   | succ i=>simp at ap
  cases h
 ·rename_i fz;split at h
  ·rename_i cF;simp only[aV]at h;subst h;obtain⟨vs,rfl,aX,bp⟩:=ao;refine⟨⟨aX,bp⟩,fun u hu=>?_⟩;obtain⟨i,hi⟩:=nj.1 hu;have bz:i<fz.length:=by
    have:=(ek.1 hi).1;simp[Value.cells]at this;omega
   obtain⟨uk,h1,U⟩:=bp i fz[i] (by simp);have e:u=uk:=by
    have:(Value.agg vs).cells.toList[i]?=vs[i]?:=by simp[Value.cells]
    rw[this,h1]at hi;exact (eW hi).symm
   subst e;exact aH.Sh (gx.1 cF _ (nn bz)) U
  cases h
 cases h
theorem SH(off:Nat):∀(vs:List Value) (k:Nat) (cells:Array Value) (i:Nat),off+k+vs.length<=cells.size->
  ((vs.zipIdx k).foldl (fun cs (x:Value×Nat)=>cs.setIfInBounds (off+x.2) x.1) cells)[i]?=if off+k<=i/\i<off+k+vs.length then vs[i-(off+k)]? else cells[i]?
 | [],k,cells,i,_=>by simp;intro h1 U;omega
 | v::vs,k,cells,i,h=>by
  simp only[List.zipIdx_cons,List.foldl_cons,eh]at h ⊢;rw[SH off vs (k+1) _ i (by simp;omega),Array.getElem?_setIfInBounds];by_cases h1:off+k=i
  ·subst h1;rw[bk (by omega),bm rfl,bm (by omega),bm (by omega)];simp
  by_cases U:off+(k+1)<=i/\i<off+(k+1)+vs.length
  ·rw[bm U,bm (by omega)];obtain⟨j,a1⟩:∃j,i-(off+k)=j+1:=⟨i-(off+k)-1,by omega⟩
   rw[a1,oL]
   congr 1
   omega
  rw[bk U,bk h1,bk (by omega)]
theorem SI(off:Nat):∀(l:List (Value×Nat)) (cells:Array Value),(l.foldl (fun cs (x:Value×Nat)=>cs.setIfInBounds (off+x.2) x.1) cells).size=cells.size
 | [],_=>rfl
 | x::l,cells=>by simp only[List.foldl_cons];rw[SI off l];simp
def uA(ls:List aH)(off:Nat)(xs:List aH):List aH:=ls.take off++(xs++ls.drop (off+xs.length))
variable{off:Nat}
theorem SJ{xs:List aH}{i:Nat}(h:off+xs.length<=ls.length):(uA ls off xs)[i]?=if off<=i/\i<off+xs.length then xs[i-off]? else ls[i]?:=by
 unfold uA;rw[l8,ma,Nat.min_eq_left (by omega)];by_cases h1:i<off
 ·rw[bm h1,bk (by omega),gI,bm h1]
 rw[bk h1,l8];by_cases U:i-off<xs.length
 ·rw[bm U,bm (by omega)]
 rw[bk U,bk (by omega),gH]
 congr 1
 omega
theorem KZ{xs:List aH}(h:off+xs.length<=ls.length):(uA ls off xs).length=ls.length:=by
 simp[uA];omega
def rY(place:Nat->Option (Nat×Nat))(ls:List aH):List (Nat×aL)->Option (List aH)
 | []=>some ls
 | (i,p)::rest=>
  match place i,p.leaves with
  | some (off,size),some xs=>if xs.length=size/\off+size<=ls.length then rY place (uA ls off xs) rest else none
  | _,_=>none
theorem K0{place:Nat->Option (Nat×Nat)}:∀{parts:List (Nat×aL)} {vals:List (Nat×Value)} {ls r:List aH} {cells:Array Value},
  parts.length=vals.length->(∀(j:Nat) i p,parts[j]?=some (i,p)->∃v,vals[j]?=some (i,v)/\cW (Sat w ω τ) p v)->rY place ls parts=some r->k9 (Sat w ω τ) ls cells->
  ∃out,Instr.fill place cells vals=some out/\k9 (Sat w ω τ) r out
 | [],vals,ls,r,cells,aX,_,h,ao=>by
  have:vals=[]:=sV (by simpa using aX.symm);subst this;simp only[rY,aV]at h;subst h;exact⟨cells,rfl,ao⟩
 | (i,p)::parts,vals,ls,r,cells,aX,hp,h,ao=>by
  obtain⟨v,bp,e3⟩:=hp 0 i p rfl;cases vals with
  | nil=>simp at bp
  | cons x vals=>
   simp only[kh,aV]at bp;subst bp;simp only[rY]at h;split at h
   ·rename_i off size xs e1 e2;split at h
    ·rename_i aj;obtain⟨lS,ly⟩:=aj;obtain⟨⟨c',sa⟩,_⟩:=aL.yQ e2 e3;have yK:v.cells.size=size:=by omega
     have pX:off+v.cells.size<=cells.size:=by have:=ao.1;omega
     have gL:k9 (Sat w ω τ) (uA ls off xs) (v.cells.zipIdx.foldl (fun cs (c,j)=>cs.setIfInBounds (off+j) c) cells):=by
      have e:v.cells.zipIdx.foldl (fun cs (c,j)=>cs.setIfInBounds (off+j) c) cells=(v.cells.toList.zipIdx 0).foldl (fun cs (x:Value×Nat)=>cs.setIfInBounds (off+x.2) x.1) cells:=by
       rw[<-Array.foldl_toList];simp
      rw[e];refine⟨by rw[SI,KZ (by omega)];exact ao.1,fun j l ap=>?_⟩;rw[SJ (by omega)]at ap;rw[SH off _ 0 _ _ (by simp;omega)];simp only[v8,np];by_cases a1:off<=j/\j<off+xs.length
      ·rw[bm a1]at ap;rw[bm (by omega)];obtain⟨u,h1,U⟩:=sa _ _ ap;exact⟨u,by simpa using h1,U⟩
      rw[bk a1]at ap;rw[bk (by omega)];exact ao.2 _ _ ap
     obtain⟨out,h1,U⟩:=K0 (parts:=parts) (vals:=vals) (by simpa using aX) (fun j fy re a1=>by have:=hp (j+1) fy re (by simpa using a1);simpa using this) h gL;refine⟨out,?_,U⟩;simp only[Instr.fill,e1];rw[bk (by simp;omega)];exact h1
    cases h
   cases h
def K1(P:Program)(t:TypeId)(f:Nat):Option (Nat×Nat):=
 match P.underlying t with
 | some (.struct eU)=>
  match eU[f]? with
  | some fd=>(P.info? fd.type).map fun i=>(fd.offset,i.size)
  | none=>none
 | _=>none
def EZ(P:Program)(st:aJ)(t:TypeId)(parts:List (Nat×Operand))(ans:List cf):kG:=
 match P.underlying t,P.info? t with
 | some (.struct eU),some i=>
  match i.zero with
  | some z=>
   if eU.toList.all fun f=>(P.info? f.type).isSome then
    (rY (K1 P t) (z.cells.toList.map .v) (parts.map fun x=>(x.1,st.br x.2))).map fun ls=>(.agg ls,ans,[])
   else none
  | none=>none
 | _,_=>none
theorem SK{P:Program}(w:World):∀(eU:List Field),(∀f∈eU,(P.info? f.type).isSome=true)->
  (eU.mapM fun f=>(do pure (f.offset,<-sizeOf f.type):Sem (Nat×Nat))).run P w=.ok (eU.map fun f=>(f.offset,((P.info? f.type).map (·.size)).getD 0)) w
 | [],_=>by simp
 | f::eU,h=>by
  obtain⟨i,hi⟩:=qt.1 (h f (by simp));have ee:=SK (P:=P) w eU (fun g ay=>h g (by simp[ay]));simp only[yb,Sem.run_bind,sizeOf,typeInfo,run_program,Result.andThen_ok,hi,Sem.run_pure,l',mz,il];simp only[Sem.run_bind,sizeOf,typeInfo,Sem.run_pure]at ee;rw[ee];simp
theorem E0{P:Program}{α β:Type}(f:α->Sem β)(xs:Array α)(w:World)(r:List β)(h:(xs.toList.mapM f).run P w=.ok r w):(xs.mapM f).run P w=.ok r.toArray w:=by
 rw[<-Array.toArray_toList (xs:=xs),List.mapM_toArray];rw[<-bind_pure_comp,Sem.run_bind,h];rfl
variable{P:Program}{w0:eT}{a:Act}{st:aJ}{t:TypeId}{r:aL}{ans cq:List cf}{obs:List Prop}
theorem awa{parts:Array (Nat×Operand)}
  (a8:cJ w0 st a w ω τ) (h:EZ P st t parts.toList ans=some (r,cq,obs)):
  ∃z,(Instr.build t (parts.map fun (i,x)=>(i,a.eval x))).run P w=.ok z w/\cW (Sat w ω τ) r z:=by
 unfold EZ at h;split at h
 ·rename_i eU i hu hi;split at h
  ·rename_i z bi;split at h
   ·rename_i iF;rw[cc]at h;obtain⟨ls,h1,h⟩:=h;simp only[bH]at h;obtain⟨rfl,_,_⟩:=h;have Bv:k9 (Sat w ω τ) (z.cells.toList.map .v) z.cells:=by
     refine⟨by simp,fun j l ap=>?_⟩;rw[dq,cc]at ap;obtain⟨u,hu,rfl⟩:=ap;exact⟨u,by simpa using hu,rfl⟩
    obtain⟨out,U,ax⟩:=K0 (vals:=parts.toList.map fun x=>(x.1,a.eval x.2)) (by simp) (fun j fy p a1=>by
     rw[dq,cc]at a1;obtain⟨⟨i2,x⟩,ah,e⟩:=a1;simp only[bH]at e;obtain⟨rfl,rfl⟩:=e;exact⟨a.eval x,by simp only[dq,ah,mz],a8.br x⟩) h1 Bv
    have hm:=E0 (P:=P) (fun f:Field=>(do pure (f.offset,<-sizeOf f.type):Sem (Nat×Nat))) eU w _ (SK (P:=P) w eU.toList (fun f b2=>gx.1 iF f b2));have p0:(fun x=>(eU.toList.map fun f=>(f.offset,((P.info? f.type).map (·.size)).getD 0)).toArray[x]?)=K1 P t:=by
     funext x;simp only[nW,dq,iO,K1,hu];cases ah:eU[x]? with
     | none=>rfl
     | some fd=>
      have:(P.info? fd.type).isSome=true:=gx.1 iF fd (by simpa using Array.mem_of_getElem? ah);obtain⟨fy,lb⟩:=qt.1 this;simp[lb]
    refine⟨.agg out,?_,out,rfl,ax⟩;simp only[Instr.build,Sem.run_bind,zeroValue,typeInfo,run_program,Result.andThen_ok,hi,Sem.run_pure,bi,run_underlying hu,hm,p0];have e:(Array.map (fun (x:Nat×Operand)=>(x.1,a.eval x.2)) parts).toList=parts.toList.map fun x=>(x.1,a.eval x.2):=by simp
    simp only[e,U,Sem.run_pure]
   cases h
  cases h
 cases h
def K2(p:aL)(lD:Nat)(ans:List cf):kG:=
 match p with
 | .gf as=>(as[lD]?).map fun a=>(.aI a,ans,[])
 | _=>none
variable{v:Value}
theorem awb{P:Program}{lD:Nat}
  (hp:cW (Sat w ω τ) p v) (h:K2 p lD ans=some (r,cq,obs)):∃z,(Instr.extract v lD).run P w=.ok z w/\cW (Sat w ω τ) r z:=by
 unfold K2 at h;split at h
 ·rename_i as;rw[cc]at h;obtain⟨aI,h1,h⟩:=h;simp only[bH]at h;obtain⟨rfl,_,_⟩:=h;obtain⟨vs,rfl,aX,bp⟩:=hp;obtain⟨u,U,ax⟩:=bp _ _ h1;exact⟨u,by simp[Instr.extract,U],ax⟩
 cases h
def K3(P:Program)(t:TypeId)(p:aL)(f:Nat)(ans:List cf):kG:=
 match P.underlying t with
 | some (.struct eU)=>
  match eU[f]? with
  | some fd=>
   match xc P fd.type,P.info? fd.type,p with
   | some agg,some i,.aI (.agg ls)=>(sl agg i.size ls fd.offset).map fun r=>(r,ans,[])
   | _,_,_=>none
  | none=>none
 | _=>none
theorem awc{f:Nat}
  (hp:cW (Sat w ω τ) p v) (h:K3 P t p f ans=some (r,cq,obs)):∃z,(Instr.field t v f).run P w=.ok z w/\cW (Sat w ω τ) r z:=by
 unfold K3 at h;split at h
 ·rename_i eU hu;split at h
  ·rename_i fd b2;split at h
   ·rename_i agg i ls e1 e2;rw[cc]at h;obtain⟨lm,h1,h⟩:=h;simp only[bH]at h;obtain⟨rfl,_,_⟩:=h;obtain⟨vs,rfl,aX,bp⟩:=hp;unfold sl at h1;cases agg with
    | true=>
     simp only[fX]at h1;split at h1
     ·rename_i hle;simp only[aV]at h1;subst h1;refine⟨.agg (vs.extract fd.offset (fd.offset+i.size)),by simp[Instr.field,run_underlying hu,b2,asAgg,part,zw e1,sizeOf,typeInfo,e2],_,rfl,by simp;omega,fun j l ap=>?_⟩;rw[gI]at ap;split at ap
      ·rw[gH]at ap;obtain⟨u,h1,U⟩:=bp _ l ap;refine⟨u,?_,U⟩;rw[Array.getElem?_extract,bm (by omega),<-h1]
      cases ap
     cases h1
    | false=>
     simp only[nY,lP,cc]at h1;obtain⟨l,ap,rfl⟩:=h1;obtain⟨u,h1,U⟩:=bp _ l ap;exact⟨u,by simp[Instr.field,run_underlying hu,b2,asAgg,part,zw e1,h1],U⟩
   cases h
  cases h
 cases h
def K4(op:UnOp)(p:aL)(ans:List cf):kG:=
 match op,p.leaf with
 | .not,some (.bg c)=>some (.one (.bg (!c)),ans,[])
 | .not,some (.v (.bool c))=>some (.one (.v (.bool (!c))),ans,[])
 | .neg,some (.v (.int k n))=>arith k (0-n) ans
 | _,_=>none
theorem awd{op:UnOp}
  (hp:cW (Sat w ω τ) p v) (h:K4 op p ans=some (r,cq,obs)) (ba:cL obs):∃z,(Op.unary op v).run P w=.ok z w/\cW (Sat w ω τ) r z:=by
 unfold K4 at h;split at h
 ·rename_i c e;simp only[aV,bH]at h;obtain⟨rfl,_,_⟩:=h;have:v=.bool c:=aL.dV e hp;subst this;exact⟨_,rfl,rfl⟩
 ·rename_i c e;simp only[aV,bH]at h;obtain⟨rfl,_,_⟩:=h;have:v=.bool c:=aL.dV e hp;subst this;exact⟨_,rfl,rfl⟩
 ·rename_i k n e;have:v=.int k n:=aL.dV e hp;subst this;exact⟨_,rfl,zv h ba⟩
 cases h
def dK(c a b:aL)(ans:List cf):kG:=
 match c.leaf with
 | some (.v (.bool true))=>some (a,ans,[])
 | some (.v (.bool false))=>some (b,ans,[])
 | some (.bg c)=>
  match ans with
  | .pN true::r=>some (a,r,[c=true])
  | .pN false::r=>some (b,r,[c=false])
  | _=>none
 | _=>none
variable{u:Value}
theorem awe{c a b:aL}{x:Value}
  (aj:cW (Sat w ω τ) c u) (ak:cW (Sat w ω τ) a x) (av:cW (Sat w ω τ) b y) (h:dK c a b ans=some (r,cq,obs)) (ba:cL obs):
  ∃z,(do pure (.value (if <-asBool u then x else y)):Sem Next).run P w=.ok (.value z) w/\cW (Sat w ω τ) r z:=by
 unfold dK at h;split at h
 ·rename_i e;simp only[aV,bH]at h;obtain⟨rfl,_,_⟩:=h;have:u=.bool true:=aL.dV e aj;subst this;exact⟨x,rfl,ak⟩
 ·rename_i e;simp only[aV,bH]at h;obtain⟨rfl,_,_⟩:=h;have:u=.bool false:=aL.dV e aj;subst this;exact⟨y,rfl,av⟩
 ·rename_i kJ e;have:u=.bool kJ:=aL.dV e aj;subst this;split at h
  ·simp only[aV,bH]at h;obtain⟨rfl,_,rfl⟩:=h;have qN:kJ=true:=ba.1;subst qN;exact⟨x,rfl,ak⟩
  ·simp only[aV,bH]at h;obtain⟨rfl,_,rfl⟩:=h;have qN:kJ=false:=ba.1;subst qN;exact⟨y,rfl,av⟩
  cases h
 cases h
def y5:List (List D)->Option (List Int)
 | []=>some []
 | [.v (.int .u8 n)]::r=>(y5 r).map (n::·)
 | _=>none
theorem SL:∀{es:List (List D)} {xs:List Int},y5 es=some xs->xs.length=es.length/\∀i,i<xs.length->df es i 0=some (.v (.int .u8 (xs.getD i 0)))/\∀e,es[i]?=some e->e.length=1
 | [],xs,h=>by
  simp only[y5,aV]at h;subst h;exact⟨rfl,fun i hi=>by simp at hi⟩
 | e::r,xs,h=>by
  unfold y5 at h;split at h
  ·rename_i he;cases he
  ·rename_i n lm he;obtain⟨rfl,rfl⟩:=aaN he;rw[cc]at h;obtain⟨ys,h1,rfl⟩:=h;obtain⟨U,ax⟩:=SL h1;refine⟨by simp[U],fun i hi=>?_⟩;cases i with
   | zero=>exact⟨rfl,fun e he=>by simp at he;subst he;rfl⟩
   | succ i=>
    simp only[eh,Nat.add_lt_add_iff_right]at hi;obtain⟨aF,aZ⟩:=ax i hi;exact⟨by simpa[df]using aF,fun e he=>aZ e (by simpa using he)⟩
  cases h
theorem cell_of_heap{w:World}{b:Nat}{arr:Array Value}{ty:TypeId}{c3:Nat×Nat}(av:w.heap[b]?=some (.cells arr ty c3))(h:arr[off]?=some v):w.cell? ⟨b,off,none⟩=some v:=by
 unfold World.cell?;simp[av,h]
def aH.YP:aH->Option (List (List D))
 | .J _ 1 es=>some es
 | _=>none
def K5(P:Program)(src dst:TypeId)(p:aL)(ans:List cf):kG:=
 match P.underlying src,P.underlying dst,p.int with
 | some _,some (.int k),some (_,n)=>arith k n ans
 | some (.slice e),some .string,none=>
  match P.underlying e,p.leaf.bind aH.YP,ans with
  | some (.int .u8),some es,.po (.aI (.one (.v (.string s))))::r=>some (.one (.v (.string s)),r,[(y5 es).map strOfNums=some s])
  | _,_,_=>none
 | _,_,_=>none
theorem awf{src dst:TypeId}
  (hp:cW (Sat w ω τ) p v) (h:K5 P src dst p ans=some (r,cq,obs)) (ba:cL obs):∃z,(convert src dst v).run P w=.ok z w/\cW (Sat w ω τ) r z:=by
 unfold K5 at h;split at h
 ·rename_i d k By n e1 e2 cg;rw[aL.pa cg hp];exact⟨_,by simp[convert,run_underlying e1,run_underlying e2,Conv.intToInt],zv h ba⟩
 ·rename_i e e1 e2 cg;split at h
  ·rename_i es s lm eo h9;simp only[aV,bH]at h;obtain⟨rfl,_,rfl⟩:=h;have lA:(y5 es).map strOfNums=some s:=ba.1;rw[cc]at lA;obtain⟨xs,h1,rfl⟩:=lA;obtain⟨U,ax⟩:=SL h1;rw[ni]at h9;obtain⟨l,nA,n'⟩:=h9;have ap:=aL.dV nA hp;unfold aH.YP at n';split at n'
   ·rename_i t cv;simp only[aV]at n';subst n';obtain⟨aA,_⟩:=ap;refine⟨.string (strOfNums xs),?_,rfl⟩;cases aA with
    | nil R k a=>
     have:xs=[]:=List.length_eq_zero_iff.1 (by simpa using U);subst this;cases a with
     | none=>exact run_convert_bytes_nil w src e e1 eo 0 0 dst e2
     | some a=>
      rw[run_convert_bytes_string w src dst e _ 0 0 e1 eo e2];exact run_bytesToString w a 0 0 [] (run_loadCells_list w a [] (fun j v a1=>by simp at a1))
    | row R k _ b off cap arr ty c3 us av ej aj ao hk hu aG=>
     refine run_convert_bytes_arg w src e e1 eo b off cv.length cap xs U (fun i hi=>?_) dst e2;obtain⟨aF,_⟩:=ax i (by omega);have aZ:=hu i 0 _ aF;have bB:=aG i 0 _ aF;generalize us i 0=u at aZ bB;cases bB;rw[Nat.mul_one,np]at aZ;exact (cell_of_heap av (by simpa using aZ))
   cases n'
  cases h
 cases h
def K6(P:Program)(t:TypeId)(p q:aL)(ans:List cf):kG:=
 match P.underlying t,p.leaf,q.int with
 | some .string,some (.v (.string s)),some (_,n)=>
  match ans with
  | .num m::r=>some (.one (.v (.int .u8 m)),r,[0<=n,(s[n.toNat]?).map (fun b=>((b.toNat:Nat):Int))=some m])
  | _=>none
 | _,_,_=>none
variable{q:aL}
theorem awg
  (hp:cW (Sat w ω τ) p u) (aK:cW (Sat w ω τ) q v) (h:K6 P t p q ans=some (r,cq,obs)) (ba:cL obs):∃z,(Instr.index t u v).run P w=.ok z w/\cW (Sat w ω τ) r z:=by
 unfold K6 at h;split at h
 ·rename_i s By n e1 e2 cg;split at h
  ·rename_i m ih;simp only[aV,bH]at h;obtain⟨rfl,_,rfl⟩:=h;obtain⟨bG,h1,_⟩:=ba;have:u=.string s:=aL.dV e2 hp;subst this;rw[aL.pa cg aK];rw[cc]at h1;obtain⟨b,av,hm⟩:=h1;exact⟨.int .u8 m,by simp[Instr.index,asIntOf,run_underlying e1,bG,av,hm],rfl⟩
  cases h
 cases h
def KH(p q:aL)(ans:List cf):kG:=
 match p.int,q.int with
 | some (k,a),some (_,b)=>some (.one (.v (.int k (if b<a then b else a))),ans,[])
 | _,_=>none
def KI(p q:aL)(ans:List cf):kG:=
 match p.int,q.int with
 | some (k,a),some (_,b)=>some (.one (.v (.int k (if b>a then b else a))),ans,[])
 | _,_=>none
theorem awh{P:Program}{ts:Array TypeId}{ty:TypeId}
  (hp:cW (Sat w ω τ) p u) (aK:cW (Sat w ω τ) q v) (h:KH p q ans=some (r,cq,obs)):∃z,(Builtin.min_ ts ty #[u,v]).run P w=.ok z w/\cW (Sat w ω τ) r z:=by
 unfold KH at h;split at h
 ·rename_i k a By b e1 e2;simp only[aV,bH]at h;obtain⟨rfl,_,_⟩:=h;rw[aL.pa e1 hp,aL.pa e2 aK];exact⟨_,by simp[Builtin.min_,Builtin.min2],rfl⟩
 cases h
theorem awi{P:Program}{ts:Array TypeId}{ty:TypeId}
  (hp:cW (Sat w ω τ) p u) (aK:cW (Sat w ω τ) q v) (h:KI p q ans=some (r,cq,obs)):∃z,(Builtin.max_ ts ty #[u,v]).run P w=.ok z w/\cW (Sat w ω τ) r z:=by
 unfold KI at h;split at h
 ·rename_i k a By b e1 e2;simp only[aV,bH]at h;obtain⟨rfl,_,_⟩:=h;rw[aL.pa e1 hp,aL.pa e2 aK];exact⟨_,by simp[Builtin.max_,Builtin.max2],rfl⟩
 cases h
def Sp(p:aL)(ans:List cf):kG:=
 match p.leaf with
 | some (.ptr id off)=>some (.one (.ptr id off),ans,[])
 | some (.cP t k es i j)=>some (.one (.cP t k es i j),ans,[])
 | some (.iK ds off)=>some (.one (.iK ds off),ans,[])
 | some (.aQ t i j k es (.at_ x y))=>some (.one (.aQ t i j k es (.at_ x y)),ans,[])
 | _=>none
def Sl(p:aL):Option Nat:=
 match p.leaf with
 | some (.ptr id 0)=>some id
 | _=>none
def QH(p:aL):Option D:=
 match p.leaf with
 | some (.iK ds 0)=>some (.ptr ds)
 | some (.v x)=>if x.oneCell' then some (.v x) else none
 | _=>none
def E1(st:aJ)(fn:Fn)(first captured:List Operand)(ans:List cf):kG:=
 match fn,first with
 | .func g,[]=>
  match (captured.map st.br).mapM Sl with
  | some ids=>some (.one (.hv g ids),ans,[])
  | none=>
   match (captured.map st.br).mapM QH with
   | some ds=>some (.one (.fd (.cl g ds)),ans,[])
   | none=>none
 | _,_=>none
theorem KJ{α β:Type}{f:α->Option β}:∀{xs:List α} {ys:List β},xs.mapM f=some ys->ys.length=xs.length/\∀(i:Nat) (y:β),ys[i]?=some y->∃x,xs[i]?=some x/\f x=some y
 | [],ys,h=>by simp at h;subst h;simp
 | x::xs,ys,h=>by
  rw[yb]at h;cases e:f x with
  | none=>simp[e]at h
  | some y=>
   cases e2:xs.mapM f with
   | none=>simp[e,e2]at h
   | some zs=>
    simp[e,e2]at h;subst h;obtain⟨h1,U⟩:=KJ e2;refine⟨by simp[h1],fun i fP hi=>?_⟩;cases i with
    | zero=>simp at hi;subst hi;exact⟨x,rfl,e⟩
    | succ i=>simpa using U i fP (by simpa using hi)
theorem awj{P:Program}{fn:Fn}{first captured:Array Operand}
  (a8:cJ w0 st a w ω τ) (h:E1 st fn first.toList captured.toList ans=some (r,cq,obs)):
  ∃z,(Instr.makeFunc fn (first.map a.eval) (captured.map a.eval)).run P w=.ok z w/\cW (Sat w ω τ) r z:=by
 unfold E1 at h;split at h
 ·rename_i g ab1;have b2:first=#[]:=by
   rcases first with⟨l⟩
   simpa using ab1
  subst b2;refine⟨.func (.func g) #[] (captured.map a.eval),by simp[Instr.makeFunc],?_⟩;have r5:∀(i:Nat) (x:aL),(captured.toList.map st.br)[i]?=some x->∃v,(captured.map a.eval)[i]?=some v/\cW (Sat w ω τ) x v:=by
   intro i x ah;rw[dq,cc]at ah;obtain⟨o,ba,rfl⟩:=ah;refine⟨a.eval o,?_,a8.br o⟩;rw[Am];rw[iO]at ba;rw[ba];rfl
  split at h
  ·rename_i ids ace;simp only[aV,bH]at h;obtain⟨rfl,_,_⟩:=h;obtain⟨aX,ay⟩:=KJ ace;have hex:∀i,i<ids.length->∃b id,ids[i]?=some id/\(captured.map a.eval)[i]?=some (ptrTo b)/\ω b=.box id:=by
    intro i hi;obtain⟨x,ah,iV⟩:=ay i ids[i] (by simp[hi]);obtain⟨v,bp,ao⟩:=r5 i x ah;unfold Sl at iV;split at iV
    ·rename_i id ap;simp only[aV]at iV;obtain⟨b,av,rfl⟩:=aL.dV ap ao;exact⟨b,id,by simp[hi,iV],bp,av⟩
    cases iV
   have c':(captured.map a.eval).size=ids.length:=by simp at aX;simp[aX]
   let bs:=(List.range ids.length).map fun i=>(match (captured.map a.eval)[i]? with | some (.pointer (some p))=>p.block | _=>0)
   refine⟨bs,?_,by simp[bs],fun i id gE=>?_⟩
   ·congr 1
    apply Array.ext
    ·simp[bs,c']
    intro i h1 U;obtain⟨b,id,_,bp,_⟩:=hex i (by rw[<-c'];exact h1);have Bn:=bp;rw[ht h1,aV]at Bn;rw[Bn];have e:bs[i]'(by simpa using U)=b:=by simp only[bs,List.getElem_map,List.getElem_range,bp,ptrTo]
    simp[e]
   have hi:=(ek.1 gE).1;obtain⟨b,hM,Rm,bp,av⟩:=hex i hi;rw[gE]at Rm;have:=eW Rm;subst this;refine⟨b,?_,av⟩;simp only[bs,dq,List.getElem?_range hi,mz,bp,ptrTo]
  split at h
  ·rename_i ds eR;simp only[aV,bH]at h;obtain⟨rfl,_,_⟩:=h;obtain⟨aX,ay⟩:=KJ eR;refine b0.cl _ g ds (captured.map a.eval) (fun j=>(captured.map a.eval).getD j undef) (by simp at aX;simp[aX]) (fun j d aG=>?_) (fun j d aG=>?_)
   ·obtain⟨x,ah,_⟩:=ay j d aG;obtain⟨v,bp,_⟩:=r5 j x ah;rw[bp];simp only[eG,bp,il]
   obtain⟨x,ah,iV⟩:=ay j d aG;obtain⟨v,bp,ao⟩:=r5 j x ah;have e:(captured.map a.eval).getD j undef=v:=by simp only[eG,bp,il]
   rw[e];unfold QH at iV;split at iV
   ·rename_i ta ap;simp only[aV]at iV;subst iV;obtain⟨b,rfl,aA⟩:=aL.dV ap ao;exact aA.frame fun b q av aK=>⟨aK,rfl⟩
   ·rename_i y ap;split at iV
    ·rename_i acM;simp only[aV]at iV;subst iV;have:v=y:=aL.dV ap ao;subst this;exact .v _ _ acM
    cases iV
   cases iV
  cases h
 cases h
def E2(P:Program)(st:aJ)(b:Builtin)(args:List Operand)(ts:List TypeId)(ans:List cf):kG:=
 match b,args,ts with
 | .len,[x],[t]=>KY P t (st.br x) ans
 | .min,[x,y],_=>KH (st.br x) (st.br y) ans
 | .max,[x,y],_=>KI (st.br x) (st.br y) ans
 | _,_,_=>none
def qe(P:Program)(st:aJ)(op:Op)(ans:List cf):kG:=
 match op with
 | .move x | .assign x=>some (st.br x,ans,[])
 | .pick c a b=>dK (st.br c) (st.br a) (st.br b) ans
 | .load t x=>EX P st t (st.br x) ans
 | .nilCheck x=>Sp (st.br x) ans
 | .binOp op t x y _=>KU P op t x y (st.br x) (st.br y) ans
 | .unOp op _ x=>K4 op (st.br x) ans
 | .convert s d x=>K5 P s d (st.br x) ans
 | .slice t x de hi jI=>EY P st t (st.br x) de hi jI ans
 | .fieldAddr s x f=>KW P s (st.br x) f ans
 | .field t x f=>K3 P t (st.br x) f ans
 | .indexAddr t x i=>KX P t (st.br x) (st.br i) ans
 | .index t x i=>K6 P t (st.br x) (st.br i) ans
 | .extract x i=>K2 (st.br x) i ans
 | .build t parts=>EZ P st t parts.toList ans
 | .call ⟨.builtin b,args,ts⟩=>E2 P st b args.toList ts.toList ans
 | .makeFunc fn first captured=>E1 st fn first.toList captured.toList ans
 | _=>none
theorem jR{aO:World}{s:Sem Value}{z:Value}(h:s.run P w=.ok z aO):(do pure (.value (<-s)):Sem Next).run P w=.ok (.value z) aO:=by
 rw[Sem.run_bind,h];rfl
theorem awk{b:Builtin}{args:Array Operand}{ts:Array TypeId}{ty:TypeId}{consts:Array Bool}
  (a8:cJ w0 st a w ω τ) (h:E2 P st b args.toList ts.toList ans=some (r,cq,obs)):
  ∃z,(builtin b ts ty consts (args.map a.eval)).run P w=.ok (.value z) w/\cW (Sat w ω τ) r z:=by
 obtain⟨args⟩:=args;obtain⟨ts⟩:=ts;unfold E2 at h;split at h
 ·rename_i x t e1 e2;simp only at e1 e2;subst e1 e2;obtain⟨z,h1,U⟩:=av8 (ty:=ty) (a8.br x) h;refine⟨z,jR (s:=Builtin.len_ #[t] ty (Array.map a.eval #[x])) ?_,U⟩;simpa using h1
 ·rename_i x y e1;simp only at e1;subst e1;obtain⟨z,h1,U⟩:=awh (P:=P) (ts:=⟨ts⟩) (ty:=ty) (a8.br x) (a8.br y) h;refine⟨z,jR (s:=Builtin.min_ ⟨ts⟩ ty (Array.map a.eval #[x,y])) ?_,U⟩;simpa using h1
 ·rename_i x y e1;simp only at e1;subst e1;obtain⟨z,h1,U⟩:=awi (P:=P) (ts:=⟨ts⟩) (ty:=ty) (a8.br x) (a8.br y) h;refine⟨z,jR (s:=Builtin.max_ ⟨ts⟩ ty (Array.map a.eval #[x,y])) ?_,U⟩;simpa using h1
 cases h
theorem KK{o:Oper}
  (a8:cJ w0 st a w ω τ) (h:qe P st o.op ans=some (r,cq,obs)) (ba:cL obs):
  ∃z,(execOp a.eval o).run P w=.ok (.value z) w/\cW (Sat w ω τ) r z:=by
 obtain⟨dst,op,type,pos,after,guard⟩:=o;simp only at h;unfold qe at h;split at h
 ·rename_i x;simp only[aV,bH]at h;obtain⟨rfl,_,_⟩:=h;exact⟨a.eval x,rfl,a8.br x⟩
 ·rename_i x;simp only[aV,bH]at h;obtain⟨rfl,_,_⟩:=h;exact⟨a.eval x,rfl,a8.br x⟩
 ·rename_i c x y;exact awe (a8.br c) (a8.br x) (a8.br y) h ba
 ·rename_i t x;obtain⟨z,h1,U⟩:=av7 a8 (a8.br x) h ba;exact⟨z,jR h1,U⟩
 ·rename_i x;unfold Sp at h;split at h
  ·rename_i id off e;simp only[aV,bH]at h;obtain⟨rfl,_,_⟩:=h;have ao:=aL.dV e (a8.br x);obtain⟨b,av,ah⟩:=ao;exact⟨_,by simp only[execOp,ah];rfl,b,av,rfl⟩
  ·rename_i t k es i j e;simp only[aV,bH]at h;obtain⟨rfl,_,_⟩:=h;have ao:=aL.dV e (a8.br x);have dz:=ao;obtain⟨b,off,cap,ah,h1⟩:=ao;refine⟨_,by simp only[execOp,ah];rfl,?_⟩;rw[<-ah];exact dz
  ·rename_i ds off e;simp only[aV,bH]at h;obtain⟨rfl,_,_⟩:=h;have ao:=aL.dV e (a8.br x);have dz:=ao;obtain⟨b,ah,h1⟩:=ao;refine⟨_,by simp only[execOp,ah];rfl,?_⟩;rw[<-ah];exact dz
  ·rename_i t i j k es aBM Qt e;simp only[aV,bH]at h;obtain⟨rfl,_,_⟩:=h;have ao:=aL.dV e (a8.br x);have dz:=ao;obtain⟨fW,⟨b,off,cap,_,ah,_⟩,_⟩:=ao;refine⟨_,by simp only[execOp,ah];rfl,?_⟩;rw[<-ah];exact dz
  cases h
 ·rename_i adP t x y rK;obtain⟨z,h1,U⟩:=av2 (a8.br x) (a8.br y) h ba;exact⟨z,jR h1,U⟩
 ·rename_i adP t x;obtain⟨z,h1,U⟩:=awd (a8.br x) h ba;exact⟨z,jR h1,U⟩
 ·rename_i s d x;obtain⟨z,h1,U⟩:=awf (a8.br x) h ba;exact⟨z,jR h1,U⟩
 ·rename_i t x de hi jI;obtain⟨z,h1,U⟩:=av9 a8 (a8.br x) h ba;exact⟨z,jR h1,U⟩
 ·rename_i s x f;obtain⟨z,h1,U⟩:=av4 (a8.br x) h;exact⟨z,jR h1,U⟩
 ·rename_i t x f;obtain⟨z,h1,U⟩:=awc (a8.br x) h;exact⟨z,jR h1,U⟩
 ·rename_i t x i;obtain⟨z,h1,U⟩:=av5 (a8.br x) (a8.br i) h ba;exact⟨z,jR h1,U⟩
 ·rename_i t x i;obtain⟨z,h1,U⟩:=awg (a8.br x) (a8.br i) h ba;exact⟨z,jR h1,U⟩
 ·rename_i x i;obtain⟨z,h1,U⟩:=awb (P:=P) (a8.br x) h;exact⟨z,jR h1,U⟩
 ·rename_i t parts;obtain⟨z,h1,U⟩:=awa a8 h;exact⟨z,jR h1,U⟩
 ·rename_i b args ts;obtain⟨z,h1,U⟩:=awk (ty:=type) (consts:=args.map fun | .const _=>true | _=>false) a8 h;exact⟨z,by simp only[execOp,resolve,Sem.run_bind,Sem.run_pure,Result.andThen_ok,invoke];exact h1,U⟩
 ·rename_i fn first captured
  obtain⟨z,h1,U⟩:=awj (P:=P) a8 h;exact⟨z,jR h1,U⟩
 cases h
