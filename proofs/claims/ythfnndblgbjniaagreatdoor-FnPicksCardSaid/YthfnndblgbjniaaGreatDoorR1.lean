import Derived.WalkKit
import Derived.WalkSpells
import Derived.WalkLawsBesides
import Derived.KernelRfl
set_option linter.unusedVariables false
set_option linter.unusedSimpArgs false
namespace Go.Sx
open Go.RowKit
universe u v w x
theorem ad:True:=⟨⟩
theorem aW:type_of% @Option.some.injEq.{u}:=@Option.some.injEq.{u}
theorem cr:type_of% @List.length_map.{u,v}:=@List.length_map.{u,v}
theorem ca:type_of% @Option.map_eq_some_iff.{u,v}:=@Option.map_eq_some_iff.{u,v}
theorem bA:type_of% @Prod.mk.injEq.{u,v}:=@Prod.mk.injEq.{u,v}
theorem cM:type_of% @Bool.eq_false_or_eq_true:=@Bool.eq_false_or_eq_true
theorem nR:type_of% @decide_eq_false_iff_not:=@decide_eq_false_iff_not
theorem iA:type_of% @List.mem_cons_of_mem.{u}:=@List.mem_cons_of_mem.{u}
theorem eh:type_of% @List.length_nil.{u}:=@List.length_nil.{u}
theorem c3:type_of% @decide_eq_true_eq:=@decide_eq_true_eq
theorem cH:type_of% @Bool.and_eq_true:=@Bool.and_eq_true
theorem fP:type_of% @List.getElem?_eq_some_iff.{u}:=@List.getElem?_eq_some_iff.{u}
theorem eR:type_of% @Array.getD_eq_getD_getElem?.{u}:=@Array.getD_eq_getD_getElem?.{u}
theorem kG:type_of% @List.mem_cons_self.{u}:=@List.mem_cons_self.{u}
theorem hr:type_of% @List.length_set.{u}:=@List.length_set.{u}
theorem bH:type_of% @if_neg.{u}:=@if_neg.{u}
theorem bL:type_of% @if_pos.{u}:=@if_pos.{u}
theorem ic:type_of% @List.length_cons.{u}:=@List.length_cons.{u}
theorem dP:type_of% @List.getElem?_map.{u,v}:=@List.getElem?_map.{u,v}
theorem mg:type_of% @decide_eq_false:=@decide_eq_false
theorem iB:type_of% @List.getElem?_eq_getElem.{u}:=@List.getElem?_eq_getElem.{u}
theorem dW:type_of% @Nat.zero_add:=@Nat.zero_add
theorem fI:type_of% @List.mem_of_getElem?.{u}:=@List.mem_of_getElem?.{u}
theorem gd:type_of% @Option.some.inj.{u}:=@Option.some.inj.{u}
theorem gX:type_of% @Bool.or_eq_false_iff:=@Bool.or_eq_false_iff
theorem jF:type_of% @Array.getElem?_eq_some_iff.{u}:=@Array.getElem?_eq_some_iff.{u}
theorem kW:type_of% @List.getElem?_drop.{u}:=@List.getElem?_drop.{u}
theorem hN:type_of% @Nat.mul_le_mul_right:=@Nat.mul_le_mul_right
theorem kX:type_of% @List.take_length.{u}:=@List.take_length.{u}
theorem lI:type_of% @Array.getElem?_eq_getElem.{u}:=@Array.getElem?_eq_getElem.{u}
theorem kE:type_of% @beq_iff_eq.{u}:=@beq_iff_eq.{u}
theorem jZ:type_of% @List.getElem?_take.{u}:=@List.getElem?_take.{u}
theorem aw9:type_of% @List.cons.inj.{u}:=@List.cons.inj.{u}
theorem lJ:type_of% @Array.getElem?_toList.{u}:=@Array.getElem?_toList.{u}
theorem iy:type_of% @List.mem_append_left.{u}:=@List.mem_append_left.{u}
theorem jD:type_of% @List.mem_append_right.{u}:=@List.mem_append_right.{u}
theorem jE:type_of% @Array.getElem?_append.{u}:=@Array.getElem?_append.{u}
theorem eK:type_of% @List.mem_cons.{u}:=@List.mem_cons.{u}
theorem fU:type_of% @List.all_eq_true.{u}:=@List.all_eq_true.{u}
theorem kY:type_of% @List.getD_eq_getElem?_getD.{u}:=@List.getD_eq_getElem?_getD.{u}
theorem gw:type_of% @Nat.le_refl:=@Nat.le_refl
theorem hW:type_of% @List.any_eq_false.{u}:=@List.any_eq_false.{u}
theorem NG:type_of% @Bool.eq_false_iff:=@Bool.eq_false_iff
theorem hq:type_of% @Nat.add_mul:=@Nat.add_mul
theorem i':type_of% @Bool.not_eq_true':=@Bool.not_eq_true'
theorem pz:type_of% @List.getElem?_append.{u}:=@List.getElem?_append.{u}
theorem gx:type_of% @List.map_append.{u,v}:=@List.map_append.{u,v}
theorem kZ:type_of% @Option.getD_some.{u}:=@Option.getD_some.{u}
theorem lK:type_of% @List.map_congr_left.{u,v}:=@List.map_congr_left.{u,v}
theorem lf:type_of% @Bool.not_eq_false':=@Bool.not_eq_false'
theorem oK:type_of% @List.getElem?_toArray.{u}:=@List.getElem?_toArray.{u}
theorem ja:type_of% @Bool.not_true:=@Bool.not_true
theorem iz:type_of% @List.append_nil.{u}:=@List.append_nil.{u}
theorem lL:type_of% @List.length_append.{u}:=@List.length_append.{u}
theorem oL:type_of% @List.size_toArray.{u}:=@List.size_toArray.{u}
theorem oM:type_of% @List.getElem?_set.{u}:=@List.getElem?_set.{u}
theorem pA:type_of% @Int.toNat_natCast:=@Int.toNat_natCast
theorem mL:type_of% @List.getElem?_cons_succ.{u}:=@List.getElem?_cons_succ.{u}
theorem lg:type_of% @List.getElem?_cons_zero.{u}:=@List.getElem?_cons_zero.{u}
theorem mf:type_of% @Option.bind_eq_some_iff.{u,v}:=@Option.bind_eq_some_iff.{u,v}
theorem tg:type_of% @List.findIdx?_eq_some_iff_getElem.{u}:=@List.findIdx?_eq_some_iff_getElem.{u}
theorem qO:type_of% @Option.isSome_iff_exists.{u}:=@Option.isSome_iff_exists.{u}
theorem oN:type_of% @List.mem_iff_getElem?.{u}:=@List.mem_iff_getElem?.{u}
theorem j1:type_of% @Bool.false_or:=@Bool.false_or
theorem pB:type_of% @List.set_set.{u}:=@List.set_set.{u}
theorem nL:type_of% @Option.bind_some.{u,v}:=@Option.bind_some.{u,v}
theorem nM:type_of% @Bool.false_eq_true:=@Bool.false_eq_true
theorem kF:type_of% @decide_eq_true:=@decide_eq_true
theorem ayW:type_of% @Int.le_trans:=@Int.le_trans
theorem oO:type_of% @List.mem_flatMap.{u,v}:=@List.mem_flatMap.{u,v}
theorem B6:type_of% @List.getElem?_append_right.{u}:=@List.getElem?_append_right.{u}
theorem pC:type_of% @List.length_filter_le.{u}:=@List.length_filter_le.{u}
theorem ib:type_of% @List.map_set.{u,v}:=@List.map_set.{u,v}
theorem mM:type_of% @List.map_cons.{u,v}:=@List.map_cons.{u,v}
theorem rR:type_of% @Option.map_some.{u,v}:=@Option.map_some.{u,v}
theorem oP:type_of% @List.getElem_mem.{u}:=@List.getElem_mem.{u}
theorem uT:type_of% @List.length_take.{u}:=@List.length_take.{u}
theorem lM:type_of% @List.mem_append.{u}:=@List.mem_append.{u}
theorem mN:type_of% @List.append_assoc.{u}:=@List.append_assoc.{u}
theorem gy:type_of% @if_true.{u}:=@if_true.{u}
theorem nN:type_of% @Bool.not_false:=@Bool.not_false
theorem th:type_of% @Array.size_append.{u}:=@Array.size_append.{u}
theorem wL:type_of% @List.take_add_one.{u}:=@List.take_add_one.{u}
theorem qP:type_of% @List.mem_or_eq_of_mem_set.{u}:=@List.mem_or_eq_of_mem_set.{u}
theorem B7:type_of% @List.getElem?_append_left.{u}:=@List.getElem?_append_left.{u}
theorem uU:type_of% @List.mem_of_mem_take.{u}:=@List.mem_of_mem_take.{u}
theorem qQ:type_of% @Bool.or_eq_true:=@Bool.or_eq_true
theorem nO:type_of% @Nat.add_zero:=@Nat.add_zero
theorem B8:type_of% @List.take_of_length_le.{u}:=@List.take_of_length_le.{u}
theorem pD:type_of% @Bool.true_and:=@Bool.true_and
theorem mO:type_of% @List.mem_map.{u,v}:=@List.mem_map.{u,v}
theorem wM:type_of% @List.mem_of_mem_drop.{u}:=@List.mem_of_mem_drop.{u}
theorem B9:type_of% @List.getElem?_replicate.{u}:=@List.getElem?_replicate.{u}
theorem pE:type_of% @Nat.lt_or_ge:=@Nat.lt_or_ge
theorem yC:type_of% @beq_eq_false_iff_ne.{u}:=@beq_eq_false_iff_ne.{u}
theorem rS:type_of% @List.cons.injEq.{u}:=@List.cons.injEq.{u}
theorem Gf:type_of% @List.findIdx?_eq_none_iff.{u}:=@List.findIdx?_eq_none_iff.{u}
theorem uV:type_of% @Bool.not_eq_true:=@Bool.not_eq_true
theorem nP:type_of% @List.not_mem_nil.{u}:=@List.not_mem_nil.{u}
theorem yD:type_of% @List.eq_nil_of_length_eq_zero.{u}:=@List.eq_nil_of_length_eq_zero.{u}
theorem XA:type_of% @List.take_append_of_le_length.{u}:=@List.take_append_of_le_length.{u}
theorem NH:type_of% @Array.length_toList.{u}:=@Array.length_toList.{u}
theorem ti:type_of% @beq_self_eq_true.{u}:=@beq_self_eq_true.{u}
theorem yE:type_of% @Nat.lt_of_lt_of_le:=@Nat.lt_of_lt_of_le
theorem Gg:type_of% @Option.isSome_eq_false_iff.{u}:=@Option.isSome_eq_false_iff.{u}
theorem XB:type_of% @List.take_append_drop.{u}:=@List.take_append_drop.{u}
theorem nQ:type_of% @ne_eq.{u}:=@ne_eq.{u}
theorem Gh:type_of% @Option.isNone_iff_eq_none.{u}:=@Option.isNone_iff_eq_none.{u}
theorem tj:type_of% @Nat.le_trans:=@Nat.le_trans
theorem rT:type_of% @List.map_id.{u}:=@List.map_id.{u}
theorem B':type_of% @List.any_cons.{u}:=@List.any_cons.{u}
theorem yF:type_of% @List.mapM_cons.{u,v,w}:=@List.mapM_cons.{u,v,w}
theorem lN:type_of% @if_false.{u}:=@if_false.{u}
theorem rU:type_of% @List.any_eq_true.{u}:=@List.any_eq_true.{u}
theorem wN:type_of% @List.drop_zero.{u}:=@List.drop_zero.{u}
theorem ayY:type_of% @Int.natCast_zero:=@Int.natCast_zero
theorem yG:type_of% @List.flatMap_nil.{u,v}:=@List.flatMap_nil.{u,v}
theorem Gi:type_of% @Array.getElem?_eq_none.{u}:=@Array.getElem?_eq_none.{u}
theorem axa:type_of% @Array.getElem?_map.{u,v}:=@Array.getElem?_map.{u,v}
theorem Gj:type_of% @Option.toList_some.{u}:=@Option.toList_some.{u}
theorem yH:type_of% @List.range_zero:=@List.range_zero
theorem rV:type_of% @List.map_take.{u,v}:=@List.map_take.{u,v}
theorem uW:type_of% @Bool.and_true:=@Bool.and_true
theorem yI:type_of% @List.length_range:=@List.length_range
theorem Ca:type_of% @Nat.mod_eq_of_lt:=@Nat.mod_eq_of_lt
theorem Gk:type_of% @Nat.add_assoc:=@Nat.add_assoc
theorem Gl:type_of% @List.sum_cons.{u}:=@List.sum_cons.{u}
inductive D where
 | v (x:Value)
 | J (k:Nat) (es:List (List D))
 | ptr (ds:List D)
 | a8 (g:FuncId) (bt:List D)
inductive di where
 | bG
 | box (id:Nat)
 | tok (t:Nat) (q:List (Nat×Nat))
abbrev Own:=Nat->di
def c5(es:List (List D))(i j:Nat):Option D:=(es[i]?).bind (·[j]?)
inductive b1 (w:World) (ω:Own):(List (Nat×Nat)->di->Prop)->D->Value->Prop
 | v (R:List (Nat×Nat)->di->Prop) (x:Value) (U:x.oneCell'=true):b1 w ω R (.v x) x
 | nil (R:List (Nat×Nat)->di->Prop) (k:Nat) (a:Option Addr):b1 w ω R (.J k []) (.slice a 0 0)
 | row (R:List (Nat×Nat)->di->Prop) (k:Nat) (es:List (List D)) (b off cap:Nat) (arr:Array Value) (ty:TypeId) (cT:Nat×Nat) (us:Nat->Nat->Value)
   (ay:w.heap[b]?=some (.cells arr ty cT)) (dY:R [] (ω b)) (ao:es.length<=cap) (ak:off+cap*k<=arr.size) (ba:∀e∈es,e.length=k)
   (hu:∀i j d,c5 es i j=some d->arr[off+i*k+j]?=some (us i j))
   (aI:∀i j d,c5 es i j=some d->b1 w ω (fun q=>R ((i,j)::q)) d (us i j)):
   b1 w ω R (.J k es) (.slice (some ⟨b,off,none⟩) es.length cap)
 | ptr (R:List (Nat×Nat)->di->Prop) (ds:List D) (b:Nat) (arr:Array Value) (ty:TypeId) (cT:Nat×Nat) (us:Nat->Value)
   (ay:w.heap[b]?=some (.cells arr ty cT)) (dY:R [] (ω b)) (ak:arr.size=ds.length)
   (hu:∀j d,ds[j]?=some d->arr[j]?=some (us j)) (aI:∀j d,ds[j]?=some d->b1 w ω (fun q=>R ((0,j)::q)) d (us j)):
   b1 w ω R (.ptr ds) (.pointer (some ⟨b,0,none⟩))
 | a8 (R:List (Nat×Nat)->di->Prop) (g:FuncId) (bt:List D) (cs:Array Value) (us:Nat->Value) (ak:cs.size=bt.length)
   (hu:∀j d,bt[j]?=some d->cs[j]?=some (us j)) (aI:∀j d,bt[j]?=some d->b1 w ω (fun q=>R ((0,j)::q)) d (us j)):
   b1 w ω R (.a8 g bt) (.func (.func g) #[] cs)
variable{w aN:World}{ω:Own}
theorem b1.frame{bd:Own}{R:List (Nat×Nat)->di->Prop}{d:D}{v:Value}(h:b1 w ω R d v):
  ∀{iE:List (Nat×Nat)->di->Prop},(∀b q,b<w.heap.size->R q (ω b)->iE q (bd b)/\aN.heap[b]?=w.heap[b]?)->b1 aN bd iE d v:=by
 induction h with
 | v R x U=>intro iE _;exact .v iE x U
 | nil R k a=>intro iE _;exact .nil iE k a
 | row R k es b off cap arr ty cT us ay dY ao ak ba hu aI eO=>
  intro iE b8;have bO:b<w.heap.size:=by
   rcases pE b w.heap.size with h | h
   ·exact h
   simp[Gi h]at ay
  obtain⟨U,aa⟩:=b8 b [] bO dY;exact .row iE k es b off cap arr ty cT us (aa.trans ay) U ao ak ba hu (fun i j d ez=>eO i j d ez (fun b q ar aL=>b8 b ((i,j)::q) ar aL))
 | ptr R ds b arr ty cT us ay dY ak hu aI eO=>
  intro iE b8;have bO:b<w.heap.size:=by
   rcases pE b w.heap.size with h | h
   ·exact h
   simp[Gi h]at ay
  obtain⟨U,aa⟩:=b8 b [] bO dY;exact .ptr iE ds b arr ty cT us (aa.trans ay) U ak hu (fun j d ez=>eO j d ez (fun b q ar aL=>b8 b ((0,j)::q) ar aL))
 | a8 R g bt cs us ak hu aI eO=>
  intro iE b8;exact .a8 iE g bt cs us ak hu (fun j d ez=>eO j d ez (fun b q ar aL=>b8 b ((0,j)::q) ar aL))
inductive Tag where
 | free
 | own (t:Nat)
 | ro (t:Nat)
def Tag.R:Tag->List (Nat×Nat)->di->Prop
 | .free,_,o=>o=.bG
 | .own t,q,o=>o=.tok t q
 | .ro t,_,o=>o=.bG\/∃q,o=.tok t q
def Tag.eb(τ:Nat->Nat×Value):Tag->Nat×Value->Prop
 | .own t,y=>τ t=y
 | _,_=>True
def da:Nat:=1000000000
inductive eZ where
 | cw
 | v (x:Value)
 | J (t:Tag) (k:Nat) (es:List (List D))
inductive u0 where
 | here
 | lQ
 | at_ (x y:Nat)
def u0.rel(k n:Nat):u0->Value->Value->Prop
 | .at_ x y,u,v=>∃b off cap,u=.slice (some ⟨b,off,none⟩) n cap/\v=.pointer (some ⟨b,off+x*k+y,none⟩)/\x<n
 | _,u,v=>v=u
def u0.home:u0->Bool
 | .lQ=>false
 | _=>true
inductive aE where
 | cw
 | v (x:Value)
 | bg (c:Bool)
 | J (t:Tag) (k:Nat) (es:List (List D))
 | ptr (id off:Nat)
 | cL (t:Tag) (k:Nat) (es:List (List D)) (i j:Nat)
 | hU (ds:List D) (off:Nat)
 | fd (d:D)
 | gC (g:FuncId) (ids:List Nat)
 | aP (t i j k:Nat) (es:List (List D)) (m:u0)
 | fp (t:Nat) (vs:List eZ)
 | dt (t k:Nat) (es:List (List D))
def ptrTo(b:Nat):Value:=.pointer (some ⟨b,0,none⟩)
def qS(w:World)(ω:Own)(τ:Nat->Nat×Value):eZ->Value->Prop
 | .cw,_=>True
 | .v x,y=>y=x
 | .J t k es,y=>b1 w ω t.R (.J k es) y/\t.eb τ (k,y)
def uc(w:World)(ω:Own)(τ:Nat->Nat×Value)(t i j:Nat)(u:Value):Prop:=
 ∃(kT b off len cap:Nat) (arr:Array Value) (ty:TypeId) (cT:Nat×Nat),τ t=(kT,.slice (some ⟨b,off,none⟩) len cap)/\ω b=.tok t []/\w.heap[b]?=some (.cells arr ty cT)/\arr[off+i*kT+j]?=some u
def Sat(w:World)(ω:Own)(τ:Nat->Nat×Value):aE->Value->Prop
 | .cw,_=>True
 | .v x,y=>y=x
 | .bg c,y=>y=.bool c
 | .J t k es,y=>b1 w ω t.R (.J k es) y/\t.eb τ (k,y)
 | .ptr id off,y=>∃b,ω b=.box id/\y=.pointer (some ⟨b,off,none⟩)
 | .cL t k es i j,y=>∃b off cap,y=.pointer (some ⟨b,off+i*k+j,none⟩)/\i<es.length/\
   b1 w ω t.R (.J k es) (.slice (some ⟨b,off,none⟩) es.length cap)/\t.eb τ (k,.slice (some ⟨b,off,none⟩) es.length cap)
 | .hU ds off,y=>∃b,y=.pointer (some ⟨b,off,none⟩)/\b1 w ω Tag.free.R (.ptr ds) (ptrTo b)
 | .fd d,y=>b1 w ω Tag.free.R d y
 | .gC g ids,y=>∃bs:List Nat,y=.func (.func g) #[] (bs.map ptrTo).toArray/\bs.length=ids.length/\∀(i:Nat) (id:Nat),ids[i]?=some id->∃b,bs[i]?=some b/\ω b=.box id
 | .dt t k es,y=>b1 w ω Tag.free.R (.J k es) y/\(da<=t->τ t=(k,y))
 | .aP t i j k es m,y=>∃u,m.rel k es.length u y/\b1 w ω (fun q o=>o=.tok t ((i,j)::q)) (.J k es) u/\(m.home=true->uc w ω τ t i j u)
 | .fp t vs,y=>∃(b:Nat) (ty:TypeId) (arr:Array Value),y=ptrTo b/\ω b=.tok t []/\w.heap[b]?=some (.cells arr ty (0,0))/\arr.size=vs.length/\∀(j:Nat) (c:eZ),vs[j]?=some c->∃u,arr[j]?=some u/\qS w ω τ c u
inductive bl where
 | one (l:aE)
 | agg (ls:List aE)
inductive aG where
 | aC (a:bl)
 | fN (as:List bl)
abbrev aG.one(l:aE):aG:=.aC (.one l)
abbrev aG.agg(ls:List aE):aG:=.aC (.agg ls)
abbrev aG.cw:aG:=.aC (.one .cw)
def kn(S:aE->Value->Prop)(ls:List aE)(vs:Array Value):Prop:=
 vs.size=ls.length/\∀(i:Nat) (l:aE),ls[i]?=some l->∃u,vs[i]?=some u/\S l u
def km(S:aE->Value->Prop):bl->Value->Prop
 | .one l,y=>S l y
 | .agg ls,y=>∃vs,y=.agg vs/\kn S ls vs
def cO(S:aE->Value->Prop):aG->Value->Prop
 | .aC a,y=>km S a y
 | .fN as,y=>∃vs:Array Value,y=.tuple vs/\vs.size=as.length/\∀(i:Nat) (a:bl),as[i]?=some a->∃u,vs[i]?=some u/\km S a u
structure aF where
 env:List aG
 boxes:List (Nat×List aE)
def dD(id:Nat):List (Nat×List aE)->Option (List aE)
 | []=>none
 | (i,ls)::r=>if i=id then some ls else dD id r
def bl.map(f:aE->aE):bl->bl
 | .one l=>.one (f l)
 | .agg ls=>.agg (ls.map f)
def aG.map(f:aE->aE):aG->aG
 | .aC a=>.aC (a.map f)
 | .fN as=>.fN (as.map (bl.map f))
def aF.map(f:aE->aE)(s:aF):aF:=⟨s.env.map (aG.map f),s.boxes.map fun x=>(x.1,x.2.map f)⟩
variable{S:aE->Value->Prop}
theorem kn.map{kI:aE->Value->Prop}{f:aE->aE}(h:∀l v,S l v->kI (f l) v){ls:List aE}{vs:Array Value}(ak:kn S ls vs):kn kI (ls.map f) vs:=by
 refine⟨by simpa using ak.1,fun i l ar=>?_⟩;rw[dP,ca]at ar;obtain⟨eW,b4,rfl⟩:=ar;obtain⟨u,U,aa⟩:=ak.2 i eW b4;exact⟨u,U,h _ _ aa⟩
theorem km.map{kI:aE->Value->Prop}{f:aE->aE}(h:∀l v,S l v->kI (f l) v):∀{a:bl} {y:Value},km S a y->km kI (a.map f) y
 | .one l,y,ak=>h _ _ ak
 | .agg ls,y,⟨vs,e,ak⟩=>⟨vs,e,ak.map h⟩
theorem cO.map{kI:aE->Value->Prop}{f:aE->aE}(h:∀l v,S l v->kI (f l) v):∀{p:aG} {y:Value},cO S p y->cO kI (p.map f) y
 | .aC a,y,ak=>show km kI (a.map f) y from km.map h (show km S a y from ak)
 | .fN as,y,⟨vs,e,a',ak⟩=>⟨vs,e,by simpa using a',fun i a aj=>by
   rw[dP,ca]at aj;obtain⟨a0,b4,rfl⟩:=aj;obtain⟨u,U,aa⟩:=ak i a0 b4;exact⟨u,U,km.map h aa⟩⟩
theorem sQ(f:aE->aE)(id:Nat):∀bs:List (Nat×List aE),dD id (bs.map fun x=>(x.1,x.2.map f))=(dD id bs).map (·.map f)
 | []=>rfl
 | (i,ls)::r=>by
  simp only[mM,dD];split
  ·rfl
  exact sQ f id r
structure eE where
 w:World
 G:Nat->Prop
 H:Nat->Nat×Value
def eE.Dl(B:eE)(b:Nat):Prop:=B.w.heap.size<=b\/B.G b
def Jy:Bool:=false
structure gA (n:Nat) (w aN:World):Prop where
 below:Below n w aN
 drawn:Jy=true->w.drawn<=aN.drawn
variable{n:Nat}
theorem gA.size(h:gA n w aN):w.heap.size<=aN.heap.size:=h.below.size
theorem gA.block(h:gA n w aN):∀k,k<n->aN.heap[k]?=w.heap[k]?:=h.below.block
theorem gA.refl(n:Nat)(w:World):gA n w w:=⟨Below.refl _ _,fun _=>gw _⟩
theorem gA.drew(h:gA n w aN):gA n w aN.drew:=⟨h.below.drew,fun ak=>Nat.le_succ_of_le (h.drawn ak)⟩
theorem gA.alloc(h:gA n w aN)(a':n<=aN.heap.size)(o:Obj):gA n w (aN.alloc o):=⟨h.below.alloc a' o,h.drawn⟩
def Br:List (Nat×List Int):=[(1,[1,10,100,1000,10000,100000,1000000,10000000,100000000,1000000000,10000000000,100000000000,1000000000000,10000000000000,100000000000000,1000000000000000,10000000000000000,100000000000000000,1000000000000000000,10000000000000000000])]
def nU(w:World):Prop:=∀x∈Br,∃ty cT,w.heap[x.1]?=some (.cells (x.2.map (Value.int .u64)).toArray ty cT)
theorem nU.lt(h:nU w){x:Nat×List Int}(aq:x∈Br):x.1<w.heap.size:=by
 obtain⟨ty,cT,e⟩:=h x aq;rcases pE x.1 w.heap.size with h | h
 ·exact h
 simp[Gi h]at e
def Tidy(w:World)(ω:Own):Prop:=nU w/\∀x∈Br,ω x.1=.bG
structure gz (B:eE) (w:World):Prop where
 os:w.os=B.w.os
 tape:w.tape=B.w.tape
 output:w.output=B.w.output
 size:B.w.heap.size<=w.heap.size
 block:∀k,k<B.w.heap.size->¬B.G k->w.heap[k]?=B.w.heap[k]?
 drawn:Jy=true->B.w.drawn<=w.drawn
 laid:nU w
 free:∀x∈Go.Sx.Br,¬B.Dl x.1
theorem nU.next(h:nU w)(k:gA w.heap.size w aN):nU aN:=fun x aq=>by
 rw[k.below.block x.1 (h.lt aq)];exact h x aq
theorem gz.next{B:eE}(h:gz B w)(k:gA w.heap.size w aN):gz B aN:=
 ⟨k.below.os.trans h.os,k.below.tape.trans h.tape,k.below.output.trans h.output,tj h.size k.below.size,fun i hi ax=>(k.below.block i (yE hi h.size)).trans (h.block i hi ax),fun ak=>tj (h.drawn ak) (k.drawn ak),h.laid.next k,h.free⟩
def eE.of(w:World):eE:=⟨w,fun _=>False,fun _=>(0,undef)⟩
theorem gz.refl(B:eE)(h:nU B.w)(ax:∀x∈Br,¬B.G x.1):gz B B.w:=⟨rfl,rfl,rfl,gw _,fun _ _ _=>rfl,fun _=>gw _,h,fun x aq hm=>by
 rcases hm with hm | hm
 ·exact absurd (h.lt aq) (by omega)
 exact ax x aq hm⟩
theorem gz.start{H:Nat->Nat×Value}(h:Tidy w ω):gz ⟨w,fun b=>ω b≠.bG,H⟩ w:=gz.refl ⟨w,fun b=>ω b≠.bG,H⟩ h.1 fun x aq hm=>hm (h.2 x aq)
theorem gz.below(h:gz (eE.of w) aN):gA w.heap.size w aN:=⟨⟨h.os,h.tape,h.output,h.size,fun k ba=>h.block k ba (fun h=>h)⟩,h.drawn⟩
theorem gz.setRow{B:eE}(h:gz B w){b:Nat}(ay:B.Dl b)(arr:Array Value):gz B (w.setRow b arr):=
 ⟨h.os,h.tape,h.output,by simpa using h.size,fun k ba ax=>by
  have:k≠b:=by
   rintro rfl;rcases ay with ay | ay
   ·omega
   exact ax ay
  rw[setRow_other w b k arr this];exact h.block k ba ax,h.drawn,fun x aq=>by
  have:x.1≠b:=fun e=>h.free x aq (e▸ay)
  rw[setRow_other w b x.1 arr this];exact h.laid x aq,h.free⟩
def nT(w0:eE)(w:World)(ω:Own):Prop:=∀b,ω b≠.bG->w0.Dl b/\∃arr ty,w.heap[b]?=some (.cells arr ty (0,0))
def tk(w:World)(ω:Own)(τ:Nat->Nat×Value)(id:Nat)(ls:List aE):Prop:=
 ∃b arr ty,ω b=.box id/\(∀dw,ω dw=.box id->dw=b)/\w.heap[b]?=some (.cells arr ty (0,0))/\kn (Sat w ω τ) ls arr
structure cD (w0:eE) (st:aF) (a:Act) (w:World) (ω:Own) (τ:Nat->Nat×Value):Prop where
 defers:a.defers=[]
 size:a.tmps.size=st.env.length
 below:gz w0 w
 owned:nT w0 w ω
 fixed:∀t,da<=t->τ t=w0.H t
 pinned:∀id b,da<=id->ω b=.box id->(w0.H id).1=b
 env:∀(i:Nat) (p:aG),st.env[i]?=some p->∃v,a.tmps[i]?=some v/\cO (Sat w ω τ) p v
 boxes:∀id ls,dD id st.boxes=some ls->tk w ω τ id ls
def Rel(w0:eE)(st:aF)(a:Act)(w:World):Prop:=∃ω τ,cD w0 st a w ω τ
structure uY (B:eE) (w:World):Prop where
 os:w.os=B.w.os
 tape:w.tape=B.w.tape
 output:w.output=B.w.output
 size:B.w.heap.size<=w.heap.size
 block:∀k,k<B.w.heap.size->¬B.G k->w.heap[k]?=B.w.heap[k]?
 drawn:Jy=true->B.w.drawn<=w.drawn
theorem uY.full{H:Nat->Nat×Value}(h:uY ⟨w,fun b=>ω b≠.bG,H⟩ aN)(bZ:Tidy w ω):gz ⟨w,fun b=>ω b≠.bG,H⟩ aN:=
 ⟨h.os,h.tape,h.output,h.size,h.block,h.drawn,fun x aq=>by
  rw[h.block x.1 (bZ.1.lt aq) fun a'=>a' (bZ.2 x aq)];exact bZ.1 x aq,(gz.start (H:=H) bZ).free⟩
variable{w0:eE}
theorem cD.tidy{st:aF}{a:Act}{bd:Own}{τ:Nat->Nat×Value}(h:cD w0 st a w ω τ)(dj:∀b,ω b=.bG->bd b=.bG):Tidy w bd:=
 ⟨h.below.laid,fun x aq=>dj _ (Classical.byContradiction fun a'=>h.below.free x aq (h.owned _ a').1)⟩
theorem nT.lt(h:nT w0 w ω){b:Nat}(ay:ω b≠.bG):b<w.heap.size:=by
 obtain⟨_,arr,ty,e⟩:=h b ay;rcases pE b w.heap.size with h | h
 ·exact h
 simp[Gi h]at e
theorem nT.fresh(h:nT w0 w ω){b:Nat}(ay:w.heap.size<=b):ω b=.bG:=by
 cases e:ω b with
 | bG=>rfl
 | box id=>have:=h.lt (b:=b) (by simp[e]);omega
 | tok t q=>have:=h.lt (b:=b) (by simp[e]);omega
end Go.Sx
namespace Go.Sx
open Go.RowKit
def eZ.cF(g:Tag->Option Tag):eZ->eZ
 | .J t k es=>match g t with | some dn=>.J dn k es | none=>.cw
 | c=>c
def aE.cF(g:Tag->Option Tag)(p:Nat->Bool):aE->aE
 | .J t k es=>match g t with | some dn=>.J dn k es | none=>.cw
 | .cL t k es i j=>match g t with | some dn=>.cL dn k es i j | none=>.cw
 | .ptr id off=>if p id then .ptr id off else .cw
 | .gC f ids=>if ids.all p then .gC f ids else .cw
 | .aP t i j k es m=>match g (.own t) with | some (.own dn)=>if dn=t then .aP t i j k es m else .cw | _=>.cw
 | .fp t vs=>match g (.own t) with | some (.own dn)=>if dn=t then .fp t (vs.map (eZ.cF g)) else .cw | _=>.cw
 | l=>l
structure lP (w:World) (ω:Own) (τ:Nat->Nat×Value) (aN:World) (bd:Own) (cR:Nat->Nat×Value) (g:Tag->Option Tag) (p:Nat->Bool):Prop where
 rep:∀t dn b q,g t=some dn->b<w.heap.size->t.R q (ω b)->dn.R q (bd b)/\aN.heap[b]?=w.heap[b]?
 eb:∀t dn y,g t=some dn->t.eb τ y->dn.eb cR y
 box:∀id b,p id=true->ω b=.box id->bd b=.box id
 free:g .free=some .free
 fix:∀t,da<=t->cR t=τ t
variable{w aN:World}{ω bd:Own}{τ cR:Nat->Nat×Value}{g:Tag->Option Tag}
theorem D3(h:∀c u,qS w ω τ c u->qS aN bd cR (eZ.cF g c) u){arr:Array Value}{vs:List eZ}
  (a':arr.size=vs.length) (bx:∀(j:Nat) (c:eZ),vs[j]?=some c->∃u,arr[j]?=some u/\qS w ω τ c u):
  arr.size=(vs.map (eZ.cF g)).length/\∀(j:Nat) (c:eZ),(vs.map (eZ.cF g))[j]?=some c->∃u,arr[j]?=some u/\qS aN bd cR c u:=by
 refine⟨by simpa using a',fun j c ao=>?_⟩;rw[dP,ca]at ao;obtain⟨cS,b4,rfl⟩:=ao;obtain⟨u,U,aa⟩:=bx j cS b4;exact⟨u,U,h cS u aa⟩
theorem lP.ly{p:Nat->Bool}(h:lP w ω τ aN bd cR g p)(c:eZ)(u:Value)(ak:qS w ω τ c u):qS aN bd cR (eZ.cF g c) u:=by
 cases c with
 | cw=>exact trivial
 | v x=>exact ak
 | J t k es=>
  simp only[eZ.cF];cases ax:g t with
  | none=>exact trivial
  | some dn=>exact⟨ak.1.frame fun b q ay aL=>h.rep t dn b q ax ay aL,h.eb t dn _ ax ak.2⟩
theorem lP.sat{g:Tag->Option Tag}{p:Nat->Bool}(h:lP w ω τ aN bd cR g p):
  ∀(l:aE) (v:Value),Sat w ω τ l v->Sat aN bd cR (l.cF g p) v:=by
 intro l v ak;cases l with
 | cw=>exact trivial
 | v x=>exact ak
 | bg c=>exact ak
 | J t k es=>
  simp only[aE.cF];cases ax:g t with
  | none=>exact trivial
  | some dn=>exact⟨ak.1.frame fun b q ay aL=>h.rep t dn b q ax ay aL,h.eb t dn _ ax ak.2⟩
 | ptr id off=>
  simp only[aE.cF];split
  ·obtain⟨b,ay,e⟩:=ak;exact⟨b,h.box id b ‹_› ay,e⟩
  exact trivial
 | gC f ids=>
  simp only[aE.cF];split
  ·rename_i hp;obtain⟨bs,e,a',hi⟩:=ak;refine⟨bs,e,a',fun i id hid=>?_⟩;obtain⟨b,U,aa⟩:=hi i id hid;exact⟨b,U,h.box id b (fU.1 hp id (fI hid)) aa⟩
  exact trivial
 | hU ds off=>
  obtain⟨b,e,aH⟩:=ak;exact⟨b,e,aH.frame fun b q ay aL=>h.rep .free .free b q h.free ay aL⟩
 | fd d=>exact b1.frame ak fun b q ay aL=>h.rep .free .free b q h.free ay aL
 | dt t k es=>exact⟨ak.1.frame fun b q ay aL=>h.rep .free .free b q h.free ay aL,fun bZ=>(h.fix t bZ).trans (ak.2 bZ)⟩
 | aP t i j k es m=>
  simp only[aE.cF];split
  ·rename_i dn ax;split
   ·rename_i bZ;subst bZ;obtain⟨u,hu,U,hm⟩:=ak;refine⟨u,hu,U.frame fun c q ao aL=>h.rep _ _ c _ ax ao aL,fun bD=>?_⟩;obtain⟨kT,b,off,len,cap,arr,ty,cT,aa,a6,aB,aJ⟩:=hm bD;have bO:b<w.heap.size:=(jF.1 aB).1;have ba:=h.rep _ _ b [] ax bO a6;exact⟨kT,b,off,len,cap,arr,ty,cT,h.eb _ _ _ ax aa,ba.1,ba.2.trans aB,aJ⟩
   exact trivial
  exact trivial
 | fp t vs=>
  simp only[aE.cF];split
  ·rename_i dn ax;split
   ·rename_i bZ;subst bZ;obtain⟨b,ty,arr,e,a6,aB,a',bx⟩:=ak;have bO:b<w.heap.size:=(jF.1 aB).1;have ba:=h.rep _ _ b [] ax bO a6;exact⟨b,ty,arr,e,ba.1,ba.2.trans aB,D3 (h.ly) a' bx⟩
   exact trivial
  exact trivial
 | cL t k es i j=>
  simp only[aE.cF];cases ax:g t with
  | none=>exact trivial
  | some dn=>
   obtain⟨b,off,cap,e,hi,aH,bD⟩:=ak;exact⟨b,off,cap,e,hi,aH.frame fun b q ay aL=>h.rep t dn b q ax ay aL,h.eb t dn _ ax bD⟩
variable{a:Act}
theorem X3{d:Nat}{v:Value}{i:Nat}:(a.put (some d) v).tmps[i]?=if d=i/\i<a.tmps.size then some v else a.tmps[i]?:=by
 simp only[Act.put,Array.getElem?_setIfInBounds];by_cases h:d=i
 ·subst h;by_cases aa:d<a.tmps.size
  ·simp[aa]
  simp[aa]
 simp[h]
variable{w0:eE}{st:aF}
theorem cD.put(h:cD w0 st a w ω τ){d:Nat}{p:aG}{v:Value}(ak:cO (Sat w ω τ) p v):
  cD w0 ⟨st.env.set d p,st.boxes⟩ (a.put (some d) v) w ω τ where
 defers:=h.defers
 size:=by simp[Act.put,h.size]
 below:=h.below
 owned:=h.owned
 fixed:=h.fixed
 pinned:=h.pinned
 boxes:=h.boxes
 env:=by
  intro i q aL;rw[oM]at aL;rw[X3];by_cases aI:d=i
  ·subst aI;simp only[gy]at aL;split at aL
   ·rename_i bO;have e:=gd aL;subst e;exact⟨v,by rw[bL ⟨rfl,by rw[h.size];exact bO⟩],ak⟩
   cases aL
  rw[bH aI]at aL;rw[bH (by simp[aI])];exact h.env i q aL
theorem cD.GL{p:Nat->Bool}
  (h:cD w0 st a w ω τ) (e:lP w ω τ aN bd cR g p) (qZ:gz w0 aN) (p6:nT w0 aN bd) {bs:List (Nat×List aE)}
  (se:∀id ls,dD id bs=some ls->tk aN bd cR id ls) (vm:∀id b,da<=id->bd b=.box id->ω b=.box id) (tG:∀t,da<=t->cR t=τ t:=by intros;rfl):cD w0 ⟨st.env.map (aG.map (aE.cF g p)),bs⟩ a aN bd cR where
 defers:=h.defers
 size:=by simp[h.size]
 below:=qZ
 owned:=p6
 fixed:=fun t bZ=>(tG t bZ).trans (h.fixed t bZ)
 pinned:=fun id b hi ay=>h.pinned id b hi (vm id b hi ay)
 boxes:=se
 env:=by
  intro i q aL;rw[dP,ca]at aL;obtain⟨f',b4,rfl⟩:=aL;obtain⟨v,U,aa⟩:=h.env i f' b4;exact⟨v,U,cO.map e.sat aa⟩
theorem nu(w:World)(o:Obj):(w.alloc o).heap[w.heap.size]?=some o:=by
 show (w.heap.push o)[_]?=_;simp
theorem wg(w:World)(o:Obj){i:Nat}(h:i<w.heap.size):(w.alloc o).heap[i]?=w.heap[i]?:=Below.heap_alloc w o i h
def pu(id:Nat):List (Nat×List aE)->List (Nat×List aE)
 | []=>[]
 | (i,ls)::r=>if i=id then pu id r else (i,ls)::pu id r
theorem Jz(id:Nat):∀bs,dD id (pu id bs)=none
 | []=>rfl
 | (i,ls)::r=>by
  simp only[pu];split
  ·exact Jz id r
  simp only[dD];rw[bH ‹_›];exact Jz id r
theorem x1{id h1:Nat}(h:h1≠id):∀bs,dD h1 (pu id bs)=dD h1 bs
 | []=>rfl
 | (i,ls)::r=>by
  simp only[pu,dD];by_cases U:i=id
  ·rw[bL U,bH (by omega)];exact x1 h r
  rw[bH U];simp only[dD];split
  ·rfl
  exact x1 h r
def rf:Tag->Option Tag:=some
def jR(id:Nat):Nat->Bool:=fun i=>decide (i≠id)
def aF.tQ(st:aF)(id:Nat)(ls:List aE):aF:=
 let f:=aE.cF rf (jR id)
 ⟨st.env.map (aG.map f),(id,ls.map f)::(pu id st.boxes).map fun x=>(x.1,x.2.map f)⟩
theorem cD.tQ(h:cD w0 st a w ω τ)(id:Nat)(hid:id<da){ls:List aE}{arr:Array Value}(ty:TypeId)
  (ak:kn (Sat w ω τ) ls arr):
  ∃bd,cD w0 (st.tQ id ls) a (w.alloc (.cells arr ty)) bd τ/\bd w.heap.size=.box id:=by
 let bd:Own:=fun b=>if b=w.heap.size then .box id else match ω b with | .box i=>if i=id then .bG else .box i | o=>o
 have gF:bd w.heap.size=.box id:=by simp[bd]
 have hold:∀b,b<w.heap.size->bd b=(match ω b with | .box i=>if i=id then .bG else .box i | o=>o):=by
  intro b ay;simp only[bd];rw[bH (by omega)]
 have iJ:∀b,b≠w.heap.size->bd b=(match ω b with | .box i=>if i=id then .bG else .box i | o=>o):=by
  intro b ay;simp only[bd];rw[bH ay]
 have bn:lP w ω τ (w.alloc (.cells arr ty)) bd τ rf (jR id):=by
  refine⟨?_,?_,?_,rfl,fun _ _=>rfl⟩
  ·intro t dn b q ax ay aL;simp only[rf,aW]at ax;subst ax;refine⟨?_,wg _ _ ay⟩;rw[hold b ay];cases t with
   | free=>simp only[Tag.R]at aL ⊢;rw[aL]
   | own s=>simp only[Tag.R]at aL ⊢;rw[aL]
   | ro s=>
    simp only[Tag.R]at aL ⊢;rcases aL with aL | ⟨dU,aL⟩
    ·rw[aL];exact .inl rfl
    rw[aL];exact .inr ⟨dU,rfl⟩
  ·intro t dn y ax bM;simp only[rf,aW]at ax;subst ax;exact bM
  intro i b hp ay;have bO:=h.owned.lt (b:=b) (by simp[ay]);rw[hold b bO,ay];simp only[jR,c3]at hp;simp[hp]
 have qZ:gz w0 (w.alloc (.cells arr ty)):=h.below.next ((gA.refl _ _).alloc (gw _) _);have p6:nT w0 (w.alloc (.cells arr ty)) bd:=by
  intro b ay;by_cases a':b=w.heap.size
  ·subst a';exact⟨.inl h.below.size,arr,ty,nu _ _⟩
  rw[iJ b a']at ay;have aa:ω b≠.bG:=by intro e;rw[e]at ay;exact ay rfl
  obtain⟨aB,ci,qJ,e⟩:=h.owned b aa;exact⟨aB,ci,qJ,(wg _ _ (h.owned.lt aa)).trans e⟩
 refine⟨bd,?_,gF⟩;refine h.GL bn qZ p6 ?_ (fun i b hi ay=>?_)
 case refine_2=>
  by_cases a':b=w.heap.size
  ·subst a';rw[gF]at ay;simp only[di.box.injEq]at ay;omega
  rw[iJ b a']at ay;cases e:ω b with
  | bG=>simp[e]at ay
  | tok t q=>simp[e]at ay
  | box j=>
   simp only[e]at ay;split at ay
   ·cases ay
   exact ay
 intro i fx ar;simp only[dD]at ar;split at ar
 ·rename_i hi;subst hi;have e:=gd ar;subst e;refine⟨w.heap.size,arr,ty,gF,?_,nu _ _,ak.map bn.sat⟩;intro dw eM;by_cases a':dw=w.heap.size
  ·exact a'
  rw[iJ dw a']at eM;cases e:ω dw with
  | bG=>simp[e]at eM
  | tok t q=>simp[e]at eM
  | box j=>
   simp only[e]at eM;split at eM
   ·cases eM
   rename_i db;simp only[di.box.injEq]at eM;exact absurd eM db
 rename_i hi;rw[sQ,ca]at ar;obtain⟨jm,b4,rfl⟩:=ar;have db:i≠id:=fun e=>hi e.symm
 rw[x1 db]at b4;obtain⟨b,ci,qJ,ay,hu,bD,eN⟩:=h.boxes i jm b4;have bO:=h.owned.lt (b:=b) (by simp[ay]);refine⟨b,ci,qJ,bn.box i b (by simp[jR,db]) ay,?_,(wg _ _ bO).trans bD,eN.map bn.sat⟩;intro dw eM;by_cases a':dw=w.heap.size
 ·subst a';rw[gF]at eM;simp only[di.box.injEq]at eM;exact absurd eM.symm db
 rw[iJ dw a']at eM;refine hu dw ?_;cases e:ω dw with
 | bG=>simp[e]at eM
 | tok t q=>simp[e]at eM
 | box j=>
  simp only[e]at eM;split at eM
  ·cases eM
  exact eM
end Go.Sx
namespace Go.Sx
open Go.RowKit
inductive cJ where
 | one (d:D)
 | agg (ds:List D)
inductive aV where
 | vals (rs:List cJ)
 | iO (src:List (Option Nat)) (ds:List D)
abbrev aV.new (ds : List D) : aV := .iO [] ds
inductive hD where
 | normal
 | exit (id:Nat)
 | ret
inductive cd where
 | own
 | sub
 | qH (vv:List (List (Option (Option (List (List D)))))) (src:Nat) (ds:List D) (rs:List cJ)
 | res (rs:List cJ)
 | dB (vv:List (Option (List D))) (r:aV)
 | loop (Dm:List (Nat×Nat×Nat)) (fF boxes:List Nat) (e:hD) (st:aF)
 | oT (b:Bool)
 | el (ds:List D)
 | wr
 | eq (c:Bool)
 | num (n:Int)
 | fK (p:aG)
 | h' (st:aF)
def cK:List Prop->Prop
 | []=>True
 | p::r=>p/\cK r
theorem cK.append:∀{a b:List Prop},cK (a++b)->cK a/\cK b
 | [],_,h=>⟨ad,h⟩
 | _::_,_,h=>⟨⟨h.1,(cK.append h.2).1⟩,(cK.append h.2).2⟩
abbrev j2:=Option (aG×List cd×List Prop)
def Cw:Value->aG
 | .agg cs=>.agg (cs.toList.map .v)
 | v=>.one (.v v)
def aF.bn(st:aF):Operand->aG
 | .tmp t=>st.env.getD t .cw
 | .const v=>Cw v
 | .func f=>.one (.fd (.a8 f []))
 | _=>.cw
theorem ao3(w:World)(ω:Own)(τ:Nat->Nat×Value)(v:Value):cO (Sat w ω τ) (Cw v) v:=by
 unfold Cw;split
 ·rename_i cs;refine⟨cs,rfl,by simp,fun i l ar=>?_⟩;rw[dP,ca]at ar;obtain⟨u,hu,rfl⟩:=ar;exact⟨u,by simpa using hu,rfl⟩
 exact rfl
variable{w:World}{ω:Own}{τ:Nat->Nat×Value}
theorem cD.bn{w0:eE}{st:aF}{a:Act}(h:cD w0 st a w ω τ)(x:Operand):cO (Sat w ω τ) (st.bn x) (a.eval x):=by
 cases x with
 | tmp t=>
  simp only[aF.bn,Act.eval];cases e:st.env[t]? with
  | none=>
   rw[kY,e];exact trivial
  | some p=>
   obtain⟨v,bx,ak⟩:=h.env t p e;rw[kY,e];simpa[eR,bx]using ak
 | const v=>exact ao3 w ω τ v
 | global g=>exact trivial
 | func f=>exact b1.a8 _ f [] #[] (fun _=>undef) rfl (fun j d aI=>by simp at aI) (fun j d aI=>by simp at aI)
def aE.val:aE->Option Value
 | .v x=>some x
 | .bg c=>some (.bool c)
 | _=>none
variable{y:Value}
theorem aE.VR{l:aE}{x:Value}(h:l.val=some x)(ak:Sat w ω τ l y):y=x:=by
 cases l<;>simp[aE.val]at h
 ·subst h;exact ak
 subst h;exact ak
def aG.leaf:aG->Option aE
 | .aC (.one l)=>some l
 | _=>none
theorem aG.dN{S:aE->Value->Prop}{p:aG}{l:aE}(h:p.leaf=some l)(ak:cO S p y):S l y:=by
 cases p with
 | fN as=>cases h
 | aC a=>
  cases a with
  | agg ls=>cases h
  | one gH=>simp only[aG.leaf,aW]at h;subst h;exact ak
def aG.int(p:aG):Option (IntKind×Int):=
 match p.leaf with
 | some (.v (.int k n))=>some (k,n)
 | _=>none
variable{p:aG}{k:IntKind}
theorem aG.oc{n:Int}(h:p.int=some (k,n))(ak:cO (Sat w ω τ) p y):y=.int k n:=by
 unfold aG.int at h;split at h
 ·rename_i cu Z7 e;simp only[aW,bA]at h;obtain⟨rfl,rfl⟩:=h;exact aG.dN e ak
 cases h
def aG.vals:aG->Option (List Value)
 | .aC (.agg ls)=>ls.mapM aE.val
 | _=>none
theorem PF{w:World}{ω:Own}{τ:Nat->Nat×Value}:∀{ls:List aE} {xs:List Value},ls.mapM aE.val=some xs->∀{vs:List Value},vs.length=ls.length->(∀(i:Nat) (l:aE),ls[i]?=some l->∃u,vs[i]?=some u/\Sat w ω τ l u)->vs=xs
 | [],xs,h,vs,a',_=>by
  simp at h;subst h;exact yD a'
 | l::ls,xs,h,vs,a',ak=>by
  rw[yF]at h;cases e:l.val with
  | none=>simp[e]at h
  | some x=>
   cases e2:ls.mapM aE.val with
   | none=>simp[e,e2]at h
   | some ys=>
    simp[e,e2]at h;subst h;cases vs with
    | nil=>simp at a'
    | cons v vs=>
     obtain⟨u,hu,eN⟩:=ak 0 l rfl;simp at hu;subst hu;rw[aE.VR e eN]
     congr 1
     exact PF e2 (by simpa using a') (fun i gH ar=>by have:=ak (i+1) gH (by simpa using ar);simpa using this)
theorem aG.awM{xs:List Value}(h:p.vals=some xs)(ak:cO (Sat w ω τ) p y):y=.agg xs.toArray:=by
 cases p with
 | fN as=>cases h
 | aC a=>
  cases a with
  | one l=>cases h
  | agg ls=>
   obtain⟨vs,rfl,a',bx⟩:=ak;have:=PF (w:=w) (ω:=ω) (τ:=τ) h (vs:=vs.toList) (by simpa using a') (fun i l ar=>by obtain⟨u,U,aa⟩:=bx i l ar;exact⟨u,by simpa using U,aa⟩);rw[<-this]
def aK(k:IntKind)(e:Int):Prop:=
 match k with
 | .i64=>-9223372036854775808<=e/\e<=9223372036854775807
 | k=>k.wrap e=e
theorem aK.wrap{e:Int}(h:aK k e):k.wrap e=e:=by
 cases k<;>first | exact h | (simp only[aK]at h;rw[IntKind.wrap_i64];omega)
def arith(k:IntKind)(e:Int)(ans:List cd):j2:=
 match ans with
 | .wr::r=>some (.one (.v (.int k (k.wrap e))),r,[])
 | _=>some (.one (.v (.int k e)),ans,[aK k e])
variable{ans cm:List cd}{obs:List Prop}
theorem x2{e:Int}(h:arith k e ans=some (p,cm,obs))(bc:cK obs):cO (Sat w ω τ) p (.int k (k.wrap e)):=by
 unfold arith at h;split at h
 ·simp only[aW,bA]at h;obtain⟨rfl,_,_⟩:=h;exact rfl
 simp only[aW,bA]at h;obtain⟨rfl,_,rfl⟩:=h;rw[bc.1.wrap];exact rfl
def fz(P:Program)(op:BinOp)(t:TypeId)(x y:Operand)(u v c:Value):Prop:=
 ∀w:World,((do eqGuard op t x y u v;binOp op t u v:Sem Value)).run P w=.ok c w
def JA(op:BinOp)(k:IntKind)(x y:Int)(ans:List cd):j2:=
 match op with
 | .add=>arith k (x+y) ans
 | .sub=>arith k (x-y) ans
 | .mul=>arith k (x*y) ans
 | .quo=>(arith k (x.tdiv y) ans).map fun r=>(r.1,r.2.1,(y≠0)::r.2.2)
 | .rem=>some (.one (.v (.int k (x.tmod y))),ans,[y≠0])
 | .eql=>some (.one (.bg (x==y)),ans,[])
 | .neq=>some (.one (.bg (x != y)),ans,[])
 | .lss=>some (.one (.bg (decide (x<y))),ans,[])
 | .leq=>some (.one (.bg (decide (x<=y))),ans,[])
 | .gtr=>some (.one (.bg (decide (x>y))),ans,[])
 | .geq=>some (.one (.bg (decide (x>=y))),ans,[])
 | _=>none
variable{P:Program}{op:BinOp}
theorem ao4{x y:Int}(t:TypeId)(aah aai:Operand)
  (h:JA op k x y ans=some (p,cm,obs)) (bc:cK obs):
  ∃v,((do eqGuard op t aah aai (.int k x) (.int k y);binOp op t (.int k x) (.int k y):Sem Value)).run P w=.ok v w/\cO (Sat w ω τ) p v:=by
 rw[eqGuard_at_int];simp only[Sem.run_bind,Sem.run_pure,Result.andThen_ok];cases op<;>simp only[JA,aW,bA,reduceCtorEq]at h
 case add=>exact⟨_,by rw[binOp_add];rfl,x2 h bc⟩
 case sub=>exact⟨_,by rw[binOp_sub];rfl,x2 h bc⟩
 case mul=>exact⟨_,by rw[binOp_mul];rfl,x2 h bc⟩
 case quo=>
  rw[ca]at h;obtain⟨⟨qi,cI,qf⟩,U,aa⟩:=h;simp only[bA]at aa;obtain⟨rfl,rfl,rfl⟩:=aa;refine⟨_,?_,x2 U bc.2⟩;rw[binOp_quo];simp[Op.intDiv,bc.1]
 case rem=>
  obtain⟨rfl,_,rfl⟩:=h;refine⟨_,?_,rfl⟩;rw[binOp_rem];simp[Op.intDiv,bc.1]
 case eql=>obtain⟨rfl,_,rfl⟩:=h;exact⟨_,by rw[binOp_eql];rfl,rfl⟩
 case neq=>obtain⟨rfl,_,rfl⟩:=h;exact⟨_,by rw[binOp_neq];rfl,rfl⟩
 case lss=>obtain⟨rfl,_,rfl⟩:=h;exact⟨_,by rw[binOp_lss];rfl,rfl⟩
 case leq=>obtain⟨rfl,_,rfl⟩:=h;exact⟨_,by rw[binOp_leq];rfl,rfl⟩
 case gtr=>obtain⟨rfl,_,rfl⟩:=h;exact⟨_,by rw[binOp_gtr];rfl,rfl⟩
 case geq=>obtain⟨rfl,_,rfl⟩:=h;exact⟨_,by rw[binOp_geq];rfl,rfl⟩
def aG.value(p:aG):Option Value:=
 match p with
 | .aC (.one l)=>l.val
 | p=>p.vals.map fun xs=>.agg xs.toArray
theorem aG.yx{x:Value}(h:p.value=some x)(ak:cO (Sat w ω τ) p y):y=x:=by
 unfold aG.value at h;split at h
 ·exact aE.VR h ak
 rw[ca]at h;obtain⟨xs,U,rfl⟩:=h;exact aG.awM U ak
def wh(P:Program)(t:TypeId):Option Bool:=
 match P.underlying t with
 | some (.struct _) | some (.array _ _)=>some true
 | some _=>some false
 | none=>none
variable{t:TypeId}
theorem x3{b:Bool}(h:wh P t=some b)(w:World):(isAgg t).run P w=.ok b w:=by
 unfold wh at h;unfold isAgg;split at h
 ·rename_i hu;simp only[aW]at h;subst h;simp[run_underlying hu]
 ·rename_i hu;simp only[aW]at h;subst h;simp[run_underlying hu]
 ·rename_i d U aa hu;simp only[aW]at h;subst h;rw[Sem.run_bind,run_underlying hu];cases d<;>first | rfl | (exact absurd rfl (U _)) | (exact absurd rfl (aa _ _))
 cases h
def Dq(P:Program)(t:TypeId)(cs:Array Value)(off:Nat):Option Value:=
 match wh P t,P.info? t with
 | some true,some i=>some (.agg (cs.extract off (off+i.size)))
 | some false,_=>cs[off]?
 | _,_=>none
variable{v:Value}
theorem PG{cs:Array Value}{off:Nat}(h:Dq P t cs off=some v)(w:World):(part t cs off).run P w=.ok v w:=by
 unfold Dq at h;split at h
 ·rename_i i e1 e2;simp only[aW]at h;subst h;simp[part,x3 e1,sizeOf,typeInfo,e2]
 ·rename_i e1;simp[part,x3 e1,h]
 cases h
def yV(P:Program)(f:TypeId->Value->Value->Option Bool)(xs ys:Array Value):List Field->Option Bool
 | []=>some true
 | fd::r=>
  if fd.name = "_" then none else
  match Dq P fd.type xs fd.offset,Dq P fd.type ys fd.offset with
  | some a,some b=>
   match f fd.type a b with
   | some c=>
    match r with
    | []=>some c
    | r=>(yV P f xs ys r).map fun j5=>c&&j5
   | none=>none
  | _,_=>none
def wX(P:Program):Nat->TypeId->Value->Value->Option Bool
 | 0,_,_,_=>none
 | m+1,t,x,y=>
  match P.underlying t,x,y with
  | some .bool,.bool a,.bool b=>some (a==b)
  | some (.int _),.int k a,.int cu b=>if k=cu then some (a==b) else none
  | some .string,.string a,.string b=>some (a.toList==b.toList)
  | some (.struct eG),.agg xs,.agg ys=>if P.stoodInHeld t then none else yV P (wX P m) xs ys eG.toList
  | _,_,_=>none
theorem PH{d:Nat}{f:TypeId->Value->Value->Option Bool}(b8:∀t x y c,f t x y=some c->∀w,(Op.equalIn d t x y).run P w=.ok c w){xs ys:Array Value}:
  ∀{eG:List Field} {c:Bool},yV P f xs ys eG=some c->∀w,(Op.eqFields d xs ys eG).run P w=.ok c w
 | [],c,h,w=>by simp only[yV,aW]at h;subst h;simp[Op.eqFields]
 | fd::r,c,h,w=>by
  simp only[yV]at h;split at h
  ·cases h
  rename_i a';split at h
  ·rename_i a b e1 e2;split at h
   ·rename_i bK cn;simp only [Op.eqFields, bL (show fd.name ≠ "_" from a'), Sem.run_bind, PG e1, PG e2, Result.andThen_ok, b8 _ _ _ _ cn, Sem.run_ite];split at h
    ·simp only[aW]at h;subst h;cases bK<;>simp[Op.eqFields]
    ·rw[ca]at h;obtain⟨ct,U,rfl⟩:=h;have:=PH b8 U w;cases bK<;>simp[this]
   cases h
  cases h
theorem PI:∀{m:Nat} {t:TypeId} {x y:Value} {c:Bool},wX P m t x y=some c->∀(d:Nat) (w:World),(Op.equalIn (d+m) t x y).run P w=.ok c w
 | 0,_,_,_,_,h,_,_=>by cases h
 | m+1,t,x,y,c,h,d,w=>by
  rw[show d+(m+1)=(d+m)+1 from rfl];simp only[wX]at h;split at h
  ·rename_i a b e;simp only[aW]at h;subst h;exact run_equalIn_bool w _ t a b e
  ·rename_i cu k a bQ b e;split at h
   ·rename_i ba;subst ba;simp only[aW]at h;subst h;exact run_equalIn_int w _ t k cu a b e
   cases h
  ·rename_i a b e;simp only[aW]at h;subst h;exact run_equalIn_string w _ t a b e
  ·rename_i eG xs ys e;split at h
   ·cases h
   rename_i ak;have Ot:P.fieldsOf t=eG:=by simp[Program.fieldsOf,e]
   rw[run_equalIn_struct w _ t xs ys (by rw[Ot];exact e) (by simpa using ak),Ot];exact PH (fun t x y c h w=>PI h d w) h w
  cases h
def GK(P:Program)(op:BinOp)(t:TypeId)(u v:Value):Option Bool:=
 match op,u,v with
 | .eql,.agg xs,.agg ys=>if P.eqGuardType P.depth t then none else wX P 20 t (.agg xs) (.agg ys)
 | .neq,.agg xs,.agg ys=>if P.eqGuardType P.depth t then none else (wX P 20 t (.agg xs) (.agg ys)).map fun c=>!c
 | .eql,.bool a,.bool b=>match P.underlying t with | some .bool=>some (a==b) | _=>none
 | .neq,.bool a,.bool b=>match P.underlying t with | some .bool=>some (!(a==b)) | _=>none
 | .eql,.string a,.string b=>match P.underlying t with | some .string=>some (a.toList==b.toList) | _=>none
 | .neq,.string a,.string b=>match P.underlying t with | some .string=>some (!(a.toList==b.toList)) | _=>none
 | _,_,_=>none
theorem ao5{x y:Operand}{u:Value}{c:Bool}(h:GK P op t u v=some c):fz P op t x y u v (.bool c):=by
 intro w;have fa:∀{x y:Value} {c:Bool},wX P 20 t x y=some c->(Op.equalIn 10000 t x y).run P w=.ok c w:=fun h=>PI h 9980 w
 unfold GK at h;split at h
 ·rename_i xs ys;split at h
  ·cases h
  rename_i ax;simp[run_eqGuard_agg w .eql t x y xs ys (by simpa using ax),run_eql_struct,fa h]
 ·rename_i xs ys;split at h
  ·cases h
  rename_i ax;rw[ca]at h;obtain⟨j5,U,rfl⟩:=h;simp[run_eqGuard_agg w .neq t x y xs ys (by simpa using ax),run_neq_struct,fa U]
 ·rename_i a b;split at h
  ·rename_i e;simp only[aW]at h;subst h;simp[eqGuard,binOp,run_equal_bool w t a b e]
  cases h
 ·rename_i a b;split at h
  ·rename_i e;simp only[aW]at h;subst h;simp[eqGuard,binOp,run_equal_bool w t a b e]
  cases h
 ·rename_i a b;split at h
  ·simp only[aW]at h;subst h;simp[eqGuard,binOp,Op.stringOp,beq_toListBytes]
  cases h
 ·rename_i a b;split at h
  ·simp only[aW]at h;subst h;simp[eqGuard,binOp,Op.stringOp,beq_toListBytes]
  cases h
 cases h
def JB(P:Program)(op:BinOp)(t:TypeId)(x y:Operand)(p q:aG)(ans:List cd):j2:=
 match p.int,q.int with
 | some (k,a),some (cu,b)=>
  match (if k=cu then JA op k a b ans else none) with
  | some r=>some r
  | none=>
   match ans with
   | .fK (.aC (.one (.v c)))::r=>some (.one (.v c),r,[fz P op t x y (.int k a) (.int cu b) c])
   | _=>none
 | _,_=>
  match (match p.value,q.value with | some u,some v=>GK P op t u v | _,_=>none) with
  | some c=>some (.one (.bg c),ans,[])
  | none=>
  match p.value,q.value,ans with
  | some u,some v,.eq c::r=>some (.one (.bg c),r,[fz P op t x y u v (.bool c)])
  | some u,some v,.fK (.aC (.one (.v c)))::r=>some (.one (.v c),r,[fz P op t x y u v c])
  | _,_,_=>none
theorem ao6{x y:Operand}{q r:aG}{u:Value}
  (hp:cO (Sat w ω τ) p u) (aL:cO (Sat w ω τ) q v) (h:JB P op t x y p q ans=some (r,cm,obs)) (bc:cK obs):
  ∃z,((do eqGuard op t x y u v;binOp op t u v:Sem Value)).run P w=.ok z w/\cO (Sat w ω τ) r z:=by
 unfold JB at h;split at h
 ·rename_i k a cu b e1 e2;rw[aG.oc e1 hp,aG.oc e2 aL];split at h
  ·rename_i mI cn;simp only[aW]at h;subst h;split at cn
   ·rename_i ba;subst ba;exact ao4 t x y cn bc
   cases cn
  split at h
  ·rename_i c mI _;simp only[aW,bA]at h;obtain⟨rfl,_,rfl⟩:=h;exact⟨_,bc.1 w,rfl⟩
  cases h
 split at h
 ·rename_i c bz;simp only[aW,bA]at h;obtain⟨rfl,_,_⟩:=h;split at bz
  ·rename_i td mK e1 e2;rw[aG.yx e1 hp,aG.yx e2 aL];exact⟨_,ao5 bz w,rfl⟩
  cases bz
 split at h
 ·rename_i td mK c mI e1 e2;simp only[aW,bA]at h;obtain⟨rfl,_,rfl⟩:=h;rw[aG.yx e1 hp,aG.yx e2 aL];exact⟨_,bc.1 w,rfl⟩
 ·rename_i td mK c mI e1 e2;simp only[aW,bA]at h;obtain⟨rfl,_,rfl⟩:=h;rw[aG.yx e1 hp,aG.yx e2 aL];exact⟨_,bc.1 w,rfl⟩
 cases h
end Go.Sx
namespace Go.Sx
open Go.RowKit
def Tag.Fm:Tag->Tag
 | .free=>.free
 | .own t=>.ro t
 | .ro t=>.ro t
theorem Tag.Mp{t:Tag}{q dU:List (Nat×Nat)}{o:di}(h:t.R q o):t.Fm.R dU o:=by
 cases t with
 | free=>exact h
 | own s=>exact .inr ⟨q,h⟩
 | ro s=>exact h
variable{τ:Nat->Nat×Value}
theorem Tag.Mq{t:Tag}{y:Nat×Value}:t.Fm.eb τ y:=by cases t<;>exact trivial
def D.leaf(t:Tag):D->aE
 | .v (.bool c)=>.bg c
 | .v x=>.v x
 | .J k es=>.J t.Fm k es
 | .ptr ds=>match t with | .free=>.hU ds 0 | _=>.cw
 | .a8 g bt=>match t with | .free=>.fd (.a8 g bt) | _=>.cw
variable{w:World}{ω:Own}
theorem D.dN{τ:Nat->Nat×Value}{t:Tag}{p:Nat×Nat}{d:D}{u:Value}(h:b1 w ω (fun q=>t.R (p::q)) d u):Sat w ω τ (d.leaf t) u:=by
 cases d with
 | v x=>
  have e:u=x:=by cases h;rfl
  subst e;unfold D.leaf;split
  ·rename_i h;cases h;exact rfl
  ·rename_i h;cases h;exact rfl
  ·grind
  ·grind
  grind
 | J k es=>exact⟨h.frame fun b q ay aL=>⟨Tag.Mp aL,rfl⟩,Tag.Mq⟩
 | ptr ds=>
  cases t with
  | free=>
   have aa:b1 w ω Tag.free.R (.ptr ds) u:=h;have aB:=aa;cases aB with
   | ptr R ds b arr ty cT us ay dY ak hu aI=>exact⟨b,rfl,aa⟩
  | own s=>exact trivial
  | ro s=>exact trivial
 | a8 g bt=>
  cases t with
  | free=>exact h
  | own s=>exact trivial
  | ro s=>exact trivial
def D.Pe(t i j:Nat):D->aE
 | .J k es=>.aP t i j k es .here
 | d=>d.leaf (.own t)
def ud(t i:Nat):Nat->List D->List aE
 | _,[]=>[]
 | j,d::ds=>d.Pe t i j::ud t i (j+1) ds
theorem PJ(t i:Nat):∀(ds:List D) (j x:Nat),(ud t i j ds)[x]?=(ds[x]?).map (D.Pe t i (j+x))
 | [],_,_=>by simp[ud]
 | d::ds,j,0=>by simp[ud]
 | d::ds,j,x+1=>by
  simp only[ud,mL,PJ t i ds (j+1) x];rw[show j+1+x=j+(x+1) by omega]
theorem PK(t i:Nat):∀(ds:List D) (j:Nat),(ud t i j ds).length=ds.length
 | [],_=>rfl
 | d::ds,j=>by simp[ud,PK t i ds (j+1)]
def JC(P:Program)(s:TypeId)(f:Nat):Option Nat:=
 match P.underlying s with
 | some (.struct eG)=>
  match eG[f]? with
  | some fd=>
   match P.info? fd.type with
   | some i=>if i.size=0 then none else some fd.offset
   | none=>none
  | none=>none
 | _=>none
theorem ql(b off n:Nat):(⟨b,off,none⟩:Addr).add n=⟨b,off+n,none⟩:=by
 simp_all[Addr.add]
variable{P:Program}{off:Nat}
theorem D4{s:TypeId}{f:Nat}(h:JC P s f=some off)(w:World)(b o:Nat):
  (Instr.fieldAt s (.pointer (some ⟨b,o,none⟩)) f).run P w=.ok (.pointer (some ⟨b,o+off,none⟩)) w:=by
 unfold JC at h;split at h
 ·rename_i eG hu;split at h
  ·rename_i fd b8;split at h
   ·rename_i i hi;split at h
    ·cases h
    rename_i bp;simp only[aW]at h;subst h;simp[Instr.fieldAt,run_underlying hu,b8,Instr.sureAddr,fieldPlace,sizeOf,typeInfo,hi,bp,ql]
   cases h
  cases h
 cases h
def JD(P:Program)(s:TypeId)(p:aG)(f:Nat)(ans:List cd):j2:=
 match JC P s f,p.leaf with
 | some off,some (.ptr id o)=>some (.one (.ptr id (o+off)),ans,[])
 | some off,some (.cL t k es i j)=>some (.one (.cL t k es i (j+off)),ans,[])
 | some off,some (.hU ds o)=>some (.one (.hU ds (o+off)),ans,[])
 | some off,some (.aP t i j k es (.at_ x y))=>some (.one (.aP t i j k es (.at_ x (y+off))),ans,[])
 | _,_=>none
variable{p r:aG}{v:Value}{ans cm:List cd}{obs:List Prop}
theorem ao7{s:TypeId}{f:Nat}
  (hp:cO (Sat w ω τ) p v) (h:JD P s p f ans=some (r,cm,obs)):
  ∃z,(Instr.fieldAt s v f).run P w=.ok z w/\cO (Sat w ω τ) r z:=by
 unfold JD at h;split at h
 ·rename_i off id o e1 e2;simp only[aW,bA]at h;obtain⟨rfl,_,rfl⟩:=h;obtain⟨b,ay,rfl⟩:=aG.dN e2 hp;exact⟨_,D4 e1 w b o,b,ay,rfl⟩
 ·rename_i off t k es i j e1 e2;simp only[aW,bA]at h;obtain⟨rfl,_,rfl⟩:=h;obtain⟨b,o,cap,rfl,hi,aH,bD⟩:=aG.dN e2 hp;exact⟨_,D4 e1 w b _,b,o,cap,by grind,hi,aH,bD⟩
 ·rename_i off ds o e1 e2;simp only[aW,bA]at h;obtain⟨rfl,_,rfl⟩:=h;obtain⟨b,rfl,aH⟩:=aG.dN e2 hp;exact⟨_,D4 e1 w b o,b,rfl,aH⟩
 ·rename_i off t i j k es x y e1 e2;simp only[aW,bA]at h;obtain⟨rfl,_,rfl⟩:=h;obtain⟨u,⟨b,o,cap,rfl,rfl,aq⟩,aH,hm⟩:=aG.dN e2 hp;exact⟨_,D4 e1 w b _,_,⟨b,o,cap,rfl,by grind,aq⟩,aH,fun _=>hm rfl⟩
 cases h
def qm(P:Program)(t:TypeId):Option (TypeId×Nat):=
 match P.underlying t with
 | some (.slice e)=>(P.info? e).map fun i=>(e,i.size)
 | _=>none
variable{t:TypeId}
theorem wi{e:TypeId}{k:Nat}(h:qm P t=some (e,k)):P.underlying t=some (.slice e)/\∃i,P.info? e=some i/\i.size=k:=by
 unfold qm at h;split at h
 ·rename_i e' hu;rw[ca]at h;grind
 cases h
def aE.flat:aE->aE
 | .dt _ k es=>.J .free k es
 | l=>l
def aG.kQ(p:aG):Option aE:=p.leaf.map aE.flat
variable{y:Value}{l:aE}
theorem aG.vr(h:p.kQ=some l)(ak:cO (Sat w ω τ) p y):Sat w ω τ l y:=by
 unfold aG.kQ at h;rw[ca]at h;obtain⟨eW,b4,rfl⟩:=h;have:=aG.dN b4 ak;unfold aE.flat;split
 ·exact⟨this.1,ad⟩
 exact this
def JE(P:Program)(t:TypeId)(p q:aG)(ans:List cd):j2:=
 match qm P t,p.kQ,q.int with
 | some (_,k),some (.J tag cu es),some (_,n)=>if k=cu then some (.one (.cL tag cu es n.toNat 0),ans,[0<=n,n<(es.length:Int)]) else none
 | some (_,k),some (.aP s i j cu es .here),some (_,n)=>if k=cu then some (.one (.aP s i j cu es (.at_ n.toNat 0)),ans,[0<=n,n<(es.length:Int)]) else none
 | _,_,_=>none
theorem ao8{q:aG}{u:Value}
  (hp:cO (Sat w ω τ) p u) (aL:cO (Sat w ω τ) q v) (h:JE P t p q ans=some (r,cm,obs)) (bc:cK obs):
  ∃z,(Instr.indexAt t u v).run P w=.ok z w/\cO (Sat w ω τ) r z:=by
 unfold JE at h;split at h
 ·rename_i e k tag cu es zM n e1 e2 cn;split at h
  ·rename_i ba;subst ba;simp only[aW,bA]at h;obtain⟨rfl,_,rfl⟩:=h;obtain⟨hu,i,hi,bp⟩:=wi e1;obtain⟨aH,bD⟩:=aG.vr e2 hp;rw[aG.oc cn aL];have b4:0<=n:=bc.1;have U:n<(es.length:Int):=bc.2.1;cases aH with
   | nil=>grind
   | row R k es b off cap arr ty cT us ay dY ao ak ba jN aI=>
    refine⟨.pointer (some ⟨b,off+n.toNat*k+0,none⟩),?_,b,off,cap,rfl,by omega,.row _ k es b off cap arr ty cT us ay dY ao ak ba jN aI,bD⟩;simp[Instr.indexAt,run_underlying hu,asIntOf,b4,U,sizeOf,typeInfo,hi,bp,ql]
  cases h
 ·rename_i e k s Bp Bq cu es zM n e1 e2 cn;split at h
  ·rename_i ba;subst ba;simp only[aW,bA]at h;obtain⟨rfl,_,rfl⟩:=h;obtain⟨hu,i,hi,bp⟩:=wi e1;obtain⟨fy,rfl,aH,hm⟩:=aG.vr e2 hp;rw[aG.oc cn aL];have b4:0<=n:=bc.1;have U:n<(es.length:Int):=bc.2.1;cases aH with
   | nil=>grind
   | row R k es b off cap arr ty cT us ay dY ao ak ba jN aI=>
    refine⟨.pointer (some ⟨b,off+n.toNat*k+0,none⟩),?_,_,⟨b,off,cap,rfl,rfl,by omega⟩,.row _ k es b off cap arr ty cT us ay dY ao ak ba jN aI,hm⟩;simp[Instr.indexAt,run_underlying hu,asIntOf,b4,U,sizeOf,typeInfo,hi,bp,ql]
  cases h
 cases h
theorem ao9{P:Program}{b n:Nat}{arr:Array Value}{ty:TypeId}{cT:Nat×Nat}(ay:w.heap[b]?=some (.cells arr ty cT))(a':off+n<=arr.size):
  (loadCells ⟨b,off,none⟩ n).run P w=.ok (arr.extract off (off+n)) w:=by
 have ar:((arr.extract off (off+n)).toList).length=n:=by simp;omega
 have:=run_loadCells_list (P:=P) w ⟨b,off,none⟩ (arr.extract off (off+n)).toList (fun j v bx=>by
  rw[ql,cell_of_row w b (off+j) arr ty cT ay];grind)
 rw[ar,Array.toArray_toList]at this;exact this
def rj(agg:Bool)(n:Nat)(ls:List aE)(off:Nat):Option aG:=
 if agg then (if off+n<=ls.length then some (.agg ((ls.drop off).take n)) else none)
 else (ls[off]?).map fun l=>.one l
theorem x4{P:Program}{ω:Own}{τ:Nat->Nat×Value}{agg:Bool}{i:TypeInfo}{ls:List aE}(aj:wh P t=some agg)(hi:P.info? t=some i)
  (h:rj agg i.size ls off=some p) {b base:Nat} {arr:Array Value} {ty:TypeId} {cT:Nat×Nat} (ay:w.heap[b]?=some (.cells arr ty cT)) (dI:base+ls.length<=arr.size)
  (ak:∀(j:Nat) (l:aE),ls[j]?=some l->∃u,arr[base+j]?=some u/\Sat w ω τ l u):
  ∃z,(loadVar t ⟨b,base+off,none⟩).run P w=.ok z w/\cO (Sat w ω τ) p z:=by
 unfold rj at h;cases agg with
 | true=>
  simp only[gy]at h;split at h
  ·rename_i hle;simp only[aW]at h;subst h;refine⟨.agg (arr.extract (base+off) (base+off+i.size)),?_,?_⟩
   ·simp[loadVar,x3 aj,sizeOf,typeInfo,hi,ao9 (P:=P) ay (show base+off+i.size<=arr.size by omega)]
   refine⟨_,rfl,by simp;omega,fun j l ar=>?_⟩;grind
  cases h
 | false=>
  simp only[nM,lN,ca]at h;obtain⟨l,ar,rfl⟩:=h;obtain⟨u,U,aa⟩:=ak _ l ar;refine⟨u,?_,aa⟩;simp[loadVar,x3 aj,cell_of_row w b (base+off) arr ty cT ay,U]
def D5(P:Program)(st:aF)(t:TypeId)(p:aG)(ans:List cd):j2:=
 match wh P t,P.info? t,p.leaf with
 | some agg,some i,some (.ptr id off)=>
  match dD id st.boxes with
  | some ls=>(rj agg i.size ls off).map fun r=>(r,ans,[])
  | none=>none
 | some agg,some i,some (.cL tag k es x j)=>
  match ans with
  | .el ds::r=>if ds.length=k then (rj agg i.size (ds.map (D.leaf tag)) j).map fun v=>(v,r,[es[x]?=some ds]) else none
  | .sub::.el ds::r=>
   match tag with
   | .own t=>if ds.length=k then (rj agg i.size (ud t x 0 ds) j).map fun v=>(v,r,[es[x]?=some ds]) else none
   | _=>none
  | _=>none
 | some agg,some i,some (.hU ds off)=>(rj agg i.size (ds.map (D.leaf .free)) off).map fun r=>(r,ans,[])
 | some agg,some i,some (.aP s _ _ k es (.at_ x y))=>
  match ans with
  | .el ds::r=>if ds.length=k then (rj agg i.size (ds.map (D.leaf (.ro s))) y).map fun v=>(v,r,[es[x]?=some ds]) else none
  | _=>none
 | _,_,_=>none
variable{w0:eE}{a:Act}{st:aF}
theorem apa
  (aZ:cD w0 st a w ω τ) (hp:cO (Sat w ω τ) p v) (h:D5 P st t p ans=some (r,cm,obs)) (bc:cK obs):
  ∃z,(Instr.loadAt t v).run P w=.ok z w/\cO (Sat w ω τ) r z:=by
 unfold D5 at h;split at h
 ·rename_i agg i id off e1 e2 cn;split at h
  ·rename_i ls df;rw[ca]at h;obtain⟨mI,U,h⟩:=h;simp only[bA]at h;obtain⟨rfl,rfl,rfl⟩:=h;obtain⟨b,ay,rfl⟩:=aG.dN cn hp;obtain⟨dw,arr,ty,eM,Da,Ht,dI,eN⟩:=aZ.boxes id ls df;have:=Da b ay;subst this;have:=x4 (P:=P) e1 e2 U Ht (base:=0) (by omega) (fun j l ar=>by simpa using eN j l ar);grind[Instr.loadAt,Instr.sureAddr]
  cases h
 ·rename_i agg i tag k es x j e1 e2 cn;split at h
  ·rename_i ds hB;split at h
   ·rename_i hlen;rw[ca]at h;obtain⟨mI,U,h⟩:=h;simp only[bA]at h;obtain⟨rfl,rfl,rfl⟩:=h;have eU:es[x]?=some ds:=bc.1;obtain⟨b,off,cap,rfl,hi,aH,bD⟩:=aG.dN cn hp;cases aH with
    | nil=>simp at hi
    | row R k es b off cap arr ty cT us ay dY ao ak ba hu aI=>
     have Oy:x*k+k<=cap*k:=by
      have:(x+1)*k<=cap*k:=hN k (by omega);grind
     have:=x4 (P:=P) (τ:=τ) (ω:=ω) e1 e2 U ay (base:=off+x*k) (by grind) (fun jk l ar=>by
      rw[dP,ca]at ar;obtain⟨d,aa,rfl⟩:=ar;have ao:c5 es x jk=some d:=by grind[c5]
      exact⟨us x jk,hu x jk d ao,D.dN (aI x jk d ao)⟩)
     grind[Instr.loadAt,Instr.sureAddr]
   cases h
  ·rename_i ds hB;split at h
   ·rename_i t;split at h
    ·rename_i hlen;rw[ca]at h;obtain⟨mI,U,h⟩:=h;simp only[bA]at h;obtain⟨rfl,rfl,rfl⟩:=h;have eU:es[x]?=some ds:=bc.1;obtain⟨b,off,cap,rfl,hi,aH,bD⟩:=aG.dN cn hp;cases aH with
     | nil=>simp at hi
     | row R k es b off cap arr ty cT us ay dY ao ak ba hu aI=>
      have Oy:x*k+k<=cap*k:=by
       have:(x+1)*k<=cap*k:=hN k (by omega);grind
      have:=x4 (P:=P) (τ:=τ) (ω:=ω) e1 e2 U ay (base:=off+x*k) (by grind[PK]) (fun jk l ar=>by
       rw[PJ,ca]at ar;obtain⟨d,aa,rfl⟩:=ar;rw[dW];have ao:c5 es x jk=some d:=by grind[c5]
       have CQ:=aI x jk d ao;refine⟨us x jk,hu x jk d ao,?_⟩;cases d with
       | J bQ bS=>exact⟨_,rfl,CQ,fun _=>⟨k,b,off,es.length,cap,arr,ty,cT,bD,dY,ay,hu x jk _ ao⟩⟩
       | v z=>exact D.dN (t:=.own t) (p:=(x,jk)) CQ
       | ptr ds=>exact D.dN (t:=.own t) (p:=(x,jk)) CQ
       | a8 g cs=>exact D.dN (t:=.own t) (p:=(x,jk)) CQ)
      grind[Instr.loadAt,Instr.sureAddr]
    cases h
   cases h
  cases h
 ·rename_i agg i ds off e1 e2 cn;rw[ca]at h;obtain⟨mI,U,h⟩:=h;simp only[bA]at h;obtain⟨rfl,rfl,rfl⟩:=h;obtain⟨b,rfl,aH⟩:=aG.dN cn hp;have eS:b1 w ω Tag.free.R (.ptr ds) (.pointer (some ⟨b,0,none⟩)):=aH;cases eS with
  | ptr R ds b arr ty cT us ay dY ak hu aI=>
   have:=x4 (P:=P) (τ:=τ) (ω:=ω) e1 e2 U ay (base:=0) (by simp;omega) (fun jk l ar=>by
    rw[dP,ca]at ar;obtain⟨d,aa,rfl⟩:=ar;exact⟨us jk,by grind,D.dN (p:=(0,jk)) (aI jk d aa)⟩)
   grind[Instr.loadAt,Instr.sureAddr]
 ·rename_i agg i s Bp Bq k es x y e1 e2 cn;split at h
  ·rename_i ds hB;split at h
   ·rename_i hlen;rw[ca]at h;obtain⟨mI,U,h⟩:=h;simp only[bA]at h;obtain⟨rfl,rfl,rfl⟩:=h;have eU:es[x]?=some ds:=bc.1;obtain⟨fy,⟨b,off,cap,rfl,rfl,hi⟩,aH,hm⟩:=aG.dN cn hp;cases aH with
    | nil=>simp at hi
    | row R k es b off cap arr ty cT us ay dY ao ak ba hu aI=>
     have Oy:x*k+k<=cap*k:=by
      have:(x+1)*k<=cap*k:=hN k (by omega);grind
     have:=x4 (P:=P) (τ:=τ) (ω:=ω) e1 e2 U ay (base:=off+x*k) (by grind) (fun jk l ar=>by
      rw[dP,ca]at ar;obtain⟨d,aa,rfl⟩:=ar;have ao:c5 es x jk=some d:=by grind[c5]
      refine⟨us x jk,hu x jk d ao,D.dN (t:=.ro s) (p:=(x,jk)) ((aI x jk d ao).frame fun b q _ aL=>⟨.inr ⟨_,aL⟩,rfl⟩)⟩)
     grind[Instr.loadAt,Instr.sureAddr]
   cases h
  cases h
 cases h
def JF(P:Program)(t:TypeId)(p:aG)(ans:List cd):j2:=
 match P.underlying t,p.kQ with
 | some (.slice _),some (.J _ _ es)=>some (.one (.v (.int .i64 es.length)),ans,[])
 | some (.slice _),some (.v (.slice _ n _))=>some (.one (.v (.int .i64 n)),ans,[])
 | some (.slice _),some (.aP _ _ _ _ es .here)=>some (.one (.v (.int .i64 es.length)),ans,[])
 | some (.slice _),some (.aP _ _ _ _ es .lQ)=>some (.one (.v (.int .i64 es.length)),ans,[])
 | some .string,some (.v (.string s))=>some (.one (.v (.int .i64 s.size)),ans,[])
 | _,_=>none
theorem b1.len{R:List (Nat×Nat)->di->Prop}{k:Nat}{es:List (List D)}(h:b1 w ω R (.J k es) y):∃b c,y=.slice b es.length c:=by
 cases h with
 | nil=>simp_all
 | row R k es b off cap arr ty cT us ay dY ao ak ba hu aI=>grind
theorem apb{ty:TypeId}
  (hp:cO (Sat w ω τ) p v) (h:JF P t p ans=some (r,cm,obs)):
  ∃z,(Builtin.len_ #[t] ty #[v]).run P w=.ok z w/\cO (Sat w ω τ) r z:=by
 unfold JF at h;split at h
 ·rename_i e Ft k es e1 e2;simp only[aW,bA]at h;obtain⟨rfl,_,rfl⟩:=h;obtain⟨aH,_⟩:=aG.vr e2 hp;obtain⟨b,c,rfl⟩:=aH.len;exact⟨_,by simp[Builtin.len_,run_underlying e1];rfl,rfl⟩
 ·rename_i e b n c e1 e2;simp only[aW,bA]at h;obtain⟨rfl,_,rfl⟩:=h;have:v=.slice b n c:=aG.vr e2 hp;subst this;exact⟨_,by simp[Builtin.len_,run_underlying e1];rfl,rfl⟩
 ·rename_i e s Bp Bq k es e1 e2;simp only[aW,bA]at h;obtain⟨rfl,_,rfl⟩:=h;obtain⟨fy,rfl,aH,_⟩:=aG.vr e2 hp;obtain⟨b,c,rfl⟩:=aH.len;exact⟨_,by simp[Builtin.len_,run_underlying e1];rfl,rfl⟩
 ·rename_i e s Bp Bq k es e1 e2;simp only[aW,bA]at h;obtain⟨rfl,_,rfl⟩:=h;obtain⟨fy,rfl,aH,_⟩:=aG.vr e2 hp;obtain⟨b,c,rfl⟩:=aH.len;exact⟨_,by simp[Builtin.len_,run_underlying e1];rfl,rfl⟩
 ·rename_i s e1 e2;simp only[aW,bA]at h;obtain⟨rfl,_,rfl⟩:=h;have:v=.string s:=aG.vr e2 hp;subst this;exact⟨_,by simp[Builtin.len_,run_underlying e1];rfl,rfl⟩
 cases h
theorem PL{es:List (List D)}{l n i j:Nat}{d:D}(h:c5 ((es.drop l).take n) i j=some d):i<n/\c5 es (l+i) j=some d:=by
 grind[c5]
theorem b1.sub{R iE:List (Nat×Nat)->di->Prop}{k:Nat}{es:List (List D)}{b cap:Nat}(h:b1 w ω R (.J k es) (.slice (some ⟨b,off,none⟩) es.length cap))
  {l m:Nat} (ar:l<=m) (hm:m<=es.length) (CI:∀o,R [] o->iE [] o) (axN:∀i j q o,l<=i->R ((i,j)::q) o->iE ((i-l,j)::q) o):
  b1 w ω iE (.J k ((es.drop l).take (m-l))) (sliced (some ⟨b,off,none⟩) l m cap k):=by
 cases h with
 | nil=>
  grind[sliced,b1.nil]
 | row R k es b off cap arr ty cT us ay dY ao ak ba hu aI=>
  have hlen:((es.drop l).take (m-l)).length=m-l:=by simp;omega
  have hmul:l*k+(cap-l)*k=cap*k:=by rw[<-hq];grind
  have key:∀qf:Nat,(cap=l\/qf=off+l*k)->qf+(cap-l)*k<=arr.size->
    b1 w ω iE (.J k ((es.drop l).take (m-l))) (.slice (some ⟨b,qf,none⟩) (m-l) (cap-l)):=by
   intro qf bc dI;have bp:cap=l->m-l=0:=fun e=>by omega
   have aH:=b1.row (w:=w) (ω:=ω) iE k ((es.drop l).take (m-l)) b qf (cap-l) arr ty cT (fun i j=>us (l+i) j) ay (CI _ dY) (by omega) dI
    (fun e he=>ba e (wM (uU he)))
    (fun i j d vg=>by
     obtain⟨hi,Oj⟩:=PL vg;grind)
    (fun i j d vg=>by
     obtain⟨hi,Oj⟩:=PL vg;refine (aI (l+i) j d Oj).frame fun b q _ aL=>⟨?_,rfl⟩
     grind)
   grind
  unfold sliced;split
  ·grind
  simp only[rR,ql];grind
def aE.view:aE->aE
 | .aP t _ _ k es .here=>.J (.ro t) k es
 | .aP t _ _ k es .lQ=>.J (.ro t) k es
 | .dt _ k es=>.J .free k es
 | l=>l
theorem aE.Mt(ak:Sat w ω τ l y):Sat w ω τ l.view y:=by
 unfold aE.view;split
 ·obtain⟨fy,rfl,aH,_⟩:=ak;exact⟨aH.frame fun b q _ aL=>⟨.inr ⟨_,aL⟩,rfl⟩,ad⟩
 ·obtain⟨fy,rfl,aH,_⟩:=ak;exact⟨aH.frame fun b q _ aL=>⟨.inr ⟨_,aL⟩,rfl⟩,ad⟩
 ·exact⟨ak.1,ad⟩
 exact ak
theorem aG.Mt(h:p.leaf.map aE.view=some l)(ak:cO (Sat w ω τ) p y):Sat w ω τ l y:=by
 rw[ca]at h;obtain⟨eW,b4,rfl⟩:=h;grind[aE.Mt,aG.dN]
def l5(st:aF):Option Operand->Option (Option Int)
 | none=>some none
 | some x=>((st.bn x).int).map fun p=>some p.2
def D6(P:Program)(st:aF)(t:TypeId)(p:aG)(cW hi iM:Option Operand)(ans:List cd):j2:=
 match qm P t,p.leaf.map aE.view,iM with
 | some (_,k),some (.J tag cu es),none=>
  if k=cu then
   match l5 st cW,l5 st hi with
   | some l,some h=>some (.one (.J tag.Fm k ((es.drop (l.getD 0).toNat).take ((h.getD es.length).toNat-(l.getD 0).toNat))),ans,[0<=l.getD 0,l.getD 0<=h.getD es.length,h.getD es.length<=es.length])
   | _,_=>none
  else none
 | _,_,_=>none
theorem zW{len cap:Nat}{cW hi:Option Value}{l h:Int}(ar:cW=none/\l=0\/∃k,cW=some (.int k l))(bD:hi=none/\h=len\/∃k,hi=some (.int k h))
  (b4:0<=l) (U:l<=h) (aa:h<=cap):(Instr.sliceBounds true len cap cW hi none).run P w=.ok (l.toNat,h.toNat,cap) w:=by
 have axy:(h.toNat:Int)=h:=Int.toNat_of_nonneg (by omega);have aB:0<=h:=by omega
 rcases ar with⟨rfl,rfl⟩ | ⟨k,rfl⟩<;>rcases bD with⟨rfl,rfl⟩ | ⟨cu,rfl⟩<;>
  simp_all[Instr.sliceBounds,run_sliceBound]
theorem zX(aZ:cD w0 st a w ω τ){x:Option Operand}{r:Option Int}(h:l5 st x=some r):
  (x.map a.eval=none/\r=none)\/∃k n,x.map a.eval=some (.int k n)/\r=some n:=by
 cases x with
 | none=>simp_all[l5]
 | some x=>
  simp only[l5,ca]at h;obtain⟨⟨k,n⟩,U,aa⟩:=h;exact .inr ⟨k,n,by simp[aG.oc U (aZ.bn x)],aa.symm⟩
theorem apc{cW hi iM:Option Operand}
  (aZ:cD w0 st a w ω τ) (hp:cO (Sat w ω τ) p v) (h:D6 P st t p cW hi iM ans=some (r,cm,obs)) (bc:cK obs):
  ∃z,(Instr.sliceAt t v (cW.map a.eval) (hi.map a.eval) (iM.map a.eval)).run P w=.ok z w/\cO (Sat w ω τ) r z:=by
 unfold D6 at h;split at h
 ·rename_i e k tag cu es e1 e2;split at h
  ·rename_i ba;subst ba;split at h
   ·rename_i l bD cn ed;simp only[aW,bA]at h;obtain⟨rfl,_,rfl⟩:=h;obtain⟨hu,i,nh,bp⟩:=wi e1;obtain⟨aH,_⟩:=aG.Mt e2 hp;obtain⟨cC,cg,cE,_⟩:=bc;have aB:=zX aZ cn;have aJ:=zX aZ ed;have p1:(cW.map a.eval=none/\l.getD 0=0)\/∃k,cW.map a.eval=some (.int k (l.getD 0)):=by
     grind
    have q4:(hi.map a.eval=none/\bD.getD es.length=es.length)\/∃k,hi.map a.eval=some (.int k (bD.getD es.length)):=by
     grind
    cases aH with
    | nil _ _ a0=>
     simp only[eh] at*;have bz:l.getD 0=0:=by omega
     have XU:bD.getD ((0:Nat):Int)=0:=by omega
     refine⟨.slice a0 0 0,?_,?_⟩
     ·simp only[Instr.sliceAt,Sem.run_bind,run_underlying hu,Result.andThen_ok,Instr.slice,Option.map_none];rw[zW p1 q4 cC cg cE];simp_all[sizeOf,typeInfo]
     refine⟨?_,Tag.Mq⟩;simp only[List.drop_nil,List.take_nil];exact .nil _ _ _
    | row R k es b off cap arr ty cT us ay dY ao ak ba jN aI=>
     refine⟨sliced (some ⟨b,off,none⟩) (l.getD 0).toNat (bD.getD es.length).toNat cap k,?_,?_,Tag.Mq⟩
     ·simp only[Instr.sliceAt,Sem.run_bind,run_underlying hu,Result.andThen_ok,Instr.slice,Option.map_none];rw[zW p1 q4 cC cg (by omega)];simp_all[sizeOf,typeInfo,sliced]
     exact b1.sub (.row _ k es b off cap arr ty cT us ay dY ao ak ba jN aI) (by omega) (by omega) (fun o h=>Tag.Mp h) (fun i j q o _ h=>Tag.Mp h)
   cases h
  cases h
 cases h
end Go.Sx
namespace Go.Sx
open Go.RowKit
def aE.ok:aE->Bool
 | .cw=>false
 | .v x=>x.oneCell'
 | _=>true
variable{w:World}{ω:Own}{y:Value}
theorem b1.pk{R:List (Nat×Nat)->di->Prop}{d:D}(h:b1 w ω R d y):y.oneCell'=true:=by
 cases h with
 | v R x U=>exact U
 | nil=>rfl
 | row=>rfl
 | ptr=>rfl
 | a8=>rfl
variable{τ:Nat->Nat×Value}
theorem aE.Pp{l:aE}(h:l.ok=true)(ak:Sat w ω τ l y):y.oneCell'=true:=by
 cases l with
 | cw=>cases h
 | v x=>have:y=x:=ak;subst this;exact h
 | bg c=>have:y=.bool c:=ak;subst this;rfl
 | J t k es=>exact ak.1.pk
 | ptr id off=>obtain⟨b,_,rfl⟩:=ak;rfl
 | cL t k es i j=>obtain⟨b,off,cap,rfl,_⟩:=ak;rfl
 | hU ds off=>obtain⟨b,rfl,_⟩:=ak;rfl
 | fd d=>exact b1.pk ak
 | dt t k es=>exact ak.1.pk
 | gC g ids=>obtain⟨bs,rfl,_⟩:=ak;rfl
 | aP t i j k es m=>
  obtain⟨u,hu,aH,_⟩:=ak;cases m with
  | at_ x y=>obtain⟨b,off,cap,_,rfl,_⟩:=hu;rfl
  | here=>have:y=u:=hu;subst this;exact aH.pk
  | lQ=>have:y=u:=hu;subst this;exact aH.pk
 | fp t vs=>obtain⟨b,ty,arr,rfl,_⟩:=ak;rfl
theorem zY(h:y.oneCell'=true):y.cells=#[y]:=by
 cases y<;>first | rfl | grind[Value.oneCell']
def aG.leaves:aG->Option (List aE)
 | .aC (.one l)=>if l.ok then some [l] else none
 | .aC (.agg ls)=>if ls.all aE.ok then some ls else none
 | _=>none
variable{p:aG}{ls:List aE}
theorem aG.xv(h:p.leaves=some ls)(ak:cO (Sat w ω τ) p y):
  kn (Sat w ω τ) ls y.cells/\∀u∈y.cells.toList,u.oneCell'=true:=by
 unfold aG.leaves at h;split at h
 ·rename_i l;split at h
  ·rename_i cN;simp only[aW]at h;subst h;have U:=aE.Pp cN ak;rw[zY U];refine⟨⟨rfl,fun i gH ar=>?_⟩,by grind⟩;cases i with
   | zero=>simp at ar;subst ar;exact⟨y,rfl,ak⟩
   | succ i=>simp at ar
  cases h
 ·rename_i fx;split at h
  ·rename_i cN;simp only[aW]at h;subst h;obtain⟨vs,rfl,a',bx⟩:=ak;refine⟨⟨a',bx⟩,fun u hu=>?_⟩;obtain⟨i,hi⟩:=oN.1 hu;have bO:i<fx.length:=by
    grind[Value.cells]
   obtain⟨td,U,aa⟩:=bx i fx[i] (by simp);have e:u=td:=by
    have:(Value.agg vs).cells.toList[i]?=vs[i]?:=by simp[Value.cells]
    grind
   grind[aE.Pp,oP]
  cases h
 cases h
theorem PM(off:Nat):∀(vs:List Value) (k:Nat) (cells:Array Value) (i:Nat),off+k+vs.length<=cells.size->
  ((vs.zipIdx k).foldl (fun cs (x:Value×Nat)=>cs.setIfInBounds (off+x.2) x.1) cells)[i]?=if off+k<=i/\i<off+k+vs.length then vs[i-(off+k)]? else cells[i]?
 | [],k,cells,i,_=>by simp;grind
 | v::vs,k,cells,i,h=>by
  simp only[List.zipIdx_cons,List.foldl_cons,ic]at h ⊢;rw[PM off vs (k+1) _ i (by simp;omega),Array.getElem?_setIfInBounds];grind
theorem PN(off:Nat):∀(l:List (Value×Nat)) (cells:Array Value),(l.foldl (fun cs (x:Value×Nat)=>cs.setIfInBounds (off+x.2) x.1) cells).size=cells.size
 | [],_=>rfl
 | x::l,cells=>by simp_all[List.foldl_cons,PN]
def tq(ls:List aE)(off:Nat)(xs:List aE):List aE:=ls.take off++(xs++ls.drop (off+xs.length))
variable{off:Nat}
theorem PO{xs:List aE}{i:Nat}(h:off+xs.length<=ls.length):(tq ls off xs)[i]?=if off<=i/\i<off+xs.length then xs[i-off]? else ls[i]?:=by
 unfold tq;grind
theorem JG{xs:List aE}(h:off+xs.length<=ls.length):(tq ls off xs).length=ls.length:=by
 grind[tq]
def qW(place:Nat->Option (Nat×Nat))(ls:List aE):List (Nat×aG)->Option (List aE)
 | []=>some ls
 | (i,p)::rest=>
  match place i,p.leaves with
  | some (off,size),some xs=>if xs.length=size/\off+size<=ls.length then qW place (tq ls off xs) rest else none
  | _,_=>none
theorem JH{place:Nat->Option (Nat×Nat)}:∀{parts:List (Nat×aG)} {vals:List (Nat×Value)} {ls r:List aE} {cells:Array Value},
  parts.length=vals.length->(∀(j:Nat) i p,parts[j]?=some (i,p)->∃v,vals[j]?=some (i,v)/\cO (Sat w ω τ) p v)->qW place ls parts=some r->kn (Sat w ω τ) ls cells->
  ∃out,Instr.fill place cells vals=some out/\kn (Sat w ω τ) r out
 | [],vals,ls,r,cells,a',_,h,ak=>by
  have:vals=[]:=yD (by grind);subst this;simp only[qW,aW]at h;subst h;exact⟨cells,rfl,ak⟩
 | (i,p)::parts,vals,ls,r,cells,a',hp,h,ak=>by
  obtain⟨v,bx,eN⟩:=hp 0 i p rfl;cases vals with
  | nil=>simp at bx
  | cons x vals=>
   simp only[lg,aW]at bx;subst bx;simp only[qW]at h;split at h
   ·rename_i off size xs e1 e2;split at h
    ·rename_i ao;obtain⟨lW,lp⟩:=ao;obtain⟨⟨dI,xp⟩,_⟩:=aG.xv e2 eN;have xn:v.cells.size=size:=by omega
     have o5:off+v.cells.size<=cells.size:=by have:=ak.1;omega
     have gF:kn (Sat w ω τ) (tq ls off xs) (v.cells.zipIdx.foldl (fun cs (c,j)=>cs.setIfInBounds (off+j) c) cells):=by
      have e:v.cells.zipIdx.foldl (fun cs (c,j)=>cs.setIfInBounds (off+j) c) cells=(v.cells.toList.zipIdx 0).foldl (fun cs (x:Value×Nat)=>cs.setIfInBounds (off+x.2) x.1) cells:=by
       rw[<-Array.foldl_toList];simp
      rw[e];refine⟨by rw[PN,JG (by omega)];exact ak.1,fun j l ar=>?_⟩;rw[PO (by omega)]at ar;rw[PM off _ 0 _ _ (by simp;omega)];simp only[NH,nO];by_cases bm:off<=j/\j<off+xs.length
      ·grind
      rw[bH bm]at ar;rw[bH (by omega)];exact ak.2 _ _ ar
     obtain⟨out,U,aa⟩:=JH (parts:=parts) (vals:=vals) (by grind) (fun j fE qi bm=>by have:=hp (j+1) fE qi (by grind);grind) h gF;simp_all[Instr.fill,bH]
    cases h
   cases h
def JI(P:Program)(t:TypeId)(f:Nat):Option (Nat×Nat):=
 match P.underlying t with
 | some (.struct eG)=>
  match eG[f]? with
  | some fd=>(P.info? fd.type).map fun i=>(fd.offset,i.size)
  | none=>none
 | _=>none
def D7(P:Program)(st:aF)(t:TypeId)(parts:List (Nat×Operand))(ans:List cd):j2:=
 match P.underlying t,P.info? t with
 | some (.struct eG),some i=>
  match i.zero with
  | some z=>
   if eG.toList.all fun f=>(P.info? f.type).isSome then
    (qW (JI P t) (z.cells.toList.map .v) (parts.map fun x=>(x.1,st.bn x.2))).map fun ls=>(.agg ls,ans,[])
   else none
  | none=>none
 | _,_=>none
theorem PQ{P:Program}(w:World):∀(eG:List Field),(∀f∈eG,(P.info? f.type).isSome=true)->
  (eG.mapM fun f=>(do pure (f.offset,<-sizeOf f.type):Sem (Nat×Nat))).run P w=.ok (eG.map fun f=>(f.offset,((P.info? f.type).map (·.size)).getD 0)) w
 | [],_=>by simp
 | f::eG,h=>by
  obtain⟨i,hi⟩:=qO.1 (h f (by simp));have eO:=PQ (P:=P) w eG (fun g ax=>h g (by simp[ax]));simp only[yF,Sem.run_bind,sizeOf,typeInfo,run_program,Result.andThen_ok,hi,Sem.run_pure,mM,rR,kZ];simp_all[Sem.run_bind,sizeOf,typeInfo,Sem.run_pure]
theorem D8{P:Program}{α β:Type}(f:α->Sem β)(xs:Array α)(w:World)(r:List β)(h:(xs.toList.mapM f).run P w=.ok r w):(xs.mapM f).run P w=.ok r.toArray w:=by
 rw[<-Array.toArray_toList (xs:=xs),List.mapM_toArray];simp_all
variable{P:Program}{w0:eE}{a:Act}{st:aF}{t:TypeId}{r:aG}{ans cm:List cd}{obs:List Prop}
theorem apd{parts:Array (Nat×Operand)}
  (aZ:cD w0 st a w ω τ) (h:D7 P st t parts.toList ans=some (r,cm,obs)):
  ∃z,(Instr.build t (parts.map fun (i,x)=>(i,a.eval x))).run P w=.ok z w/\cO (Sat w ω τ) r z:=by
 unfold D7 at h;split at h
 ·rename_i eG i hu hi;split at h
  ·rename_i z bp;split at h
   ·rename_i hQ;rw[ca]at h;obtain⟨ls,U,h⟩:=h;simp only[bA]at h;obtain⟨rfl,_,_⟩:=h;have De:kn (Sat w ω τ) (z.cells.toList.map .v) z.cells:=by
     refine⟨by simp,fun j l ar=>?_⟩;rw[dP,ca]at ar;obtain⟨u,hu,rfl⟩:=ar;exact⟨u,by grind,rfl⟩
    obtain⟨out,aa,aB⟩:=JH (vals:=parts.toList.map fun x=>(x.1,a.eval x.2)) (by simp) (fun j fE p bm=>by
     rw[dP,ca]at bm;obtain⟨⟨i2,x⟩,aq,e⟩:=bm;simp only[bA]at e;obtain⟨rfl,rfl⟩:=e;exact⟨a.eval x,by grind,aZ.bn x⟩) U De
    have hm:=D8 (P:=P) (fun f:Field=>(do pure (f.offset,<-sizeOf f.type):Sem (Nat×Nat))) eG w _ (PQ (P:=P) w eG.toList (fun f b8=>fU.1 hQ f b8));have o':(fun x=>(eG.toList.map fun f=>(f.offset,((P.info? f.type).map (·.size)).getD 0)).toArray[x]?)=JI P t:=by
     funext x;simp only[oK,dP,lJ,JI,hu];cases aq:eG[x]? with
     | none=>rfl
     | some fd=>
      have:(P.info? fd.type).isSome=true:=fU.1 hQ fd (by grind);obtain⟨fE,nh⟩:=qO.1 this;simp[nh]
    refine⟨.agg out,?_,out,rfl,aB⟩;simp only[Instr.build,Sem.run_bind,zeroValue,typeInfo,run_program,Result.andThen_ok,hi,Sem.run_pure,bp,run_underlying hu,hm,o'];simp_all
   cases h
  cases h
 cases h
def JJ(p:aG)(kO:Nat)(ans:List cd):j2:=
 match p with
 | .fN as=>(as[kO]?).map fun a=>(.aC a,ans,[])
 | _=>none
variable{v:Value}
theorem ape{P:Program}{kO:Nat}
  (hp:cO (Sat w ω τ) p v) (h:JJ p kO ans=some (r,cm,obs)):∃z,(Instr.extract v kO).run P w=.ok z w/\cO (Sat w ω τ) r z:=by
 unfold JJ at h;split at h
 ·rename_i as;rw[ca]at h;obtain⟨aC,U,h⟩:=h;simp only[bA]at h;obtain⟨rfl,_,_⟩:=h;obtain⟨vs,rfl,a',bx⟩:=hp;obtain⟨u,aa,aB⟩:=bx _ _ U;exact⟨u,by simp[Instr.extract,aa],aB⟩
 cases h
def JK(P:Program)(t:TypeId)(p:aG)(f:Nat)(ans:List cd):j2:=
 match P.underlying t with
 | some (.struct eG)=>
  match eG[f]? with
  | some fd=>
   match wh P fd.type,P.info? fd.type,p with
   | some agg,some i,.aC (.agg ls)=>(rj agg i.size ls fd.offset).map fun r=>(r,ans,[])
   | _,_,_=>none
  | none=>none
 | _=>none
theorem apf{f:Nat}
  (hp:cO (Sat w ω τ) p v) (h:JK P t p f ans=some (r,cm,obs)):∃z,(Instr.field t v f).run P w=.ok z w/\cO (Sat w ω τ) r z:=by
 unfold JK at h;split at h
 ·rename_i eG hu;split at h
  ·rename_i fd b8;split at h
   ·rename_i agg i ls e1 e2;rw[ca]at h;obtain⟨mI,U,h⟩:=h;simp only[bA]at h;obtain⟨rfl,_,_⟩:=h;obtain⟨vs,rfl,a',bx⟩:=hp;unfold rj at U;cases agg with
    | true=>
     simp only[gy]at U;split at U
     ·rename_i hle;simp only[aW]at U;subst U;refine⟨.agg (vs.extract fd.offset (fd.offset+i.size)),by simp[Instr.field,run_underlying hu,b8,asAgg,part,x3 e1,sizeOf,typeInfo,e2],_,rfl,by simp;omega,fun j l ar=>?_⟩;grind
     cases U
    | false=>
     simp only[nM,lN,ca]at U;obtain⟨l,ar,rfl⟩:=U;obtain⟨u,U,aa⟩:=bx _ l ar;exact⟨u,by simp_all[Instr.field,run_underlying,asAgg,part,x3],aa⟩
   cases h
  cases h
 cases h
def JL(op:UnOp)(p:aG)(ans:List cd):j2:=
 match op,p.leaf with
 | .not,some (.bg c)=>some (.one (.bg (!c)),ans,[])
 | .not,some (.v (.bool c))=>some (.one (.v (.bool (!c))),ans,[])
 | .neg,some (.v (.int k n))=>arith k (0-n) ans
 | _,_=>none
theorem apg{op:UnOp}
  (hp:cO (Sat w ω τ) p v) (h:JL op p ans=some (r,cm,obs)) (bc:cK obs):∃z,(Op.unary op v).run P w=.ok z w/\cO (Sat w ω τ) r z:=by
 unfold JL at h;split at h
 ·rename_i c e;simp only[aW,bA]at h;obtain⟨rfl,_,_⟩:=h;have:v=.bool c:=aG.dN e hp;subst this;exact⟨_,rfl,rfl⟩
 ·rename_i c e;simp only[aW,bA]at h;obtain⟨rfl,_,_⟩:=h;have:v=.bool c:=aG.dN e hp;subst this;exact⟨_,rfl,rfl⟩
 ·rename_i k n e;have:v=.int k n:=aG.dN e hp;subst this;exact⟨_,rfl,x2 h bc⟩
 cases h
def dC(c a b:aG)(ans:List cd):j2:=
 match c.leaf with
 | some (.v (.bool true))=>some (a,ans,[])
 | some (.v (.bool false))=>some (b,ans,[])
 | some (.bg c)=>
  match ans with
  | .oT true::r=>some (a,r,[c=true])
  | .oT false::r=>some (b,r,[c=false])
  | _=>none
 | _=>none
variable{u:Value}
theorem aph{c a b:aG}{x:Value}
  (ao:cO (Sat w ω τ) c u) (aj:cO (Sat w ω τ) a x) (ay:cO (Sat w ω τ) b y) (h:dC c a b ans=some (r,cm,obs)) (bc:cK obs):
  ∃z,(do pure (.value (if <-asBool u then x else y)):Sem Next).run P w=.ok (.value z) w/\cO (Sat w ω τ) r z:=by
 unfold dC at h;split at h
 ·rename_i e;simp only[aW,bA]at h;obtain⟨rfl,_,_⟩:=h;have:u=.bool true:=aG.dN e ao;subst this;exact⟨x,rfl,aj⟩
 ·rename_i e;simp only[aW,bA]at h;obtain⟨rfl,_,_⟩:=h;have:u=.bool false:=aG.dN e ao;subst this;exact⟨y,rfl,ay⟩
 ·rename_i j5 e;have:u=.bool j5:=aG.dN e ao;subst this;split at h
  ·simp only[aW,bA]at h;obtain⟨rfl,_,rfl⟩:=h;have vg:j5=true:=bc.1;subst vg;exact⟨x,rfl,aj⟩
  ·simp only[aW,bA]at h;obtain⟨rfl,_,rfl⟩:=h;have vg:j5=false:=bc.1;subst vg;exact⟨y,rfl,ay⟩
  cases h
 cases h
def sR:List (List D)->Option (List Int)
 | []=>some []
 | [.v (.int .u8 n)]::r=>(sR r).map (n::·)
 | _=>none
theorem PR:∀{es:List (List D)} {xs:List Int},sR es=some xs->xs.length=es.length/\∀i,i<xs.length->c5 es i 0=some (.v (.int .u8 (xs.getD i 0)))/\∀e,es[i]?=some e->e.length=1
 | [],xs,h=>by
  simp_all[sR,aW]
 | e::r,xs,h=>by
  unfold sR at h;split at h
  ·grind
  ·rename_i n mI he;obtain⟨rfl,rfl⟩:=aw9 he;rw[ca]at h;obtain⟨ys,U,rfl⟩:=h;obtain⟨aa,aB⟩:=PR U;refine⟨by simp[aa],fun i hi=>?_⟩;cases i with
   | zero=>exact⟨rfl,fun e he=>by grind⟩
   | succ i=>
    simp only[ic,Nat.add_lt_add_iff_right]at hi;grind[c5]
  cases h
theorem cell_of_heap{w:World}{b:Nat}{arr:Array Value}{ty:TypeId}{cT:Nat×Nat}(ay:w.heap[b]?=some (.cells arr ty cT))(h:arr[off]?=some v):w.cell? ⟨b,off,none⟩=some v:=by
 unfold World.cell?;simp[ay,h]
def aE.VD:aE->Option (List (List D))
 | .J _ 1 es=>some es
 | _=>none
def JM(P:Program)(src dst:TypeId)(p:aG)(ans:List cd):j2:=
 match P.underlying src,P.underlying dst,p.int with
 | some _,some (.int k),some (_,n)=>arith k n ans
 | some (.slice e),some .string,none=>
  match P.underlying e,p.leaf.bind aE.VD,ans with
  | some (.int .u8),some es,.fK (.aC (.one (.v (.string s))))::r=>some (.one (.v (.string s)),r,[(sR es).map strOfNums=some s])
  | _,_,_=>none
 | _,_,_=>none
theorem aoT{src dst:TypeId}
  (hp:cO (Sat w ω τ) p v) (h:JM P src dst p ans=some (r,cm,obs)) (bc:cK obs):∃z,(convert src dst v).run P w=.ok z w/\cO (Sat w ω τ) r z:=by
 unfold JM at h;split at h
 ·rename_i d k zM n e1 e2 cn;rw[aG.oc cn hp];exact⟨_,by simp_all[convert,run_underlying,Conv.intToInt],x2 h bc⟩
 ·rename_i e e1 e2 cn;split at h
  ·rename_i es s mI ed hP;simp only[aW,bA]at h;obtain⟨rfl,_,rfl⟩:=h;have lX:(sR es).map strOfNums=some s:=bc.1;rw[ca]at lX;obtain⟨xs,U,rfl⟩:=lX;obtain⟨aa,aB⟩:=PR U;rw[mf]at hP;obtain⟨l,mr,oV⟩:=hP;have ar:=aG.dN mr hp;unfold aE.VD at oV;split at oV
   ·rename_i t cv;simp only[aW]at oV;subst oV;obtain⟨aH,_⟩:=ar;refine⟨.string (strOfNums xs),?_,rfl⟩;cases aH with
    | nil R k a=>
     have:xs=[]:=List.length_eq_zero_iff.1 (by grind);subst this;cases a with
     | none=>exact run_convert_bytes_nil w src e e1 ed 0 0 dst e2
     | some a=>
      rw[run_convert_bytes_string w src dst e _ 0 0 e1 ed e2];exact run_bytesToString w a 0 0 [] (run_loadCells_list w a [] (fun j v bm=>by simp at bm))
    | row R k _ b off cap arr ty cT us ay dY ao ak ba hu aI=>
     refine run_convert_bytes_arg w src e e1 ed b off cv.length cap xs aa (fun i hi=>?_) dst e2;obtain⟨aJ,_⟩:=aB i (by omega);have a6:=hu i 0 _ aJ;have bF:=aI i 0 _ aJ;generalize us i 0=u at a6 bF;cases bF;rw[Nat.mul_one,nO]at a6;grind[cell_of_heap]
   cases oV
  cases h
 cases h
def JN(P:Program)(t:TypeId)(p q:aG)(ans:List cd):j2:=
 match P.underlying t,p.leaf,q.int with
 | some .string,some (.v (.string s)),some (_,n)=>
  match ans with
  | .num m::r=>some (.one (.v (.int .u8 m)),r,[0<=n,(s[n.toNat]?).map (fun b=>((b.toNat:Nat):Int))=some m])
  | _=>none
 | _,_,_=>none
variable{q:aG}
theorem aoU
  (hp:cO (Sat w ω τ) p u) (aL:cO (Sat w ω τ) q v) (h:JN P t p q ans=some (r,cm,obs)) (bc:cK obs):∃z,(Instr.index t u v).run P w=.ok z w/\cO (Sat w ω τ) r z:=by
 unfold JN at h;split at h
 ·rename_i s zM n e1 e2 cn;split at h
  ·rename_i m hB;simp only[aW,bA]at h;obtain⟨rfl,_,rfl⟩:=h;obtain⟨b4,U,_⟩:=bc;have:u=.string s:=aG.dN e2 hp;subst this;rw[aG.oc cn aL];rw[ca]at U;obtain⟨b,ay,hm⟩:=U;exact⟨.int .u8 m,by simp_all[Instr.index,asIntOf,run_underlying],rfl⟩
  cases h
 cases h
def JO(p q:aG)(ans:List cd):j2:=
 match p.int,q.int with
 | some (k,a),some (_,b)=>some (.one (.v (.int k (if b<a then b else a))),ans,[])
 | _,_=>none
def JP(p q:aG)(ans:List cd):j2:=
 match p.int,q.int with
 | some (k,a),some (_,b)=>some (.one (.v (.int k (if b>a then b else a))),ans,[])
 | _,_=>none
theorem aoV{P:Program}{ts:Array TypeId}{ty:TypeId}
  (hp:cO (Sat w ω τ) p u) (aL:cO (Sat w ω τ) q v) (h:JO p q ans=some (r,cm,obs)):∃z,(Builtin.min_ ts ty #[u,v]).run P w=.ok z w/\cO (Sat w ω τ) r z:=by
 unfold JO at h;split at h
 ·rename_i k a zM b e1 e2;simp only[aW,bA]at h;obtain⟨rfl,_,_⟩:=h;rw[aG.oc e1 hp,aG.oc e2 aL];exact⟨_,by simp[Builtin.min_,Builtin.min2],rfl⟩
 cases h
theorem aoW{P:Program}{ts:Array TypeId}{ty:TypeId}
  (hp:cO (Sat w ω τ) p u) (aL:cO (Sat w ω τ) q v) (h:JP p q ans=some (r,cm,obs)):∃z,(Builtin.max_ ts ty #[u,v]).run P w=.ok z w/\cO (Sat w ω τ) r z:=by
 unfold JP at h;split at h
 ·rename_i k a zM b e1 e2;simp only[aW,bA]at h;obtain⟨rfl,_,_⟩:=h;rw[aG.oc e1 hp,aG.oc e2 aL];exact⟨_,by simp[Builtin.max_,Builtin.max2],rfl⟩
 cases h
def PS(p:aG)(ans:List cd):j2:=
 match p.leaf with
 | some (.ptr id off)=>some (.one (.ptr id off),ans,[])
 | some (.cL t k es i j)=>some (.one (.cL t k es i j),ans,[])
 | some (.hU ds off)=>some (.one (.hU ds off),ans,[])
 | some (.aP t i j k es (.at_ x y))=>some (.one (.aP t i j k es (.at_ x y)),ans,[])
 | _=>none
def Ps(p:aG):Option Nat:=
 match p.leaf with
 | some (.ptr id 0)=>some id
 | _=>none
def NY(p:aG):Option D:=
 match p.leaf with
 | some (.hU ds 0)=>some (.ptr ds)
 | some (.v x)=>if x.oneCell' then some (.v x) else none
 | _=>none
def D9(st:aF)(fn:Fn)(first captured:List Operand)(ans:List cd):j2:=
 match fn,first with
 | .func g,[]=>
  match (captured.map st.bn).mapM Ps with
  | some ids=>some (.one (.gC g ids),ans,[])
  | none=>
   match (captured.map st.bn).mapM NY with
   | some ds=>some (.one (.fd (.a8 g ds)),ans,[])
   | none=>none
 | _,_=>none
theorem JQ{α β:Type}{f:α->Option β}:∀{xs:List α} {ys:List β},xs.mapM f=some ys->ys.length=xs.length/\∀(i:Nat) (y:β),ys[i]?=some y->∃x,xs[i]?=some x/\f x=some y
 | [],ys,h=>by grind
 | x::xs,ys,h=>by
  rw[yF]at h;cases e:f x with
  | none=>simp[e]at h
  | some y=>
   cases e2:xs.mapM f with
   | none=>grind
   | some zs=>
    simp[e,e2]at h;subst h;obtain⟨U,aa⟩:=JQ e2;grind
theorem aoX{P:Program}{fn:Fn}{first captured:Array Operand}
  (aZ:cD w0 st a w ω τ) (h:D9 st fn first.toList captured.toList ans=some (r,cm,obs)):
  ∃z,(Instr.makeFunc fn (first.map a.eval) (captured.map a.eval)).run P w=.ok z w/\cO (Sat w ω τ) r z:=by
 unfold D9 at h;split at h
 ·rename_i g ax0;have b8:first=#[]:=by
   grind
  subst b8;refine⟨.func (.func g) #[] (captured.map a.eval),by simp[Instr.makeFunc],?_⟩;have q3:∀(i:Nat) (x:aG),(captured.toList.map st.bn)[i]?=some x->∃v,(captured.map a.eval)[i]?=some v/\cO (Sat w ω τ) x v:=by
   intro i x aq;rw[dP,ca]at aq;obtain⟨o,bc,rfl⟩:=aq;refine⟨a.eval o,?_,aZ.bn o⟩;grind
  split at h
  ·rename_i ids YR;simp only[aW,bA]at h;obtain⟨rfl,_,_⟩:=h;obtain⟨a',ax⟩:=JQ YR;have hex:∀i,i<ids.length->∃b id,ids[i]?=some id/\(captured.map a.eval)[i]?=some (ptrTo b)/\ω b=.box id:=by
    intro i hi;obtain⟨x,aq,jO⟩:=ax i ids[i] (by simp[hi]);obtain⟨v,bx,ak⟩:=q3 i x aq;unfold Ps at jO;split at jO
    ·rename_i id ar;simp only[aW]at jO;obtain⟨b,ay,rfl⟩:=aG.dN ar ak;exact⟨b,id,by grind,bx,ay⟩
    cases jO
   have dI:(captured.map a.eval).size=ids.length:=by grind
   let bs:=(List.range ids.length).map fun i=>(match (captured.map a.eval)[i]? with | some (.pointer (some p))=>p.block | _=>0)
   refine⟨bs,?_,by simp[bs],fun i id hid=>?_⟩
   ·congr 1
    apply Array.ext
    ·grind
    grind[id,aW,ptrTo]
   grind[gd,ptrTo]
  split at h
  ·rename_i ds eU;simp only[aW,bA]at h;obtain⟨rfl,_,_⟩:=h;obtain⟨a',ax⟩:=JQ eU;refine b1.a8 _ g ds (captured.map a.eval) (fun j=>(captured.map a.eval).getD j undef) (by grind) (fun j d aI=>?_) (fun j d aI=>?_)
   ·obtain⟨x,aq,_⟩:=ax j d aI;obtain⟨v,bx,_⟩:=q3 j x aq;rw[bx];simp only[eR,bx,kZ]
   obtain⟨x,aq,jO⟩:=ax j d aI;obtain⟨v,bx,ak⟩:=q3 j x aq;have e:(captured.map a.eval).getD j undef=v:=by simp only[eR,bx,kZ]
   rw[e];unfold NY at jO;split at jO
   ·rename_i r9 ar;simp only[aW]at jO;subst jO;obtain⟨b,rfl,aH⟩:=aG.dN ar ak;exact aH.frame fun b q ay aL=>⟨aL,rfl⟩
   ·rename_i y ar;split at jO
    ·rename_i Zh;simp only[aW]at jO;subst jO;have:v=y:=aG.dN ar ak;subst this;exact .v _ _ Zh
    cases jO
   cases jO
  cases h
 cases h
def D'(P:Program)(st:aF)(b:Builtin)(args:List Operand)(ts:List TypeId)(ans:List cd):j2:=
 match b,args,ts with
 | .len,[x],[t]=>JF P t (st.bn x) ans
 | .min,[x,y],_=>JO (st.bn x) (st.bn y) ans
 | .max,[x,y],_=>JP (st.bn x) (st.bn y) ans
 | _,_,_=>none
def qn(P:Program)(st:aF)(op:Op)(ans:List cd):j2:=
 match op with
 | .move x | .assign x=>some (st.bn x,ans,[])
 | .pick c a b=>dC (st.bn c) (st.bn a) (st.bn b) ans
 | .load t x=>D5 P st t (st.bn x) ans
 | .nilCheck x=>PS (st.bn x) ans
 | .binOp op t x y _=>JB P op t x y (st.bn x) (st.bn y) ans
 | .unOp op _ x=>JL op (st.bn x) ans
 | .convert s d x=>JM P s d (st.bn x) ans
 | .slice t x cW hi iM=>D6 P st t (st.bn x) cW hi iM ans
 | .fieldAddr s x f=>JD P s (st.bn x) f ans
 | .field t x f=>JK P t (st.bn x) f ans
 | .indexAddr t x i=>JE P t (st.bn x) (st.bn i) ans
 | .index t x i=>JN P t (st.bn x) (st.bn i) ans
 | .extract x i=>JJ (st.bn x) i ans
 | .build t parts=>D7 P st t parts.toList ans
 | .call ⟨.builtin b,args,ts⟩=>D' P st b args.toList ts.toList ans
 | .makeFunc fn first captured=>D9 st fn first.toList captured.toList ans
 | _=>none
theorem iX{aN:World}{s:Sem Value}{z:Value}(h:s.run P w=.ok z aN):(do pure (.value (<-s)):Sem Next).run P w=.ok (.value z) aN:=by
 simp_all
theorem aoY{b:Builtin}{args:Array Operand}{ts:Array TypeId}{ty:TypeId}{consts:Array Bool}
  (aZ:cD w0 st a w ω τ) (h:D' P st b args.toList ts.toList ans=some (r,cm,obs)):
  ∃z,(builtin b ts ty consts (args.map a.eval)).run P w=.ok (.value z) w/\cO (Sat w ω τ) r z:=by
 obtain⟨args⟩:=args;obtain⟨ts⟩:=ts;unfold D' at h;split at h
 ·rename_i x t e1 e2;simp only at e1 e2;subst e1 e2;obtain⟨z,U,aa⟩:=apb (ty:=ty) (aZ.bn x) h;refine⟨z,iX (s:=Builtin.len_ #[t] ty (Array.map a.eval #[x])) ?_,aa⟩;grind
 ·rename_i x y e1;simp only at e1;subst e1;obtain⟨z,U,aa⟩:=aoV (P:=P) (ts:=⟨ts⟩) (ty:=ty) (aZ.bn x) (aZ.bn y) h;refine⟨z,iX (s:=Builtin.min_ ⟨ts⟩ ty (Array.map a.eval #[x,y])) ?_,aa⟩;grind
 ·rename_i x y e1;simp only at e1;subst e1;obtain⟨z,U,aa⟩:=aoW (P:=P) (ts:=⟨ts⟩) (ty:=ty) (aZ.bn x) (aZ.bn y) h;refine⟨z,iX (s:=Builtin.max_ ⟨ts⟩ ty (Array.map a.eval #[x,y])) ?_,aa⟩;grind
 cases h
theorem JR{o:Oper}
  (aZ:cD w0 st a w ω τ) (h:qn P st o.op ans=some (r,cm,obs)) (bc:cK obs):
  ∃z,(execOp a.eval o).run P w=.ok (.value z) w/\cO (Sat w ω τ) r z:=by
 obtain⟨dst,op,type,pos,after,guard⟩:=o;simp only at h;unfold qn at h;split at h
 ·rename_i x;simp only[aW,bA]at h;obtain⟨rfl,_,_⟩:=h;exact⟨a.eval x,rfl,aZ.bn x⟩
 ·rename_i x;simp only[aW,bA]at h;obtain⟨rfl,_,_⟩:=h;exact⟨a.eval x,rfl,aZ.bn x⟩
 ·rename_i c x y;exact aph (aZ.bn c) (aZ.bn x) (aZ.bn y) h bc
 ·rename_i t x;obtain⟨z,U,aa⟩:=apa aZ (aZ.bn x) h bc;exact⟨z,iX U,aa⟩
 ·rename_i x;unfold PS at h;split at h
  ·rename_i id off e;simp only[aW,bA]at h;obtain⟨rfl,_,_⟩:=h;have ak:=aG.dN e (aZ.bn x);obtain⟨b,ay,aq⟩:=ak;exact⟨_,by simp_all[execOp],b,ay,rfl⟩
  ·rename_i t k es i j e;simp only[aW,bA]at h;obtain⟨rfl,_,_⟩:=h;have ak:=aG.dN e (aZ.bn x);have dq:=ak;obtain⟨b,off,cap,aq,U⟩:=ak;refine⟨_,by simp only[execOp,aq];rfl,?_⟩;rw[<-aq];exact dq
  ·rename_i ds off e;simp only[aW,bA]at h;obtain⟨rfl,_,_⟩:=h;have ak:=aG.dN e (aZ.bn x);have dq:=ak;obtain⟨b,aq,U⟩:=ak;refine⟨_,by simp only[execOp,aq];rfl,?_⟩;rw[<-aq];exact dq
  ·rename_i t i j k es awO NF e;simp only[aW,bA]at h;obtain⟨rfl,_,_⟩:=h;have ak:=aG.dN e (aZ.bn x);have dq:=ak;obtain⟨fy,⟨b,off,cap,_,aq,_⟩,_⟩:=ak;refine⟨_,by simp only[execOp,aq];rfl,?_⟩;rw[<-aq];exact dq
  cases h
 ·rename_i aae t x y qJ;obtain⟨z,U,aa⟩:=ao6 (aZ.bn x) (aZ.bn y) h bc;exact⟨z,iX U,aa⟩
 ·rename_i aae t x;obtain⟨z,U,aa⟩:=apg (aZ.bn x) h bc;exact⟨z,iX U,aa⟩
 ·rename_i s d x;obtain⟨z,U,aa⟩:=aoT (aZ.bn x) h bc;exact⟨z,iX U,aa⟩
 ·rename_i t x cW hi iM;obtain⟨z,U,aa⟩:=apc aZ (aZ.bn x) h bc;exact⟨z,iX U,aa⟩
 ·rename_i s x f;obtain⟨z,U,aa⟩:=ao7 (aZ.bn x) h;exact⟨z,iX U,aa⟩
 ·rename_i t x f;obtain⟨z,U,aa⟩:=apf (aZ.bn x) h;exact⟨z,iX U,aa⟩
 ·rename_i t x i;obtain⟨z,U,aa⟩:=ao8 (aZ.bn x) (aZ.bn i) h bc;exact⟨z,iX U,aa⟩
 ·rename_i t x i;obtain⟨z,U,aa⟩:=aoU (aZ.bn x) (aZ.bn i) h bc;exact⟨z,iX U,aa⟩
 ·rename_i x i;obtain⟨z,U,aa⟩:=ape (P:=P) (aZ.bn x) h;exact⟨z,iX U,aa⟩
 ·rename_i t parts;obtain⟨z,U,aa⟩:=apd aZ h;exact⟨z,iX U,aa⟩
 ·rename_i b args ts;obtain⟨z,U,aa⟩:=aoY (ty:=type) (consts:=args.map fun | .const _=>true | _=>false) aZ h;grind[execOp,resolve,Sem.run_bind,Sem.run_pure,Result.andThen_ok,invoke]
 ·rename_i fn first captured
  obtain⟨z,U,aa⟩:=aoX (P:=P) aZ h;exact⟨z,iX U,aa⟩
 cases h
