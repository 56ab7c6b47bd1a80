import Derived.WalkKit
import Derived.WalkSpells
import Derived.WalkLawsBesides
import Derived.KernelRfl
set_option linter.unusedVariables false
set_option linter.unusedSimpArgs false
namespace Go.Sx
open Go.RowKit
universe u v w x
theorem aj:True:=⟨⟩
theorem aQ:type_of% @Option.some.injEq.{u}:=@Option.some.injEq.{u}
theorem bp:type_of% @List.length_map.{u,v}:=@List.length_map.{u,v}
theorem bX:type_of% @Option.map_eq_some_iff.{u,v}:=@Option.map_eq_some_iff.{u,v}
theorem bw:type_of% @Prod.mk.injEq.{u,v}:=@Prod.mk.injEq.{u,v}
theorem dN:type_of% @Bool.eq_false_or_eq_true:=@Bool.eq_false_or_eq_true
theorem jO:type_of% @decide_eq_false_iff_not:=@decide_eq_false_iff_not
theorem fc:type_of% @List.mem_cons_of_mem.{u}:=@List.mem_cons_of_mem.{u}
theorem b1:type_of% @List.length_nil.{u}:=@List.length_nil.{u}
theorem ci:type_of% @decide_eq_true_eq:=@decide_eq_true_eq
theorem ca:type_of% @Bool.and_eq_true:=@Bool.and_eq_true
theorem dK:type_of% @List.getElem?_eq_some_iff.{u}:=@List.getElem?_eq_some_iff.{u}
theorem ea:type_of% @Array.getD_eq_getD_getElem?.{u}:=@Array.getD_eq_getD_getElem?.{u}
theorem eF:type_of% @List.mem_cons_self.{u}:=@List.mem_cons_self.{u}
theorem eQ:type_of% @List.length_set.{u}:=@List.length_set.{u}
theorem aX:type_of% @if_neg.{u}:=@if_neg.{u}
theorem a6:type_of% @if_pos.{u}:=@if_pos.{u}
theorem dn:type_of% @List.length_cons.{u}:=@List.length_cons.{u}
theorem c9:type_of% @List.getElem?_map.{u,v}:=@List.getElem?_map.{u,v}
theorem mu:type_of% @decide_eq_false:=@decide_eq_false
theorem fC:type_of% @List.getElem?_eq_getElem.{u}:=@List.getElem?_eq_getElem.{u}
theorem c':type_of% @Nat.zero_add:=@Nat.zero_add
theorem e4:type_of% @List.mem_of_getElem?.{u}:=@List.mem_of_getElem?.{u}
theorem ei:type_of% @Option.some.inj.{u}:=@Option.some.inj.{u}
theorem gz:type_of% @Bool.or_eq_false_iff:=@Bool.or_eq_false_iff
theorem hA:type_of% @Array.getElem?_eq_some_iff.{u}:=@Array.getElem?_eq_some_iff.{u}
theorem gV:type_of% @List.getElem?_drop.{u}:=@List.getElem?_drop.{u}
theorem gW:type_of% @Nat.mul_le_mul_right:=@Nat.mul_le_mul_right
theorem hP:type_of% @List.take_length.{u}:=@List.take_length.{u}
theorem gN:type_of% @Array.getElem?_eq_getElem.{u}:=@Array.getElem?_eq_getElem.{u}
theorem eu:type_of% @beq_iff_eq.{u}:=@beq_iff_eq.{u}
theorem gX:type_of% @List.getElem?_take.{u}:=@List.getElem?_take.{u}
theorem V7:type_of% @List.cons.inj.{u}:=@List.cons.inj.{u}
theorem jg:type_of% @Array.getElem?_toList.{u}:=@Array.getElem?_toList.{u}
theorem gm:type_of% @List.mem_append_left.{u}:=@List.mem_append_left.{u}
theorem hZ:type_of% @List.mem_append_right.{u}:=@List.mem_append_right.{u}
theorem hj:type_of% @Array.getElem?_append.{u}:=@Array.getElem?_append.{u}
theorem dG:type_of% @List.mem_cons.{u}:=@List.mem_cons.{u}
theorem fN:type_of% @List.all_eq_true.{u}:=@List.all_eq_true.{u}
theorem iw:type_of% @List.getD_eq_getElem?_getD.{u}:=@List.getD_eq_getElem?_getD.{u}
theorem dm:type_of% @Nat.le_refl:=@Nat.le_refl
theorem eW:type_of% @List.any_eq_false.{u}:=@List.any_eq_false.{u}
theorem kq:type_of% @Bool.eq_false_iff:=@Bool.eq_false_iff
theorem fB:type_of% @Nat.add_mul:=@Nat.add_mul
theorem fr:type_of% @Bool.not_eq_true':=@Bool.not_eq_true'
theorem lc:type_of% @List.getElem?_append.{u}:=@List.getElem?_append.{u}
theorem e3:type_of% @List.map_append.{u,v}:=@List.map_append.{u,v}
theorem hl:type_of% @Option.getD_some.{u}:=@Option.getD_some.{u}
theorem kr:type_of% @List.map_congr_left.{u,v}:=@List.map_congr_left.{u,v}
theorem lf:type_of% @Bool.not_eq_false':=@Bool.not_eq_false'
theorem nf:type_of% @List.getElem?_toArray.{u}:=@List.getElem?_toArray.{u}
theorem ks:type_of% @Bool.not_true:=@Bool.not_true
theorem ix:type_of% @List.append_nil.{u}:=@List.append_nil.{u}
theorem eK:type_of% @List.length_append.{u}:=@List.length_append.{u}
theorem kN:type_of% @List.size_toArray.{u}:=@List.size_toArray.{u}
theorem iS:type_of% @List.getElem?_set.{u}:=@List.getElem?_set.{u}
theorem jh:type_of% @Int.toNat_natCast:=@Int.toNat_natCast
theorem nY:type_of% @List.getElem?_cons_succ.{u}:=@List.getElem?_cons_succ.{u}
theorem iy:type_of% @List.getElem?_cons_zero.{u}:=@List.getElem?_cons_zero.{u}
theorem mj:type_of% @Option.bind_eq_some_iff.{u,v}:=@Option.bind_eq_some_iff.{u,v}
theorem qK:type_of% @List.findIdx?_eq_some_iff_getElem.{u}:=@List.findIdx?_eq_some_iff_getElem.{u}
theorem pL:type_of% @Option.isSome_iff_exists.{u}:=@Option.isSome_iff_exists.{u}
theorem ng:type_of% @List.mem_iff_getElem?.{u}:=@List.mem_iff_getElem?.{u}
theorem ml:type_of% @Bool.false_or:=@Bool.false_or
theorem Ci:type_of% @List.set_set.{u}:=@List.set_set.{u}
theorem nh:type_of% @Option.bind_some.{u,v}:=@Option.bind_some.{u,v}
theorem mm:type_of% @Bool.false_eq_true:=@Bool.false_eq_true
theorem ji:type_of% @decide_eq_true:=@decide_eq_true
theorem V8:type_of% @Int.le_trans:=@Int.le_trans
theorem jN:type_of% @List.mem_flatMap.{u,v}:=@List.mem_flatMap.{u,v}
theorem rY:type_of% @List.getElem?_append_right.{u}:=@List.getElem?_append_right.{u}
theorem qL:type_of% @List.length_filter_le.{u}:=@List.length_filter_le.{u}
theorem jj:type_of% @List.map_set.{u,v}:=@List.map_set.{u,v}
theorem iT:type_of% @List.map_cons.{u,v}:=@List.map_cons.{u,v}
theorem mn:type_of% @Option.map_some.{u,v}:=@Option.map_some.{u,v}
theorem rZ:type_of% @List.getElem_mem.{u}:=@List.getElem_mem.{u}
theorem lJ:type_of% @List.length_take.{u}:=@List.length_take.{u}
theorem gY:type_of% @List.mem_append.{u}:=@List.mem_append.{u}
theorem mo:type_of% @List.append_assoc.{u}:=@List.append_assoc.{u}
theorem fO:type_of% @if_true.{u}:=@if_true.{u}
theorem nZ:type_of% @Bool.not_false:=@Bool.not_false
theorem qM:type_of% @Array.size_append.{u}:=@Array.size_append.{u}
theorem lK:type_of% @List.take_add_one.{u}:=@List.take_add_one.{u}
theorem hn:type_of% @List.mem_or_eq_of_mem_set.{u}:=@List.mem_or_eq_of_mem_set.{u}
theorem xf:type_of% @List.getElem?_append_left.{u}:=@List.getElem?_append_left.{u}
theorem uY:type_of% @List.mem_of_mem_take.{u}:=@List.mem_of_mem_take.{u}
theorem lL:type_of% @Bool.or_eq_true:=@Bool.or_eq_true
theorem mq:type_of% @Nat.add_zero:=@Nat.add_zero
theorem tp:type_of% @List.take_of_length_le.{u}:=@List.take_of_length_le.{u}
theorem lM:type_of% @Bool.true_and:=@Bool.true_and
theorem h':type_of% @List.mem_map.{u,v}:=@List.mem_map.{u,v}
theorem zc:type_of% @List.mem_of_mem_drop.{u}:=@List.mem_of_mem_drop.{u}
theorem zd:type_of% @List.getElem?_replicate.{u}:=@List.getElem?_replicate.{u}
theorem lN:type_of% @Nat.lt_or_ge:=@Nat.lt_or_ge
theorem uZ:type_of% @beq_eq_false_iff_ne.{u}:=@beq_eq_false_iff_ne.{u}
theorem r0:type_of% @List.cons.injEq.{u}:=@List.cons.injEq.{u}
theorem Cj:type_of% @List.findIdx?_eq_none_iff.{u}:=@List.findIdx?_eq_none_iff.{u}
theorem tq:type_of% @Bool.not_eq_true:=@Bool.not_eq_true
theorem mr:type_of% @List.not_mem_nil.{u}:=@List.not_mem_nil.{u}
theorem u0:type_of% @List.eq_nil_of_length_eq_zero.{u}:=@List.eq_nil_of_length_eq_zero.{u}
theorem ME:type_of% @List.take_append_of_le_length.{u}:=@List.take_append_of_le_length.{u}
theorem u1:type_of% @Array.length_toList.{u}:=@Array.length_toList.{u}
theorem xg:type_of% @beq_self_eq_true.{u}:=@beq_self_eq_true.{u}
theorem ze:type_of% @Nat.lt_of_lt_of_le:=@Nat.lt_of_lt_of_le
theorem FO:type_of% @Option.isSome_eq_false_iff.{u}:=@Option.isSome_eq_false_iff.{u}
theorem zf:type_of% @List.take_append_drop.{u}:=@List.take_append_drop.{u}
theorem ho:type_of% @ne_eq.{u}:=@ne_eq.{u}
theorem FP:type_of% @Option.isNone_iff_eq_none.{u}:=@Option.isNone_iff_eq_none.{u}
theorem ni:type_of% @Nat.le_trans:=@Nat.le_trans
theorem r1:type_of% @List.map_id.{u}:=@List.map_id.{u}
theorem u2:type_of% @List.any_cons.{u}:=@List.any_cons.{u}
theorem xh:type_of% @List.mapM_cons.{u,v,w}:=@List.mapM_cons.{u,v,w}
theorem j4:type_of% @if_false.{u}:=@if_false.{u}
theorem lg:type_of% @List.any_eq_true.{u}:=@List.any_eq_true.{u}
theorem oX:type_of% @List.drop_zero.{u}:=@List.drop_zero.{u}
theorem asJ:type_of% @Int.natCast_zero:=@Int.natCast_zero
theorem xi:type_of% @List.flatMap_nil.{u,v}:=@List.flatMap_nil.{u,v}
theorem zg:type_of% @Array.getElem?_eq_none.{u}:=@Array.getElem?_eq_none.{u}
theorem zh:type_of% @Array.getElem?_map.{u,v}:=@Array.getElem?_map.{u,v}
theorem xj:type_of% @Option.toList_some.{u}:=@Option.toList_some.{u}
theorem FQ:type_of% @List.range_zero:=@List.range_zero
theorem lO:type_of% @List.map_take.{u,v}:=@List.map_take.{u,v}
theorem tr:type_of% @Bool.and_true:=@Bool.and_true
theorem u3:type_of% @List.length_range:=@List.length_range
theorem zi:type_of% @Nat.mod_eq_of_lt:=@Nat.mod_eq_of_lt
theorem u4:type_of% @Nat.add_assoc:=@Nat.add_assoc
theorem oY:type_of% @List.sum_cons.{u}:=@List.sum_cons.{u}
inductive D where
 | v (x:Value)
 | J (k:Nat) (es:List (List D))
 | ptr (ds:List D)
 | cl (g:FuncId) (bA:List D)
inductive cS where
 | bx
 | box (id:Nat)
 | tok (t:Nat) (q:List (Nat×Nat))
abbrev Own:=Nat->cS
def cX(es:List (List D))(i j:Nat):Option D:=(es[i]?).bind (·[j]?)
inductive bR (w:World) (ω:Own):(List (Nat×Nat)->cS->Prop)->D->Value->Prop
 | v (R:List (Nat×Nat)->cS->Prop) (x:Value) (h1:x.oneCell'=true):bR w ω R (.v x) x
 | nil (R:List (Nat×Nat)->cS->Prop) (k:Nat) (a:Option Addr):bR w ω R (.J k []) (.slice a 0 0)
 | row (R:List (Nat×Nat)->cS->Prop) (k:Nat) (es:List (List D)) (b off cap:Nat) (arr:Array Value) (ty:TypeId) (cO:Nat×Nat) (us:Nat->Nat->Value)
   (ah:w.heap[b]?=some (.cells arr ty cO)) (dI:R [] (ω b)) (ad:es.length<=cap) (ae:off+cap*k<=arr.size) (hk:∀e∈es,e.length=k)
   (hu:∀i j d,cX es i j=some d->arr[off+i*k+j]?=some (us i j))
   (ax:∀i j d,cX es i j=some d->bR w ω (fun q=>R ((i,j)::q)) d (us i j)):
   bR w ω R (.J k es) (.slice (some ⟨b,off,none⟩) es.length cap)
 | ptr (R:List (Nat×Nat)->cS->Prop) (ds:List D) (b:Nat) (arr:Array Value) (ty:TypeId) (cO:Nat×Nat) (us:Nat->Value)
   (ah:w.heap[b]?=some (.cells arr ty cO)) (dI:R [] (ω b)) (ae:arr.size=ds.length)
   (hu:∀j d,ds[j]?=some d->arr[j]?=some (us j)) (ax:∀j d,ds[j]?=some d->bR w ω (fun q=>R ((0,j)::q)) d (us j)):
   bR w ω R (.ptr ds) (.pointer (some ⟨b,0,none⟩))
 | cl (R:List (Nat×Nat)->cS->Prop) (g:FuncId) (bA:List D) (cs:Array Value) (us:Nat->Value) (ae:cs.size=bA.length)
   (hu:∀j d,bA[j]?=some d->cs[j]?=some (us j)) (ax:∀j d,bA[j]?=some d->bR w ω (fun q=>R ((0,j)::q)) d (us j)):
   bR w ω R (.cl g bA) (.func (.func g) #[] cs)
variable{w aG:World}{ω:Own}
theorem bR.frame{aY:Own}{R:List (Nat×Nat)->cS->Prop}{d:D}{v:Value}(h:bR w ω R d v):
  ∀{iz:List (Nat×Nat)->cS->Prop},(∀b q,b<w.heap.size->R q (ω b)->iz q (aY b)/\aG.heap[b]?=w.heap[b]?)->bR aG aY iz d v:=by
 induction h with
 | v R x h1=>intro iz _;exact .v iz x h1
 | nil R k a=>intro iz _;exact .nil iz k a
 | row R k es b off cap arr ty cO us ah dI ad ae hk hu ax dt=>
  intro iz bl;have bq:b<w.heap.size:=by
   rcases lN b w.heap.size with h | h
   ·exact h
   simp[zg h]at ah
  obtain⟨h1,U⟩:=bl b [] bq dI;exact .row iz k es b off cap arr ty cO us (U.trans ah) h1 ad ae hk hu (fun i j d dC=>dt i j d dC (fun b q af av=>bl b ((i,j)::q) af av))
 | ptr R ds b arr ty cO us ah dI ae hu ax dt=>
  intro iz bl;have bq:b<w.heap.size:=by
   rcases lN b w.heap.size with h | h
   ·exact h
   simp[zg h]at ah
  obtain⟨h1,U⟩:=bl b [] bq dI;exact .ptr iz ds b arr ty cO us (U.trans ah) h1 ae hu (fun j d dC=>dt j d dC (fun b q af av=>bl b ((0,j)::q) af av))
 | cl R g bA cs us ae hu ax dt=>
  intro iz bl;exact .cl iz g bA cs us ae hu (fun j d dC=>dt j d dC (fun b q af av=>bl b ((0,j)::q) af av))
inductive Tag where
 | free
 | own (t:Nat)
 | ro (t:Nat)
def Tag.R:Tag->List (Nat×Nat)->cS->Prop
 | .free,_,o=>o=.bx
 | .own t,q,o=>o=.tok t q
 | .ro t,_,o=>o=.bx\/∃q,o=.tok t q
def Tag.dS(τ:Nat->Nat×Value):Tag->Nat×Value->Prop
 | .own t,y=>τ t=y
 | _,_=>True
def c5:Nat:=1000000000
inductive eS where
 | cc
 | v (x:Value)
 | J (t:Tag) (k:Nat) (es:List (List D))
inductive u9 where
 | here
 | lS
 | at_ (x y:Nat)
def u9.rel(k n:Nat):u9->Value->Value->Prop
 | .at_ x y,u,v=>∃b off cap,u=.slice (some ⟨b,off,none⟩) n cap/\v=.pointer (some ⟨b,off+x*k+y,none⟩)/\x<n
 | _,u,v=>v=u
def u9.home:u9->Bool
 | .lS=>false
 | _=>true
inductive aC where
 | cc
 | v (x:Value)
 | bg (c:Bool)
 | J (t:Tag) (k:Nat) (es:List (List D))
 | ptr (id off:Nat)
 | ep (t:Tag) (k:Nat) (es:List (List D)) (i j:Nat)
 | h8 (ds:List D) (off:Nat)
 | fd (d:D)
 | gP (g:FuncId) (ids:List Nat)
 | aO (t i j k:Nat) (es:List (List D)) (m:u9)
 | fk (t:Nat) (vs:List eS)
 | db (t k:Nat) (es:List (List D))
def ptrTo(b:Nat):Value:=.pointer (some ⟨b,0,none⟩)
def qO(w:World)(ω:Own)(τ:Nat->Nat×Value):eS->Value->Prop
 | .cc,_=>True
 | .v x,y=>y=x
 | .J t k es,y=>bR w ω t.R (.J k es) y/\t.dS τ (k,y)
def uh(w:World)(ω:Own)(τ:Nat->Nat×Value)(t i j:Nat)(u:Value):Prop:=
 ∃(kT b off len cap:Nat) (arr:Array Value) (ty:TypeId) (cO:Nat×Nat),τ t=(kT,.slice (some ⟨b,off,none⟩) len cap)/\ω b=.tok t []/\w.heap[b]?=some (.cells arr ty cO)/\arr[off+i*kT+j]?=some u
def Sat(w:World)(ω:Own)(τ:Nat->Nat×Value):aC->Value->Prop
 | .cc,_=>True
 | .v x,y=>y=x
 | .bg c,y=>y=.bool c
 | .J t k es,y=>bR w ω t.R (.J k es) y/\t.dS τ (k,y)
 | .ptr id off,y=>∃b,ω b=.box id/\y=.pointer (some ⟨b,off,none⟩)
 | .ep t k es i j,y=>∃b off cap,y=.pointer (some ⟨b,off+i*k+j,none⟩)/\i<es.length/\
   bR w ω t.R (.J k es) (.slice (some ⟨b,off,none⟩) es.length cap)/\t.dS τ (k,.slice (some ⟨b,off,none⟩) es.length cap)
 | .h8 ds off,y=>∃b,y=.pointer (some ⟨b,off,none⟩)/\bR w ω Tag.free.R (.ptr ds) (ptrTo b)
 | .fd d,y=>bR w ω Tag.free.R d y
 | .gP g ids,y=>∃bs:List Nat,y=.func (.func g) #[] (bs.map ptrTo).toArray/\bs.length=ids.length/\∀(i:Nat) (id:Nat),ids[i]?=some id->∃b,bs[i]?=some b/\ω b=.box id
 | .db t k es,y=>bR w ω Tag.free.R (.J k es) y/\(c5<=t->τ t=(k,y))
 | .aO t i j k es m,y=>∃u,m.rel k es.length u y/\bR w ω (fun q o=>o=.tok t ((i,j)::q)) (.J k es) u/\(m.home=true->uh w ω τ t i j u)
 | .fk t vs,y=>∃(b:Nat) (ty:TypeId) (arr:Array Value),y=ptrTo b/\ω b=.tok t []/\w.heap[b]?=some (.cells arr ty (0,0))/\arr.size=vs.length/\∀(j:Nat) (c:eS),vs[j]?=some c->∃u,arr[j]?=some u/\qO w ω τ c u
inductive bd where
 | one (l:aC)
 | agg (ls:List aC)
inductive aB where
 | aD (a:bd)
 | fM (as:List bd)
abbrev aB.one(l:aC):aB:=.aD (.one l)
abbrev aB.agg(ls:List aC):aB:=.aD (.agg ls)
abbrev aB.cc:aB:=.aD (.one .cc)
def j7(S:aC->Value->Prop)(ls:List aC)(vs:Array Value):Prop:=
 vs.size=ls.length/\∀(i:Nat) (l:aC),ls[i]?=some l->∃u,vs[i]?=some u/\S l u
def j6(S:aC->Value->Prop):bd->Value->Prop
 | .one l,y=>S l y
 | .agg ls,y=>∃vs,y=.agg vs/\j7 S ls vs
def cM(S:aC->Value->Prop):aB->Value->Prop
 | .aD a,y=>j6 S a y
 | .fM as,y=>∃vs:Array Value,y=.tuple vs/\vs.size=as.length/\∀(i:Nat) (a:bd),as[i]?=some a->∃u,vs[i]?=some u/\j6 S a u
structure aE where
 env:List aB
 boxes:List (Nat×List aC)
def dj(id:Nat):List (Nat×List aC)->Option (List aC)
 | []=>none
 | (i,ls)::r=>if i=id then some ls else dj id r
def bd.map(f:aC->aC):bd->bd
 | .one l=>.one (f l)
 | .agg ls=>.agg (ls.map f)
def aB.map(f:aC->aC):aB->aB
 | .aD a=>.aD (a.map f)
 | .fM as=>.fM (as.map (bd.map f))
def aE.map(f:aC->aC)(s:aE):aE:=⟨s.env.map (aB.map f),s.boxes.map fun x=>(x.1,x.2.map f)⟩
variable{S:aC->Value->Prop}
theorem j7.map{kz:aC->Value->Prop}{f:aC->aC}(h:∀l v,S l v->kz (f l) v){ls:List aC}{vs:Array Value}(ae:j7 S ls vs):j7 kz (ls.map f) vs:=by
 refine⟨by simpa using ae.1,fun i l af=>?_⟩;rw[c9,bX]at af;obtain⟨ej,bm,rfl⟩:=af;obtain⟨u,h1,U⟩:=ae.2 i ej bm;exact⟨u,h1,h _ _ U⟩
theorem j6.map{kz:aC->Value->Prop}{f:aC->aC}(h:∀l v,S l v->kz (f l) v):∀{a:bd} {y:Value},j6 S a y->j6 kz (a.map f) y
 | .one l,y,ae=>h _ _ ae
 | .agg ls,y,⟨vs,e,ae⟩=>⟨vs,e,ae.map h⟩
theorem cM.map{kz:aC->Value->Prop}{f:aC->aC}(h:∀l v,S l v->kz (f l) v):∀{p:aB} {y:Value},cM S p y->cM kz (p.map f) y
 | .aD a,y,ae=>show j6 kz (a.map f) y from j6.map h (show j6 S a y from ae)
 | .fM as,y,⟨vs,e,aL,ae⟩=>⟨vs,e,by simpa using aL,fun i a ag=>by
   rw[c9,bX]at ag;obtain⟨a0,bm,rfl⟩:=ag;obtain⟨u,h1,U⟩:=ae i a0 bm;exact⟨u,h1,j6.map h U⟩⟩
theorem s8(f:aC->aC)(id:Nat):∀bs:List (Nat×List aC),dj id (bs.map fun x=>(x.1,x.2.map f))=(dj id bs).map (·.map f)
 | []=>rfl
 | (i,ls)::r=>by
  simp only[iT,dj];split
  ·rfl
  exact s8 f id r
structure ev where
 w:World
 G:Nat->Prop
 H:Nat->Nat×Value
def ev.Dm(B:ev)(b:Nat):Prop:=B.w.heap.size<=b\/B.G b
def IJ:Bool:=true
structure gA (n:Nat) (w aG:World):Prop where
 below:Below n w aG
 drawn:IJ=true->w.drawn<=aG.drawn
variable{n:Nat}
theorem gA.size(h:gA n w aG):w.heap.size<=aG.heap.size:=h.below.size
theorem gA.block(h:gA n w aG):∀k,k<n->aG.heap[k]?=w.heap[k]?:=h.below.block
theorem gA.refl(n:Nat)(w:World):gA n w w:=⟨Below.refl _ _,fun _=>dm _⟩
theorem gA.drew(h:gA n w aG):gA n w aG.drew:=⟨h.below.drew,fun ae=>Nat.le_succ_of_le (h.drawn ae)⟩
theorem gA.alloc(h:gA n w aG)(aL:n<=aG.heap.size)(o:Obj):gA n w (aG.alloc o):=⟨h.below.alloc aL o,h.drawn⟩
def BQ:List (Nat×List Int):=[]
def n5(w:World):Prop:=∀x∈BQ,∃ty cO,w.heap[x.1]?=some (.cells (x.2.map (Value.int .u64)).toArray ty cO)
theorem n5.lt(h:n5 w){x:Nat×List Int}(aa:x∈BQ):x.1<w.heap.size:=by
 obtain⟨ty,cO,e⟩:=h x aa;rcases lN x.1 w.heap.size with h | h
 ·exact h
 simp[zg h]at e
def Tidy(w:World)(ω:Own):Prop:=n5 w/\∀x∈BQ,ω x.1=.bx
structure gn (B:ev) (w:World):Prop where
 os:w.os=B.w.os
 tape:w.tape=B.w.tape
 output:w.output=B.w.output
 size:B.w.heap.size<=w.heap.size
 block:∀k,k<B.w.heap.size->¬B.G k->w.heap[k]?=B.w.heap[k]?
 drawn:IJ=true->B.w.drawn<=w.drawn
 laid:n5 w
 free:∀x∈Go.Sx.BQ,¬B.Dm x.1
theorem n5.next(h:n5 w)(k:gA w.heap.size w aG):n5 aG:=fun x aa=>by
 rw[k.below.block x.1 (h.lt aa)];exact h x aa
theorem gn.next{B:ev}(h:gn B w)(k:gA w.heap.size w aG):gn B aG:=
 ⟨k.below.os.trans h.os,k.below.tape.trans h.tape,k.below.output.trans h.output,ni h.size k.below.size,fun i hi ao=>(k.below.block i (ze hi h.size)).trans (h.block i hi ao),fun ae=>ni (h.drawn ae) (k.drawn ae),h.laid.next k,h.free⟩
def ev.of(w:World):ev:=⟨w,fun _=>False,fun _=>(0,undef)⟩
theorem gn.refl(B:ev)(h:n5 B.w)(ao:∀x∈BQ,¬B.G x.1):gn B B.w:=⟨rfl,rfl,rfl,dm _,fun _ _ _=>rfl,fun _=>dm _,h,fun x aa hm=>by
 rcases hm with hm | hm
 ·exact absurd (h.lt aa) (by omega)
 exact ao x aa hm⟩
theorem gn.start{H:Nat->Nat×Value}(h:Tidy w ω):gn ⟨w,fun b=>ω b≠.bx,H⟩ w:=gn.refl ⟨w,fun b=>ω b≠.bx,H⟩ h.1 fun x aa hm=>hm (h.2 x aa)
theorem gn.below(h:gn (ev.of w) aG):gA w.heap.size w aG:=⟨⟨h.os,h.tape,h.output,h.size,fun k hk=>h.block k hk (fun h=>h)⟩,h.drawn⟩
theorem gn.setRow{B:ev}(h:gn B w){b:Nat}(ah:B.Dm b)(arr:Array Value):gn B (w.setRow b arr):=
 ⟨h.os,h.tape,h.output,by simpa using h.size,fun k hk ao=>by
  have:k≠b:=by
   rintro rfl;rcases ah with ah | ah
   ·omega
   exact ao ah
  rw[setRow_other w b k arr this];exact h.block k hk ao,h.drawn,fun x aa=>by
  have:x.1≠b:=fun e=>h.free x aa (e▸ah)
  rw[setRow_other w b x.1 arr this];exact h.laid x aa,h.free⟩
def n4(w0:ev)(w:World)(ω:Own):Prop:=∀b,ω b≠.bx->w0.Dm b/\∃arr ty,w.heap[b]?=some (.cells arr ty (0,0))
def tt(w:World)(ω:Own)(τ:Nat->Nat×Value)(id:Nat)(ls:List aC):Prop:=
 ∃b arr ty,ω b=.box id/\(∀cT,ω cT=.box id->cT=b)/\w.heap[b]?=some (.cells arr ty (0,0))/\j7 (Sat w ω τ) ls arr
structure cx (w0:ev) (st:aE) (a:Act) (w:World) (ω:Own) (τ:Nat->Nat×Value):Prop where
 defers:a.defers=[]
 size:a.tmps.size=st.env.length
 below:gn w0 w
 owned:n4 w0 w ω
 fixed:∀t,c5<=t->τ t=w0.H t
 pinned:∀id b,c5<=id->ω b=.box id->(w0.H id).1=b
 env:∀(i:Nat) (p:aB),st.env[i]?=some p->∃v,a.tmps[i]?=some v/\cM (Sat w ω τ) p v
 boxes:∀id ls,dj id st.boxes=some ls->tt w ω τ id ls
def Rel(w0:ev)(st:aE)(a:Act)(w:World):Prop:=∃ω τ,cx w0 st a w ω τ
structure oZ (B:ev) (w:World):Prop where
 os:w.os=B.w.os
 tape:w.tape=B.w.tape
 output:w.output=B.w.output
 size:B.w.heap.size<=w.heap.size
 block:∀k,k<B.w.heap.size->¬B.G k->w.heap[k]?=B.w.heap[k]?
 drawn:IJ=true->B.w.drawn<=w.drawn
theorem oZ.full{H:Nat->Nat×Value}(h:oZ ⟨w,fun b=>ω b≠.bx,H⟩ aG)(bt:Tidy w ω):gn ⟨w,fun b=>ω b≠.bx,H⟩ aG:=
 ⟨h.os,h.tape,h.output,h.size,h.block,h.drawn,fun x aa=>by
  rw[h.block x.1 (bt.1.lt aa) fun aL=>aL (bt.2 x aa)];exact bt.1 x aa,(gn.start (H:=H) bt).free⟩
variable{w0:ev}
theorem cx.tidy{st:aE}{a:Act}{aY:Own}{τ:Nat->Nat×Value}(h:cx w0 st a w ω τ)(cQ:∀b,ω b=.bx->aY b=.bx):Tidy w aY:=
 ⟨h.below.laid,fun x aa=>cQ _ (Classical.byContradiction fun aL=>h.below.free x aa (h.owned _ aL).1)⟩
theorem n4.lt(h:n4 w0 w ω){b:Nat}(ah:ω b≠.bx):b<w.heap.size:=by
 obtain⟨_,arr,ty,e⟩:=h b ah;rcases lN b w.heap.size with h | h
 ·exact h
 simp[zg h]at e
theorem n4.fresh(h:n4 w0 w ω){b:Nat}(ah:w.heap.size<=b):ω b=.bx:=by
 cases e:ω b with
 | bx=>rfl
 | box id=>have:=h.lt (b:=b) (by simp[e]);omega
 | tok t q=>have:=h.lt (b:=b) (by simp[e]);omega
end Go.Sx
namespace Go.Sx
open Go.RowKit
def eS.cm(g:Tag->Option Tag):eS->eS
 | .J t k es=>match g t with | some c4=>.J c4 k es | none=>.cc
 | c=>c
def aC.cm(g:Tag->Option Tag)(p:Nat->Bool):aC->aC
 | .J t k es=>match g t with | some c4=>.J c4 k es | none=>.cc
 | .ep t k es i j=>match g t with | some c4=>.ep c4 k es i j | none=>.cc
 | .ptr id off=>if p id then .ptr id off else .cc
 | .gP f ids=>if ids.all p then .gP f ids else .cc
 | .aO t i j k es m=>match g (.own t) with | some (.own c4)=>if c4=t then .aO t i j k es m else .cc | _=>.cc
 | .fk t vs=>match g (.own t) with | some (.own c4)=>if c4=t then .fk t (vs.map (eS.cm g)) else .cc | _=>.cc
 | l=>l
structure lQ (w:World) (ω:Own) (τ:Nat->Nat×Value) (aG:World) (aY:Own) (cN:Nat->Nat×Value) (g:Tag->Option Tag) (p:Nat->Bool):Prop where
 rep:∀t c4 b q,g t=some c4->b<w.heap.size->t.R q (ω b)->c4.R q (aY b)/\aG.heap[b]?=w.heap[b]?
 dS:∀t c4 y,g t=some c4->t.dS τ y->c4.dS cN y
 box:∀id b,p id=true->ω b=.box id->aY b=.box id
 free:g .free=some .free
 fix:∀t,c5<=t->cN t=τ t
variable{w aG:World}{ω aY:Own}{τ cN:Nat->Nat×Value}{g:Tag->Option Tag}
theorem DE(h:∀c u,qO w ω τ c u->qO aG aY cN (eS.cm g c) u){arr:Array Value}{vs:List eS}
  (aL:arr.size=vs.length) (bj:∀(j:Nat) (c:eS),vs[j]?=some c->∃u,arr[j]?=some u/\qO w ω τ c u):
  arr.size=(vs.map (eS.cm g)).length/\∀(j:Nat) (c:eS),(vs.map (eS.cm g))[j]?=some c->∃u,arr[j]?=some u/\qO aG aY cN c u:=by
 refine⟨by simpa using aL,fun j c ad=>?_⟩;rw[c9,bX]at ad;obtain⟨dg,bm,rfl⟩:=ad;obtain⟨u,h1,U⟩:=bj j dg bm;exact⟨u,h1,h dg u U⟩
theorem lQ.mP{p:Nat->Bool}(h:lQ w ω τ aG aY cN g p)(c:eS)(u:Value)(ae:qO w ω τ c u):qO aG aY cN (eS.cm g c) u:=by
 cases c with
 | cc=>exact trivial
 | v x=>exact ae
 | J t k es=>
  simp only[eS.cm];cases ao:g t with
  | none=>exact trivial
  | some c4=>exact⟨ae.1.frame fun b q ah av=>h.rep t c4 b q ao ah av,h.dS t c4 _ ao ae.2⟩
theorem lQ.sat{g:Tag->Option Tag}{p:Nat->Bool}(h:lQ w ω τ aG aY cN g p):
  ∀(l:aC) (v:Value),Sat w ω τ l v->Sat aG aY cN (l.cm g p) v:=by
 intro l v ae;cases l with
 | cc=>exact trivial
 | v x=>exact ae
 | bg c=>exact ae
 | J t k es=>
  simp only[aC.cm];cases ao:g t with
  | none=>exact trivial
  | some c4=>exact⟨ae.1.frame fun b q ah av=>h.rep t c4 b q ao ah av,h.dS t c4 _ ao ae.2⟩
 | ptr id off=>
  simp only[aC.cm];split
  ·obtain⟨b,ah,e⟩:=ae;exact⟨b,h.box id b ‹_› ah,e⟩
  exact trivial
 | gP f ids=>
  simp only[aC.cm];split
  ·rename_i hp;obtain⟨bs,e,aL,hi⟩:=ae;refine⟨bs,e,aL,fun i id fX=>?_⟩;obtain⟨b,h1,U⟩:=hi i id fX;exact⟨b,h1,h.box id b (fN.1 hp id (e4 fX)) U⟩
  exact trivial
 | h8 ds off=>
  obtain⟨b,e,ar⟩:=ae;exact⟨b,e,ar.frame fun b q ah av=>h.rep .free .free b q h.free ah av⟩
 | fd d=>exact bR.frame ae fun b q ah av=>h.rep .free .free b q h.free ah av
 | db t k es=>exact⟨ae.1.frame fun b q ah av=>h.rep .free .free b q h.free ah av,fun bt=>(h.fix t bt).trans (ae.2 bt)⟩
 | aO t i j k es m=>
  simp only[aC.cm];split
  ·rename_i c4 ao;split
   ·rename_i bt;subst bt;obtain⟨u,hu,h1,hm⟩:=ae;refine⟨u,hu,h1.frame fun c q ad av=>h.rep _ _ c _ ao ad av,fun bI=>?_⟩;obtain⟨kT,b,off,len,cap,arr,ty,cO,U,ba,au,aH⟩:=hm bI;have bq:b<w.heap.size:=(hA.1 au).1;have hk:=h.rep _ _ b [] ao bq ba;exact⟨kT,b,off,len,cap,arr,ty,cO,h.dS _ _ _ ao U,hk.1,hk.2.trans au,aH⟩
   exact trivial
  exact trivial
 | fk t vs=>
  simp only[aC.cm];split
  ·rename_i c4 ao;split
   ·rename_i bt;subst bt;obtain⟨b,ty,arr,e,ba,au,aL,bj⟩:=ae;have bq:b<w.heap.size:=(hA.1 au).1;have hk:=h.rep _ _ b [] ao bq ba;exact⟨b,ty,arr,e,hk.1,hk.2.trans au,DE (h.mP) aL bj⟩
   exact trivial
  exact trivial
 | ep t k es i j=>
  simp only[aC.cm];cases ao:g t with
  | none=>exact trivial
  | some c4=>
   obtain⟨b,off,cap,e,hi,ar,bI⟩:=ae;exact⟨b,off,cap,e,hi,ar.frame fun b q ah av=>h.rep t c4 b q ao ah av,h.dS t c4 _ ao bI⟩
variable{a:Act}
theorem WN{d:Nat}{v:Value}{i:Nat}:(a.put (some d) v).tmps[i]?=if d=i/\i<a.tmps.size then some v else a.tmps[i]?:=by
 simp only[Act.put,Array.getElem?_setIfInBounds];by_cases h:d=i
 ·subst h;by_cases U:d<a.tmps.size
  ·simp[U]
  simp[U]
 simp[h]
variable{w0:ev}{st:aE}
theorem cx.put(h:cx w0 st a w ω τ){d:Nat}{p:aB}{v:Value}(ae:cM (Sat w ω τ) p v):
  cx w0 ⟨st.env.set d p,st.boxes⟩ (a.put (some d) v) w ω τ where
 defers:=h.defers
 size:=by simp[Act.put,h.size]
 below:=h.below
 owned:=h.owned
 fixed:=h.fixed
 pinned:=h.pinned
 boxes:=h.boxes
 env:=by
  intro i q av;rw[iS]at av;rw[WN];by_cases ax:d=i
  ·subst ax;simp only[fO]at av;split at av
   ·rename_i bq;have e:=ei av;subst e;exact⟨v,by rw[a6 ⟨rfl,by rw[h.size];exact bq⟩],ae⟩
   cases av
  rw[aX ax]at av;rw[aX (by simp[ax])];exact h.env i q av
theorem cx.Gj{p:Nat->Bool}
  (h:cx w0 st a w ω τ) (e:lQ w ω τ aG aY cN g p) (oe:gn w0 aG) (p6:n4 w0 aG aY) {bs:List (Nat×List aC)}
  (q0:∀id ls,dj id bs=some ls->tt aG aY cN id ls) (vL:∀id b,c5<=id->aY b=.box id->ω b=.box id) (q5:∀t,c5<=t->cN t=τ t:=by intros;rfl):cx w0 ⟨st.env.map (aB.map (aC.cm g p)),bs⟩ a aG aY cN where
 defers:=h.defers
 size:=by simp[h.size]
 below:=oe
 owned:=p6
 fixed:=fun t bt=>(q5 t bt).trans (h.fixed t bt)
 pinned:=fun id b hi ah=>h.pinned id b hi (vL id b hi ah)
 boxes:=q0
 env:=by
  intro i q av;rw[c9,bX]at av;obtain⟨ju,bm,rfl⟩:=av;obtain⟨v,h1,U⟩:=h.env i ju bm;exact⟨v,h1,cM.map e.sat U⟩
theorem nJ(w:World)(o:Obj):(w.alloc o).heap[w.heap.size]?=some o:=by
 show (w.heap.push o)[_]?=_;simp
theorem wI(w:World)(o:Obj){i:Nat}(h:i<w.heap.size):(w.alloc o).heap[i]?=w.heap[i]?:=Below.heap_alloc w o i h
def pC(id:Nat):List (Nat×List aC)->List (Nat×List aC)
 | []=>[]
 | (i,ls)::r=>if i=id then pC id r else (i,ls)::pC id r
theorem IK(id:Nat):∀bs,dj id (pC id bs)=none
 | []=>rfl
 | (i,ls)::r=>by
  simp only[pC];split
  ·exact IK id r
  simp only[dj];rw[aX ‹_›];exact IK id r
theorem yD{id hb:Nat}(h:hb≠id):∀bs,dj hb (pC id bs)=dj hb bs
 | []=>rfl
 | (i,ls)::r=>by
  simp only[pC,dj];by_cases h1:i=id
  ·rw[a6 h1,aX (by omega)];exact yD h r
  rw[aX h1];simp only[dj];split
  ·rfl
  exact yD h r
def rf:Tag->Option Tag:=some
def jF(id:Nat):Nat->Bool:=fun i=>decide (i≠id)
def aE.tW(st:aE)(id:Nat)(ls:List aC):aE:=
 let f:=aC.cm rf (jF id)
 ⟨st.env.map (aB.map f),(id,ls.map f)::(pC id st.boxes).map fun x=>(x.1,x.2.map f)⟩
theorem cx.tW(h:cx w0 st a w ω τ)(id:Nat)(fX:id<c5){ls:List aC}{arr:Array Value}(ty:TypeId)
  (ae:j7 (Sat w ω τ) ls arr):
  ∃aY,cx w0 (st.tW id ls) a (w.alloc (.cells arr ty)) aY τ/\aY w.heap.size=.box id:=by
 let aY:Own:=fun b=>if b=w.heap.size then .box id else match ω b with | .box i=>if i=id then .bx else .box i | o=>o
 have gh:aY w.heap.size=.box id:=by simp[aY]
 have hold:∀b,b<w.heap.size->aY b=(match ω b with | .box i=>if i=id then .bx else .box i | o=>o):=by
  intro b ah;simp only[aY];rw[aX (by omega)]
 have ha:∀b,b≠w.heap.size->aY b=(match ω b with | .box i=>if i=id then .bx else .box i | o=>o):=by
  intro b ah;simp only[aY];rw[aX ah]
 have bk:lQ w ω τ (w.alloc (.cells arr ty)) aY τ rf (jF id):=by
  refine⟨?_,?_,?_,rfl,fun _ _=>rfl⟩
  ·intro t c4 b q ao ah av;simp only[rf,aQ]at ao;subst ao;refine⟨?_,wI _ _ ah⟩;rw[hold b ah];cases t with
   | free=>simp only[Tag.R]at av ⊢;rw[av]
   | own s=>simp only[Tag.R]at av ⊢;rw[av]
   | ro s=>
    simp only[Tag.R]at av ⊢;rcases av with av | ⟨dh,av⟩
    ·rw[av];exact .inl rfl
    rw[av];exact .inr ⟨dh,rfl⟩
  ·intro t c4 y ao a1;simp only[rf,aQ]at ao;subst ao;exact a1
  intro i b hp ah;have bq:=h.owned.lt (b:=b) (by simp[ah]);rw[hold b bq,ah];simp only[jF,ci]at hp;simp[hp]
 have oe:gn w0 (w.alloc (.cells arr ty)):=h.below.next ((gA.refl _ _).alloc (dm _) _);have p6:n4 w0 (w.alloc (.cells arr ty)) aY:=by
  intro b ah;by_cases aL:b=w.heap.size
  ·subst aL;exact⟨.inl h.below.size,arr,ty,nJ _ _⟩
  rw[ha b aL]at ah;have U:ω b≠.bx:=by intro e;rw[e]at ah;exact ah rfl
  obtain⟨au,b3,qH,e⟩:=h.owned b U;exact⟨au,b3,qH,(wI _ _ (h.owned.lt U)).trans e⟩
 refine⟨aY,?_,gh⟩;refine h.Gj bk oe p6 ?_ (fun i b hi ah=>?_)
 case refine_2=>
  by_cases aL:b=w.heap.size
  ·subst aL;rw[gh]at ah;simp only[cS.box.injEq]at ah;omega
  rw[ha b aL]at ah;cases e:ω b with
  | bx=>simp[e]at ah
  | tok t q=>simp[e]at ah
  | box j=>
   simp only[e]at ah;split at ah
   ·cases ah
   exact ah
 intro i e6 af;simp only[dj]at af;split at af
 ·rename_i hi;subst hi;have e:=ei af;subst e;refine⟨w.heap.size,arr,ty,gh,?_,nJ _ _,ae.map bk.sat⟩;intro cT c7;by_cases aL:cT=w.heap.size
  ·exact aL
  rw[ha cT aL]at c7;cases e:ω cT with
  | bx=>simp[e]at c7
  | tok t q=>simp[e]at c7
  | box j=>
   simp only[e]at c7;split at c7
   ·cases c7
   rename_i b5;simp only[cS.box.injEq]at c7;exact absurd c7 b5
 rename_i hi;rw[s8,bX]at af;obtain⟨jr,bm,rfl⟩:=af;have b5:i≠id:=fun e=>hi e.symm
 rw[yD b5]at bm;obtain⟨b,b3,qH,ah,hu,bI,eB⟩:=h.boxes i jr bm;have bq:=h.owned.lt (b:=b) (by simp[ah]);refine⟨b,b3,qH,bk.box i b (by simp[jF,b5]) ah,?_,(wI _ _ bq).trans bI,eB.map bk.sat⟩;intro cT c7;by_cases aL:cT=w.heap.size
 ·subst aL;rw[gh]at c7;simp only[cS.box.injEq]at c7;exact absurd c7.symm b5
 rw[ha cT aL]at c7;refine hu cT ?_;cases e:ω cT with
 | bx=>simp[e]at c7
 | tok t q=>simp[e]at c7
 | box j=>
  simp only[e]at c7;split at c7
  ·cases c7
  exact c7
end Go.Sx
namespace Go.Sx
open Go.RowKit
inductive cH where
 | one (d:D)
 | agg (ds:List D)
inductive aT where
 | vals (rs:List cH)
 | iH (src:List (Option Nat)) (ds:List D)
abbrev aT.new (ds : List D) : aT := .iH [] ds
inductive gO where
 | normal
 | exit (id:Nat)
 | ret
inductive b4 where
 | own
 | sub
 | rT (vS:List (List (Option (Option (List (List D)))))) (src:Nat) (ds:List D) (rs:List cH)
 | res (rs:List cH)
 | dq (vS:List (Option (List D))) (r:aT)
 | loop (Dn:List (Nat×Nat×Nat)) (ey boxes:List Nat) (e:gO) (st:aE)
 | o1 (b:Bool)
 | el (ds:List D)
 | wr
 | eq (c:Bool)
 | num (n:Int)
 | oE (p:aB)
 | h7 (st:aE)
def cB:List Prop->Prop
 | []=>True
 | p::r=>p/\cB r
theorem cB.append:∀{a b:List Prop},cB (a++b)->cB a/\cB b
 | [],_,h=>⟨aj,h⟩
 | _::_,_,h=>⟨⟨h.1,(cB.append h.2).1⟩,(cB.append h.2).2⟩
abbrev jP:=Option (aB×List b4×List Prop)
def CD:Value->aB
 | .agg cs=>.agg (cs.toList.map .v)
 | v=>.one (.v v)
def aE.bk(st:aE):Operand->aB
 | .tmp t=>st.env.getD t .cc
 | .const v=>CD v
 | .func f=>.one (.fd (.cl f []))
 | _=>.cc
theorem aj5(w:World)(ω:Own)(τ:Nat->Nat×Value)(v:Value):cM (Sat w ω τ) (CD v) v:=by
 unfold CD;split
 ·rename_i cs;refine⟨cs,rfl,by simp,fun i l af=>?_⟩;rw[c9,bX]at af;obtain⟨u,hu,rfl⟩:=af;exact⟨u,by simpa using hu,rfl⟩
 exact rfl
variable{w:World}{ω:Own}{τ:Nat->Nat×Value}
theorem cx.bk{w0:ev}{st:aE}{a:Act}(h:cx w0 st a w ω τ)(x:Operand):cM (Sat w ω τ) (st.bk x) (a.eval x):=by
 cases x with
 | tmp t=>
  simp only[aE.bk,Act.eval];cases e:st.env[t]? with
  | none=>
   rw[iw,e];exact trivial
  | some p=>
   obtain⟨v,bj,ae⟩:=h.env t p e;rw[iw,e];simpa[ea,bj]using ae
 | const v=>exact aj5 w ω τ v
 | global g=>exact trivial
 | func f=>exact bR.cl _ f [] #[] (fun _=>undef) rfl (fun j d ax=>by simp at ax) (fun j d ax=>by simp at ax)
def aC.val:aC->Option Value
 | .v x=>some x
 | .bg c=>some (.bool c)
 | _=>none
variable{y:Value}
theorem aC.Ve{l:aC}{x:Value}(h:l.val=some x)(ae:Sat w ω τ l y):y=x:=by
 cases l<;>simp[aC.val]at h
 ·subst h;exact ae
 subst h;exact ae
def aB.leaf:aB->Option aC
 | .aD (.one l)=>some l
 | _=>none
theorem aB.dw{S:aC->Value->Prop}{p:aB}{l:aC}(h:p.leaf=some l)(ae:cM S p y):S l y:=by
 cases p with
 | fM as=>cases h
 | aD a=>
  cases a with
  | agg ls=>cases h
  | one ht=>simp only[aB.leaf,aQ]at h;subst h;exact ae
def aB.int(p:aB):Option (IntKind×Int):=
 match p.leaf with
 | some (.v (.int k n))=>some (k,n)
 | _=>none
variable{p:aB}{k:IntKind}
theorem aB.ot{n:Int}(h:p.int=some (k,n))(ae:cM (Sat w ω τ) p y):y=.int k n:=by
 unfold aB.int at h;split at h
 ·rename_i b8 Ze e;simp only[aQ,bw]at h;obtain⟨rfl,rfl⟩:=h;exact aB.dw e ae
 cases h
def aB.vals:aB->Option (List Value)
 | .aD (.agg ls)=>ls.mapM aC.val
 | _=>none
theorem Pc{w:World}{ω:Own}{τ:Nat->Nat×Value}:∀{ls:List aC} {xs:List Value},ls.mapM aC.val=some xs->∀{vs:List Value},vs.length=ls.length->(∀(i:Nat) (l:aC),ls[i]?=some l->∃u,vs[i]?=some u/\Sat w ω τ l u)->vs=xs
 | [],xs,h,vs,aL,_=>by
  simp at h;subst h;exact u0 aL
 | l::ls,xs,h,vs,aL,ae=>by
  rw[xh]at h;cases e:l.val with
  | none=>simp[e]at h
  | some x=>
   cases e2:ls.mapM aC.val with
   | none=>simp[e,e2]at h
   | some ys=>
    simp[e,e2]at h;subst h;cases vs with
    | nil=>simp at aL
    | cons v vs=>
     obtain⟨u,hu,eB⟩:=ae 0 l rfl;simp at hu;subst hu;rw[aC.Ve e eB]
     congr 1
     exact Pc e2 (by simpa using aL) (fun i ht af=>by have:=ae (i+1) ht (by simpa using af);simpa using this)
theorem aB.aqJ{xs:List Value}(h:p.vals=some xs)(ae:cM (Sat w ω τ) p y):y=.agg xs.toArray:=by
 cases p with
 | fM as=>cases h
 | aD a=>
  cases a with
  | one l=>cases h
  | agg ls=>
   obtain⟨vs,rfl,aL,bj⟩:=ae;have:=Pc (w:=w) (ω:=ω) (τ:=τ) h (vs:=vs.toList) (by simpa using aL) (fun i l af=>by obtain⟨u,h1,U⟩:=bj i l af;exact⟨u,by simpa using h1,U⟩);rw[<-this]
def bf(k:IntKind)(e:Int):Prop:=
 match k with
 | .i64=>-9223372036854775808<=e/\e<=9223372036854775807
 | k=>k.wrap e=e
theorem bf.wrap{e:Int}(h:bf k e):k.wrap e=e:=by
 cases k<;>first | exact h | (simp only[bf]at h;rw[IntKind.wrap_i64];omega)
def arith(k:IntKind)(e:Int)(ans:List b4):jP:=
 match ans with
 | .wr::r=>some (.one (.v (.int k (k.wrap e))),r,[])
 | _=>some (.one (.v (.int k e)),ans,[bf k e])
variable{ans ch:List b4}{obs:List Prop}
theorem yE{e:Int}(h:arith k e ans=some (p,ch,obs))(aN:cB obs):cM (Sat w ω τ) p (.int k (k.wrap e)):=by
 unfold arith at h;split at h
 ·simp only[aQ,bw]at h;obtain⟨rfl,_,_⟩:=h;exact rfl
 simp only[aQ,bw]at h;obtain⟨rfl,_,rfl⟩:=h;rw[aN.1.wrap];exact rfl
def me(P:Program)(op:BinOp)(t:TypeId)(x y:Operand)(u v c:Value):Prop:=
 ∀w:World,((do eqGuard op t x y u v;binOp op t u v:Sem Value)).run P w=.ok c w
def IL(op:BinOp)(k:IntKind)(x y:Int)(ans:List b4):jP:=
 match op with
 | .add=>arith k (x+y) ans
 | .sub=>arith k (x-y) ans
 | .mul=>arith k (x*y) ans
 | .quo=>(arith k (x.tdiv y) ans).map fun r=>(r.1,r.2.1,(y≠0)::r.2.2)
 | .rem=>some (.one (.v (.int k (x.tmod y))),ans,[y≠0])
 | .eql=>some (.one (.bg (x==y)),ans,[])
 | .neq=>some (.one (.bg (x != y)),ans,[])
 | .lss=>some (.one (.bg (decide (x<y))),ans,[])
 | .leq=>some (.one (.bg (decide (x<=y))),ans,[])
 | .gtr=>some (.one (.bg (decide (x>y))),ans,[])
 | .geq=>some (.one (.bg (decide (x>=y))),ans,[])
 | _=>none
variable{P:Program}{op:BinOp}
theorem aj6{x y:Int}(t:TypeId)(Zr Zs:Operand)
  (h:IL op k x y ans=some (p,ch,obs)) (aN:cB obs):
  ∃v,((do eqGuard op t Zr Zs (.int k x) (.int k y);binOp op t (.int k x) (.int k y):Sem Value)).run P w=.ok v w/\cM (Sat w ω τ) p v:=by
 rw[eqGuard_at_int];simp only[Sem.run_bind,Sem.run_pure,Result.andThen_ok];cases op<;>simp only[IL,aQ,bw,reduceCtorEq]at h
 case add=>exact⟨_,by rw[binOp_add];rfl,yE h aN⟩
 case sub=>exact⟨_,by rw[binOp_sub];rfl,yE h aN⟩
 case mul=>exact⟨_,by rw[binOp_mul];rfl,yE h aN⟩
 case quo=>
  rw[bX]at h;obtain⟨⟨qh,cy,pg⟩,h1,U⟩:=h;simp only[bw]at U;obtain⟨rfl,rfl,rfl⟩:=U;refine⟨_,?_,yE h1 aN.2⟩;rw[binOp_quo];simp[Op.intDiv,aN.1]
 case rem=>
  obtain⟨rfl,_,rfl⟩:=h;refine⟨_,?_,rfl⟩;rw[binOp_rem];simp[Op.intDiv,aN.1]
 case eql=>obtain⟨rfl,_,rfl⟩:=h;exact⟨_,by rw[binOp_eql];rfl,rfl⟩
 case neq=>obtain⟨rfl,_,rfl⟩:=h;exact⟨_,by rw[binOp_neq];rfl,rfl⟩
 case lss=>obtain⟨rfl,_,rfl⟩:=h;exact⟨_,by rw[binOp_lss];rfl,rfl⟩
 case leq=>obtain⟨rfl,_,rfl⟩:=h;exact⟨_,by rw[binOp_leq];rfl,rfl⟩
 case gtr=>obtain⟨rfl,_,rfl⟩:=h;exact⟨_,by rw[binOp_gtr];rfl,rfl⟩
 case geq=>obtain⟨rfl,_,rfl⟩:=h;exact⟨_,by rw[binOp_geq];rfl,rfl⟩
def aB.value(p:aB):Option Value:=
 match p with
 | .aD (.one l)=>l.val
 | p=>p.vals.map fun xs=>.agg xs.toArray
theorem aB.y8{x:Value}(h:p.value=some x)(ae:cM (Sat w ω τ) p y):y=x:=by
 unfold aB.value at h;split at h
 ·exact aC.Ve h ae
 rw[bX]at h;obtain⟨xs,h1,rfl⟩:=h;exact aB.aqJ h1 ae
def wJ(P:Program)(t:TypeId):Option Bool:=
 match P.underlying t with
 | some (.struct _) | some (.array _ _)=>some true
 | some _=>some false
 | none=>none
variable{t:TypeId}
theorem yF{b:Bool}(h:wJ P t=some b)(w:World):(isAgg t).run P w=.ok b w:=by
 unfold wJ at h;unfold isAgg;split at h
 ·rename_i hu;simp only[aQ]at h;subst h;simp[run_underlying hu]
 ·rename_i hu;simp only[aQ]at h;subst h;simp[run_underlying hu]
 ·rename_i d h1 U hu;simp only[aQ]at h;subst h;rw[Sem.run_bind,run_underlying hu];cases d<;>first | rfl | (exact absurd rfl (h1 _)) | (exact absurd rfl (U _ _))
 cases h
def Ds(P:Program)(t:TypeId)(cs:Array Value)(off:Nat):Option Value:=
 match wJ P t,P.info? t with
 | some true,some i=>some (.agg (cs.extract off (off+i.size)))
 | some false,_=>cs[off]?
 | _,_=>none
variable{v:Value}
theorem Pd{cs:Array Value}{off:Nat}(h:Ds P t cs off=some v)(w:World):(part t cs off).run P w=.ok v w:=by
 unfold Ds at h;split at h
 ·rename_i i e1 e2;simp only[aQ]at h;subst h;simp[part,yF e1,sizeOf,typeInfo,e2]
 ·rename_i e1;simp[part,yF e1,h]
 cases h
def zu(P:Program)(f:TypeId->Value->Value->Option Bool)(xs ys:Array Value):List Field->Option Bool
 | []=>some true
 | fd::r=>
  if fd.name = "_" then none else
  match Ds P fd.type xs fd.offset,Ds P fd.type ys fd.offset with
  | some a,some b=>
   match f fd.type a b with
   | some c=>
    match r with
    | []=>some c
    | r=>(zu P f xs ys r).map fun jS=>c&&jS
   | none=>none
  | _,_=>none
def xv(P:Program):Nat->TypeId->Value->Value->Option Bool
 | 0,_,_,_=>none
 | m+1,t,x,y=>
  match P.underlying t,x,y with
  | some .bool,.bool a,.bool b=>some (a==b)
  | some (.int _),.int k a,.int b8 b=>if k=b8 then some (a==b) else none
  | some .string,.string a,.string b=>some (a.toList==b.toList)
  | some (.struct eT),.agg xs,.agg ys=>if P.stoodInHeld t then none else zu P (xv P m) xs ys eT.toList
  | _,_,_=>none
theorem Pe{d:Nat}{f:TypeId->Value->Value->Option Bool}(bl:∀t x y c,f t x y=some c->∀w,(Op.equalIn d t x y).run P w=.ok c w){xs ys:Array Value}:
  ∀{eT:List Field} {c:Bool},zu P f xs ys eT=some c->∀w,(Op.eqFields d xs ys eT).run P w=.ok c w
 | [],c,h,w=>by simp only[zu,aQ]at h;subst h;simp[Op.eqFields]
 | fd::r,c,h,w=>by
  simp only[zu]at h;split at h
  ·cases h
  rename_i aL;split at h
  ·rename_i a b e1 e2;split at h
   ·rename_i c1 b2;simp only [Op.eqFields, a6 (show fd.name ≠ "_" from aL), Sem.run_bind, Pd e1, Pd e2, Result.andThen_ok, bl _ _ _ _ b2, Sem.run_ite];split at h
    ·simp only[aQ]at h;subst h;cases c1<;>simp[Op.eqFields]
    ·rw[bX]at h;obtain⟨c2,h1,rfl⟩:=h;have:=Pe bl h1 w;cases c1<;>simp[this]
   cases h
  cases h
theorem Pf:∀{m:Nat} {t:TypeId} {x y:Value} {c:Bool},xv P m t x y=some c->∀(d:Nat) (w:World),(Op.equalIn (d+m) t x y).run P w=.ok c w
 | 0,_,_,_,_,h,_,_=>by cases h
 | m+1,t,x,y,c,h,d,w=>by
  rw[show d+(m+1)=(d+m)+1 from rfl];simp only[xv]at h;split at h
  ·rename_i a b e;simp only[aQ]at h;subst h;exact run_equalIn_bool w _ t a b e
  ·rename_i b8 k a b6 b e;split at h
   ·rename_i hk;subst hk;simp only[aQ]at h;subst h;exact run_equalIn_int w _ t k b8 a b e
   cases h
  ·rename_i a b e;simp only[aQ]at h;subst h;exact run_equalIn_string w _ t a b e
  ·rename_i eT xs ys e;split at h
   ·cases h
   rename_i ae;have Nq:P.fieldsOf t=eT:=by simp[Program.fieldsOf,e]
   rw[run_equalIn_struct w _ t xs ys (by rw[Nq];exact e) (by simpa using ae),Nq];exact Pe (fun t x y c h w=>Pf h d w) h w
  cases h
def Gh(P:Program)(op:BinOp)(t:TypeId)(u v:Value):Option Bool:=
 match op,u,v with
 | .eql,.agg xs,.agg ys=>if P.eqGuardType P.depth t then none else xv P 20 t (.agg xs) (.agg ys)
 | .neq,.agg xs,.agg ys=>if P.eqGuardType P.depth t then none else (xv P 20 t (.agg xs) (.agg ys)).map fun c=>!c
 | .eql,.bool a,.bool b=>match P.underlying t with | some .bool=>some (a==b) | _=>none
 | .neq,.bool a,.bool b=>match P.underlying t with | some .bool=>some (!(a==b)) | _=>none
 | .eql,.string a,.string b=>match P.underlying t with | some .string=>some (a.toList==b.toList) | _=>none
 | .neq,.string a,.string b=>match P.underlying t with | some .string=>some (!(a.toList==b.toList)) | _=>none
 | _,_,_=>none
theorem aj7{x y:Operand}{u:Value}{c:Bool}(h:Gh P op t u v=some c):me P op t x y u v (.bool c):=by
 intro w;have hr:∀{x y:Value} {c:Bool},xv P 20 t x y=some c->(Op.equalIn 10000 t x y).run P w=.ok c w:=fun h=>Pf h 9980 w
 unfold Gh at h;split at h
 ·rename_i xs ys;split at h
  ·cases h
  rename_i ao;simp[run_eqGuard_agg w .eql t x y xs ys (by simpa using ao),run_eql_struct,hr h]
 ·rename_i xs ys;split at h
  ·cases h
  rename_i ao;rw[bX]at h;obtain⟨jS,h1,rfl⟩:=h;simp[run_eqGuard_agg w .neq t x y xs ys (by simpa using ao),run_neq_struct,hr h1]
 ·rename_i a b;split at h
  ·rename_i e;simp only[aQ]at h;subst h;simp[eqGuard,binOp,run_equal_bool w t a b e]
  cases h
 ·rename_i a b;split at h
  ·rename_i e;simp only[aQ]at h;subst h;simp[eqGuard,binOp,run_equal_bool w t a b e]
  cases h
 ·rename_i a b;split at h
  ·simp only[aQ]at h;subst h;simp[eqGuard,binOp,Op.stringOp,beq_toListBytes]
  cases h
 ·rename_i a b;split at h
  ·simp only[aQ]at h;subst h;simp[eqGuard,binOp,Op.stringOp,beq_toListBytes]
  cases h
 cases h
def IM(P:Program)(op:BinOp)(t:TypeId)(x y:Operand)(p q:aB)(ans:List b4):jP:=
 match p.int,q.int with
 | some (k,a),some (b8,b)=>
  match (if k=b8 then IL op k a b ans else none) with
  | some r=>some r
  | none=>
   match ans with
   | .oE (.aD (.one (.v c)))::r=>some (.one (.v c),r,[me P op t x y (.int k a) (.int b8 b) c])
   | _=>none
 | _,_=>
  match (match p.value,q.value with | some u,some v=>Gh P op t u v | _,_=>none) with
  | some c=>some (.one (.bg c),ans,[])
  | none=>
  match p.value,q.value,ans with
  | some u,some v,.eq c::r=>some (.one (.bg c),r,[me P op t x y u v (.bool c)])
  | some u,some v,.oE (.aD (.one (.v c)))::r=>some (.one (.v c),r,[me P op t x y u v c])
  | _,_,_=>none
theorem aj8{x y:Operand}{q r:aB}{u:Value}
  (hp:cM (Sat w ω τ) p u) (av:cM (Sat w ω τ) q v) (h:IM P op t x y p q ans=some (r,ch,obs)) (aN:cB obs):
  ∃z,((do eqGuard op t x y u v;binOp op t u v:Sem Value)).run P w=.ok z w/\cM (Sat w ω τ) r z:=by
 unfold IM at h;split at h
 ·rename_i k a b8 b e1 e2;rw[aB.ot e1 hp,aB.ot e2 av];split at h
  ·rename_i ko b2;simp only[aQ]at h;subst h;split at b2
   ·rename_i hk;subst hk;exact aj6 t x y b2 aN
   cases b2
  split at h
  ·rename_i c ko _;simp only[aQ,bw]at h;obtain⟨rfl,_,rfl⟩:=h;exact⟨_,aN.1 w,rfl⟩
  cases h
 split at h
 ·rename_i c bE;simp only[aQ,bw]at h;obtain⟨rfl,_,_⟩:=h;split at bE
  ·rename_i tk la e1 e2;rw[aB.y8 e1 hp,aB.y8 e2 av];exact⟨_,aj7 bE w,rfl⟩
  cases bE
 split at h
 ·rename_i tk la c ko e1 e2;simp only[aQ,bw]at h;obtain⟨rfl,_,rfl⟩:=h;rw[aB.y8 e1 hp,aB.y8 e2 av];exact⟨_,aN.1 w,rfl⟩
 ·rename_i tk la c ko e1 e2;simp only[aQ,bw]at h;obtain⟨rfl,_,rfl⟩:=h;rw[aB.y8 e1 hp,aB.y8 e2 av];exact⟨_,aN.1 w,rfl⟩
 cases h
end Go.Sx
namespace Go.Sx
open Go.RowKit
def Tag.Fh:Tag->Tag
 | .free=>.free
 | .own t=>.ro t
 | .ro t=>.ro t
theorem Tag.LY{t:Tag}{q dh:List (Nat×Nat)}{o:cS}(h:t.R q o):t.Fh.R dh o:=by
 cases t with
 | free=>exact h
 | own s=>exact .inr ⟨q,h⟩
 | ro s=>exact h
variable{τ:Nat->Nat×Value}
theorem Tag.LZ{t:Tag}{y:Nat×Value}:t.Fh.dS τ y:=by cases t<;>exact trivial
def D.leaf(t:Tag):D->aC
 | .v (.bool c)=>.bg c
 | .v x=>.v x
 | .J k es=>.J t.Fh k es
 | .ptr ds=>match t with | .free=>.h8 ds 0 | _=>.cc
 | .cl g bA=>match t with | .free=>.fd (.cl g bA) | _=>.cc
variable{w:World}{ω:Own}
theorem D.dw{τ:Nat->Nat×Value}{t:Tag}{p:Nat×Nat}{d:D}{u:Value}(h:bR w ω (fun q=>t.R (p::q)) d u):Sat w ω τ (d.leaf t) u:=by
 cases d with
 | v x=>
  have e:u=x:=by cases h;rfl
  subst e;unfold D.leaf;split
  ·rename_i h;cases h;exact rfl
  ·rename_i h;cases h;exact rfl
  ·rename_i h;cases h
  ·rename_i h;cases h
  rename_i h;cases h
 | J k es=>exact⟨h.frame fun b q ah av=>⟨Tag.LY av,rfl⟩,Tag.LZ⟩
 | ptr ds=>
  cases t with
  | free=>
   have U:bR w ω Tag.free.R (.ptr ds) u:=h;have au:=U;cases au with
   | ptr R ds b arr ty cO us ah dI ae hu ax=>exact⟨b,rfl,U⟩
  | own s=>exact trivial
  | ro s=>exact trivial
 | cl g bA=>
  cases t with
  | free=>exact h
  | own s=>exact trivial
  | ro s=>exact trivial
def D.Oi(t i j:Nat):D->aC
 | .J k es=>.aO t i j k es .here
 | d=>d.leaf (.own t)
def ui(t i:Nat):Nat->List D->List aC
 | _,[]=>[]
 | j,d::ds=>d.Oi t i j::ui t i (j+1) ds
theorem Pg(t i:Nat):∀(ds:List D) (j x:Nat),(ui t i j ds)[x]?=(ds[x]?).map (D.Oi t i (j+x))
 | [],_,_=>by simp[ui]
 | d::ds,j,0=>by simp[ui]
 | d::ds,j,x+1=>by
  simp only[ui,nY,Pg t i ds (j+1) x];rw[show j+1+x=j+(x+1) by omega]
theorem Ph(t i:Nat):∀(ds:List D) (j:Nat),(ui t i j ds).length=ds.length
 | [],_=>rfl
 | d::ds,j=>by simp[ui,Ph t i ds (j+1)]
def IN(P:Program)(s:TypeId)(f:Nat):Option Nat:=
 match P.underlying s with
 | some (.struct eT)=>
  match eT[f]? with
  | some fd=>
   match P.info? fd.type with
   | some i=>if i.size=0 then none else some fd.offset
   | none=>none
  | none=>none
 | _=>none
theorem qp(b off n:Nat):(⟨b,off,none⟩:Addr).add n=⟨b,off+n,none⟩:=by
 unfold Addr.add;split
 ·rename_i h;simp[h]
 rfl
variable{P:Program}{off:Nat}
theorem DF{s:TypeId}{f:Nat}(h:IN P s f=some off)(w:World)(b o:Nat):
  (Instr.fieldAt s (.pointer (some ⟨b,o,none⟩)) f).run P w=.ok (.pointer (some ⟨b,o+off,none⟩)) w:=by
 unfold IN at h;split at h
 ·rename_i eT hu;split at h
  ·rename_i fd bl;split at h
   ·rename_i i hi;split at h
    ·cases h
    rename_i aR;simp only[aQ]at h;subst h;simp[Instr.fieldAt,run_underlying hu,bl,Instr.sureAddr,fieldPlace,sizeOf,typeInfo,hi,aR,qp]
   cases h
  cases h
 cases h
def IP(P:Program)(s:TypeId)(p:aB)(f:Nat)(ans:List b4):jP:=
 match IN P s f,p.leaf with
 | some off,some (.ptr id o)=>some (.one (.ptr id (o+off)),ans,[])
 | some off,some (.ep t k es i j)=>some (.one (.ep t k es i (j+off)),ans,[])
 | some off,some (.h8 ds o)=>some (.one (.h8 ds (o+off)),ans,[])
 | some off,some (.aO t i j k es (.at_ x y))=>some (.one (.aO t i j k es (.at_ x (y+off))),ans,[])
 | _,_=>none
variable{p r:aB}{v:Value}{ans ch:List b4}{obs:List Prop}
theorem aj9{s:TypeId}{f:Nat}
  (hp:cM (Sat w ω τ) p v) (h:IP P s p f ans=some (r,ch,obs)):
  ∃z,(Instr.fieldAt s v f).run P w=.ok z w/\cM (Sat w ω τ) r z:=by
 unfold IP at h;split at h
 ·rename_i off id o e1 e2;simp only[aQ,bw]at h;obtain⟨rfl,_,rfl⟩:=h;obtain⟨b,ah,rfl⟩:=aB.dw e2 hp;exact⟨_,DF e1 w b o,b,ah,rfl⟩
 ·rename_i off t k es i j e1 e2;simp only[aQ,bw]at h;obtain⟨rfl,_,rfl⟩:=h;obtain⟨b,o,cap,rfl,hi,ar,bI⟩:=aB.dw e2 hp;exact⟨_,DF e1 w b _,b,o,cap,by rw[u4],hi,ar,bI⟩
 ·rename_i off ds o e1 e2;simp only[aQ,bw]at h;obtain⟨rfl,_,rfl⟩:=h;obtain⟨b,rfl,ar⟩:=aB.dw e2 hp;exact⟨_,DF e1 w b o,b,rfl,ar⟩
 ·rename_i off t i j k es x y e1 e2;simp only[aQ,bw]at h;obtain⟨rfl,_,rfl⟩:=h;obtain⟨u,⟨b,o,cap,rfl,rfl,aa⟩,ar,hm⟩:=aB.dw e2 hp;exact⟨_,DF e1 w b _,_,⟨b,o,cap,rfl,by rw[u4],aa⟩,ar,fun _=>hm rfl⟩
 cases h
def qq(P:Program)(t:TypeId):Option (TypeId×Nat):=
 match P.underlying t with
 | some (.slice e)=>(P.info? e).map fun i=>(e,i.size)
 | _=>none
variable{t:TypeId}
theorem wK{e:TypeId}{k:Nat}(h:qq P t=some (e,k)):P.underlying t=some (.slice e)/\∃i,P.info? e=some i/\i.size=k:=by
 unfold qq at h;split at h
 ·rename_i e' hu;rw[bX]at h;obtain⟨i,hi,h⟩:=h;simp only[bw]at h;obtain⟨rfl,rfl⟩:=h;exact⟨hu,i,hi,rfl⟩
 cases h
def aC.flat:aC->aC
 | .db _ k es=>.J .free k es
 | l=>l
def aB.kH(p:aB):Option aC:=p.leaf.map aC.flat
variable{y:Value}{l:aC}
theorem aB.vQ(h:p.kH=some l)(ae:cM (Sat w ω τ) p y):Sat w ω τ l y:=by
 unfold aB.kH at h;rw[bX]at h;obtain⟨ej,bm,rfl⟩:=h;have:=aB.dw bm ae;unfold aC.flat;split
 ·exact⟨this.1,aj⟩
 exact this
def IQ(P:Program)(t:TypeId)(p q:aB)(ans:List b4):jP:=
 match qq P t,p.kH,q.int with
 | some (_,k),some (.J tag b8 es),some (_,n)=>if k=b8 then some (.one (.ep tag b8 es n.toNat 0),ans,[0<=n,n<(es.length:Int)]) else none
 | some (_,k),some (.aO s i j b8 es .here),some (_,n)=>if k=b8 then some (.one (.aO s i j b8 es (.at_ n.toNat 0)),ans,[0<=n,n<(es.length:Int)]) else none
 | _,_,_=>none
theorem aka{q:aB}{u:Value}
  (hp:cM (Sat w ω τ) p u) (av:cM (Sat w ω τ) q v) (h:IQ P t p q ans=some (r,ch,obs)) (aN:cB obs):
  ∃z,(Instr.indexAt t u v).run P w=.ok z w/\cM (Sat w ω τ) r z:=by
 unfold IQ at h;split at h
 ·rename_i e k tag b8 es Ai n e1 e2 b2;split at h
  ·rename_i hk;subst hk;simp only[aQ,bw]at h;obtain⟨rfl,_,rfl⟩:=h;obtain⟨hu,i,hi,aR⟩:=wK e1;obtain⟨ar,bI⟩:=aB.vQ e2 hp;rw[aB.ot b2 av];have bm:0<=n:=aN.1;have h1:n<(es.length:Int):=aN.2.1;cases ar with
   | nil=>simp at h1;omega
   | row R k es b off cap arr ty cO us ah dI ad ae hk jD ax=>
    refine⟨.pointer (some ⟨b,off+n.toNat*k+0,none⟩),?_,b,off,cap,rfl,by omega,.row _ k es b off cap arr ty cO us ah dI ad ae hk jD ax,bI⟩;simp[Instr.indexAt,run_underlying hu,asIntOf,bm,h1,sizeOf,typeInfo,hi,aR,qp]
  cases h
 ·rename_i e k s BO BP b8 es Ai n e1 e2 b2;split at h
  ·rename_i hk;subst hk;simp only[aQ,bw]at h;obtain⟨rfl,_,rfl⟩:=h;obtain⟨hu,i,hi,aR⟩:=wK e1;obtain⟨hX,rfl,ar,hm⟩:=aB.vQ e2 hp;rw[aB.ot b2 av];have bm:0<=n:=aN.1;have h1:n<(es.length:Int):=aN.2.1;cases ar with
   | nil=>simp at h1;omega
   | row R k es b off cap arr ty cO us ah dI ad ae hk jD ax=>
    refine⟨.pointer (some ⟨b,off+n.toNat*k+0,none⟩),?_,_,⟨b,off,cap,rfl,rfl,by omega⟩,.row _ k es b off cap arr ty cO us ah dI ad ae hk jD ax,hm⟩;simp[Instr.indexAt,run_underlying hu,asIntOf,bm,h1,sizeOf,typeInfo,hi,aR,qp]
  cases h
 cases h
theorem akb{P:Program}{b n:Nat}{arr:Array Value}{ty:TypeId}{cO:Nat×Nat}(ah:w.heap[b]?=some (.cells arr ty cO))(aL:off+n<=arr.size):
  (loadCells ⟨b,off,none⟩ n).run P w=.ok (arr.extract off (off+n)) w:=by
 have af:((arr.extract off (off+n)).toList).length=n:=by simp;omega
 have:=run_loadCells_list (P:=P) w ⟨b,off,none⟩ (arr.extract off (off+n)).toList (fun j v bj=>by
  rw[qp,cell_of_row w b (off+j) arr ty cO ah];rw[jg,Array.getElem?_extract]at bj;split at bj
  ·exact bj
  cases bj)
 rw[af,Array.toArray_toList]at this;exact this
def rn(agg:Bool)(n:Nat)(ls:List aC)(off:Nat):Option aB:=
 if agg then (if off+n<=ls.length then some (.agg ((ls.drop off).take n)) else none)
 else (ls[off]?).map fun l=>.one l
theorem yG{P:Program}{ω:Own}{τ:Nat->Nat×Value}{agg:Bool}{i:TypeInfo}{ls:List aC}(ag:wJ P t=some agg)(hi:P.info? t=some i)
  (h:rn agg i.size ls off=some p) {b base:Nat} {arr:Array Value} {ty:TypeId} {cO:Nat×Nat} (ah:w.heap[b]?=some (.cells arr ty cO)) (di:base+ls.length<=arr.size)
  (ae:∀(j:Nat) (l:aC),ls[j]?=some l->∃u,arr[base+j]?=some u/\Sat w ω τ l u):
  ∃z,(loadVar t ⟨b,base+off,none⟩).run P w=.ok z w/\cM (Sat w ω τ) p z:=by
 unfold rn at h;cases agg with
 | true=>
  simp only[fO]at h;split at h
  ·rename_i hle;simp only[aQ]at h;subst h;refine⟨.agg (arr.extract (base+off) (base+off+i.size)),?_,?_⟩
   ·simp[loadVar,yF ag,sizeOf,typeInfo,hi,akb (P:=P) ah (show base+off+i.size<=arr.size by omega)]
   refine⟨_,rfl,by simp;omega,fun j l af=>?_⟩;rw[gX]at af;split at af
   ·rw[gV]at af;obtain⟨u,h1,U⟩:=ae _ l af;refine⟨u,?_,U⟩;rw[Array.getElem?_extract,a6 (by omega),<-h1]
    congr 1
    omega
   cases af
  cases h
 | false=>
  simp only[mm,j4,bX]at h;obtain⟨l,af,rfl⟩:=h;obtain⟨u,h1,U⟩:=ae _ l af;refine⟨u,?_,U⟩;simp[loadVar,yF ag,cell_of_row w b (base+off) arr ty cO ah,h1]
def DG(P:Program)(st:aE)(t:TypeId)(p:aB)(ans:List b4):jP:=
 match wJ P t,P.info? t,p.leaf with
 | some agg,some i,some (.ptr id off)=>
  match dj id st.boxes with
  | some ls=>(rn agg i.size ls off).map fun r=>(r,ans,[])
  | none=>none
 | some agg,some i,some (.ep tag k es x j)=>
  match ans with
  | .el ds::r=>if ds.length=k then (rn agg i.size (ds.map (D.leaf tag)) j).map fun v=>(v,r,[es[x]?=some ds]) else none
  | .sub::.el ds::r=>
   match tag with
   | .own t=>if ds.length=k then (rn agg i.size (ui t x 0 ds) j).map fun v=>(v,r,[es[x]?=some ds]) else none
   | _=>none
  | _=>none
 | some agg,some i,some (.h8 ds off)=>(rn agg i.size (ds.map (D.leaf .free)) off).map fun r=>(r,ans,[])
 | some agg,some i,some (.aO s _ _ k es (.at_ x y))=>
  match ans with
  | .el ds::r=>if ds.length=k then (rn agg i.size (ds.map (D.leaf (.ro s))) y).map fun v=>(v,r,[es[x]?=some ds]) else none
  | _=>none
 | _,_,_=>none
variable{w0:ev}{a:Act}{st:aE}
theorem akc
  (aV:cx w0 st a w ω τ) (hp:cM (Sat w ω τ) p v) (h:DG P st t p ans=some (r,ch,obs)) (aN:cB obs):
  ∃z,(Instr.loadAt t v).run P w=.ok z w/\cM (Sat w ω τ) r z:=by
 unfold DG at h;split at h
 ·rename_i agg i id off e1 e2 b2;split at h
  ·rename_i ls cq;rw[bX]at h;obtain⟨ko,h1,h⟩:=h;simp only[bw]at h;obtain⟨rfl,rfl,rfl⟩:=h;obtain⟨b,ah,rfl⟩:=aB.dw b2 hp;obtain⟨cT,arr,ty,c7,z7,G0,di,eB⟩:=aV.boxes id ls cq;have:=z7 b ah;subst this;have:=yG (P:=P) e1 e2 h1 G0 (base:=0) (by omega) (fun j l af=>by simpa using eB j l af);simpa[Instr.loadAt,Instr.sureAddr]using this
  cases h
 ·rename_i agg i tag k es x j e1 e2 b2;split at h
  ·rename_i ds hK;split at h
   ·rename_i hlen;rw[bX]at h;obtain⟨ko,h1,h⟩:=h;simp only[bw]at h;obtain⟨rfl,rfl,rfl⟩:=h;have eo:es[x]?=some ds:=aN.1;obtain⟨b,off,cap,rfl,hi,ar,bI⟩:=aB.dw b2 hp;cases ar with
    | nil=>simp at hi
    | row R k es b off cap arr ty cO us ah dI ad ae hk hu ax=>
     have NB:x*k+k<=cap*k:=by
      have:(x+1)*k<=cap*k:=gW k (by omega);rw[fB]at this;omega
     have:=yG (P:=P) (τ:=τ) (ω:=ω) e1 e2 h1 ah (base:=off+x*k) (by simp[hlen];omega) (fun i' l af=>by
      rw[c9,bX]at af;obtain⟨d,U,rfl⟩:=af;have ad:cX es x i'=some d:=by simp[cX,eo,U]
      exact⟨us x i',hu x i' d ad,D.dw (ax x i' d ad)⟩)
     simpa[Instr.loadAt,Instr.sureAddr]using this
   cases h
  ·rename_i ds hK;split at h
   ·rename_i t;split at h
    ·rename_i hlen;rw[bX]at h;obtain⟨ko,h1,h⟩:=h;simp only[bw]at h;obtain⟨rfl,rfl,rfl⟩:=h;have eo:es[x]?=some ds:=aN.1;obtain⟨b,off,cap,rfl,hi,ar,bI⟩:=aB.dw b2 hp;cases ar with
     | nil=>simp at hi
     | row R k es b off cap arr ty cO us ah dI ad ae hk hu ax=>
      have NB:x*k+k<=cap*k:=by
       have:(x+1)*k<=cap*k:=gW k (by omega);rw[fB]at this;omega
      have:=yG (P:=P) (τ:=τ) (ω:=ω) e1 e2 h1 ah (base:=off+x*k) (by simp[Ph,hlen];omega) (fun i' l af=>by
       rw[Pg,bX]at af;obtain⟨d,U,rfl⟩:=af;rw[c'];have ad:cX es x i'=some d:=by simp[cX,eo,U]
       have q2:=ax x i' d ad;refine⟨us x i',hu x i' d ad,?_⟩;cases d with
       | J b6 bN=>exact⟨_,rfl,q2,fun _=>⟨k,b,off,es.length,cap,arr,ty,cO,bI,dI,ah,hu x i' _ ad⟩⟩
       | v z=>exact D.dw (t:=.own t) (p:=(x,i')) q2
       | ptr ds=>exact D.dw (t:=.own t) (p:=(x,i')) q2
       | cl g cs=>exact D.dw (t:=.own t) (p:=(x,i')) q2)
      simpa[Instr.loadAt,Instr.sureAddr]using this
    cases h
   cases h
  cases h
 ·rename_i agg i ds off e1 e2 b2;rw[bX]at h;obtain⟨ko,h1,h⟩:=h;simp only[bw]at h;obtain⟨rfl,rfl,rfl⟩:=h;obtain⟨b,rfl,ar⟩:=aB.dw b2 hp;have dy:bR w ω Tag.free.R (.ptr ds) (.pointer (some ⟨b,0,none⟩)):=ar;cases dy with
  | ptr R ds b arr ty cO us ah dI ae hu ax=>
   have:=yG (P:=P) (τ:=τ) (ω:=ω) e1 e2 h1 ah (base:=0) (by simp;omega) (fun i' l af=>by
    rw[c9,bX]at af;obtain⟨d,U,rfl⟩:=af;exact⟨us i',by simpa using hu i' d U,D.dw (p:=(0,i')) (ax i' d U)⟩)
   simpa[Instr.loadAt,Instr.sureAddr]using this
 ·rename_i agg i s BO BP k es x y e1 e2 b2;split at h
  ·rename_i ds hK;split at h
   ·rename_i hlen;rw[bX]at h;obtain⟨ko,h1,h⟩:=h;simp only[bw]at h;obtain⟨rfl,rfl,rfl⟩:=h;have eo:es[x]?=some ds:=aN.1;obtain⟨hX,⟨b,off,cap,rfl,rfl,hi⟩,ar,hm⟩:=aB.dw b2 hp;cases ar with
    | nil=>simp at hi
    | row R k es b off cap arr ty cO us ah dI ad ae hk hu ax=>
     have NB:x*k+k<=cap*k:=by
      have:(x+1)*k<=cap*k:=gW k (by omega);rw[fB]at this;omega
     have:=yG (P:=P) (τ:=τ) (ω:=ω) e1 e2 h1 ah (base:=off+x*k) (by simp[hlen];omega) (fun i' l af=>by
      rw[c9,bX]at af;obtain⟨d,U,rfl⟩:=af;have ad:cX es x i'=some d:=by simp[cX,eo,U]
      refine⟨us x i',hu x i' d ad,D.dw (t:=.ro s) (p:=(x,i')) ((ax x i' d ad).frame fun b q _ av=>⟨.inr ⟨_,av⟩,rfl⟩)⟩)
     simpa[Instr.loadAt,Instr.sureAddr]using this
   cases h
  cases h
 cases h
def IS(P:Program)(t:TypeId)(p:aB)(ans:List b4):jP:=
 match P.underlying t,p.kH with
 | some (.slice _),some (.J _ _ es)=>some (.one (.v (.int .i64 es.length)),ans,[])
 | some (.slice _),some (.v (.slice _ n _))=>some (.one (.v (.int .i64 n)),ans,[])
 | some (.slice _),some (.aO _ _ _ _ es .here)=>some (.one (.v (.int .i64 es.length)),ans,[])
 | some (.slice _),some (.aO _ _ _ _ es .lS)=>some (.one (.v (.int .i64 es.length)),ans,[])
 | some .string,some (.v (.string s))=>some (.one (.v (.int .i64 s.size)),ans,[])
 | _,_=>none
theorem bR.len{R:List (Nat×Nat)->cS->Prop}{k:Nat}{es:List (List D)}(h:bR w ω R (.J k es) y):∃b c,y=.slice b es.length c:=by
 cases h with
 | nil=>exact⟨_,_,rfl⟩
 | row R k es b off cap arr ty cO us ah dI ad ae hk hu ax=>exact⟨_,_,rfl⟩
theorem ajF{ty:TypeId}
  (hp:cM (Sat w ω τ) p v) (h:IS P t p ans=some (r,ch,obs)):
  ∃z,(Builtin.len_ #[t] ty #[v]).run P w=.ok z w/\cM (Sat w ω τ) r z:=by
 unfold IS at h;split at h
 ·rename_i e Vb k es e1 e2;simp only[aQ,bw]at h;obtain⟨rfl,_,rfl⟩:=h;obtain⟨ar,_⟩:=aB.vQ e2 hp;obtain⟨b,c,rfl⟩:=ar.len;exact⟨_,by simp[Builtin.len_,run_underlying e1];rfl,rfl⟩
 ·rename_i e b n c e1 e2;simp only[aQ,bw]at h;obtain⟨rfl,_,rfl⟩:=h;have:v=.slice b n c:=aB.vQ e2 hp;subst this;exact⟨_,by simp[Builtin.len_,run_underlying e1];rfl,rfl⟩
 ·rename_i e s BO BP k es e1 e2;simp only[aQ,bw]at h;obtain⟨rfl,_,rfl⟩:=h;obtain⟨hX,rfl,ar,_⟩:=aB.vQ e2 hp;obtain⟨b,c,rfl⟩:=ar.len;exact⟨_,by simp[Builtin.len_,run_underlying e1];rfl,rfl⟩
 ·rename_i e s BO BP k es e1 e2;simp only[aQ,bw]at h;obtain⟨rfl,_,rfl⟩:=h;obtain⟨hX,rfl,ar,_⟩:=aB.vQ e2 hp;obtain⟨b,c,rfl⟩:=ar.len;exact⟨_,by simp[Builtin.len_,run_underlying e1];rfl,rfl⟩
 ·rename_i s e1 e2;simp only[aQ,bw]at h;obtain⟨rfl,_,rfl⟩:=h;have:v=.string s:=aB.vQ e2 hp;subst this;exact⟨_,by simp[Builtin.len_,run_underlying e1];rfl,rfl⟩
 cases h
theorem Pj{es:List (List D)}{l n i j:Nat}{d:D}(h:cX ((es.drop l).take n) i j=some d):i<n/\cX es (l+i) j=some d:=by
 unfold cX at h ⊢;rw[gX]at h;split at h
 ·rw[gV]at h;exact⟨by omega,h⟩
 simp at h
theorem bR.sub{R iz:List (Nat×Nat)->cS->Prop}{k:Nat}{es:List (List D)}{b cap:Nat}(h:bR w ω R (.J k es) (.slice (some ⟨b,off,none⟩) es.length cap))
  {l m:Nat} (af:l<=m) (hm:m<=es.length) (CP:∀o,R [] o->iz [] o) (WW:∀i j q o,l<=i->R ((i,j)::q) o->iz ((i-l,j)::q) o):
  bR w ω iz (.J k ((es.drop l).take (m-l))) (sliced (some ⟨b,off,none⟩) l m cap k):=by
 cases h with
 | nil=>
  have e1:l=0:=by simp at hm;omega
  have e2:m=0:=by simp at hm;omega
  subst e1 e2;simpa[sliced]using bR.nil iz k _
 | row R k es b off cap arr ty cO us ah dI ad ae hk hu ax=>
  have hlen:((es.drop l).take (m-l)).length=m-l:=by simp;omega
  have hmul:l*k+(cap-l)*k=cap*k:=by rw[<-fB];congr 1;omega
  have key:∀pg:Nat,(cap=l\/pg=off+l*k)->pg+(cap-l)*k<=arr.size->
    bR w ω iz (.J k ((es.drop l).take (m-l))) (.slice (some ⟨b,pg,none⟩) (m-l) (cap-l)):=by
   intro pg aN di;have aR:cap=l->m-l=0:=fun e=>by omega
   have ar:=bR.row (w:=w) (ω:=ω) iz k ((es.drop l).take (m-l)) b pg (cap-l) arr ty cO (fun i j=>us (l+i) j) ah (CP _ dI) (by omega) di
    (fun e he=>hk e (zc (uY he)))
    (fun i j d pW=>by
     obtain⟨hi,GI⟩:=Pj pW;rcases aN with aN | rfl
     ·have:=aR aN;omega
     rw[<-hu (l+i) j d GI]
     congr 1
     rw[fB];omega)
    (fun i j d pW=>by
     obtain⟨hi,GI⟩:=Pj pW;refine (ax (l+i) j d GI).frame fun b q _ av=>⟨?_,rfl⟩
     have:=WW _ _ _ _ (Nat.le_add_right l i) av;rwa[show l+i-l=i by omega]at this)
   rw[hlen]at ar;exact ar
  unfold sliced;split
  ·rename_i mB;exact key off (.inl mB) (by have:cap-l=0:=(by omega);rw[this];simp;omega)
  simp only[mn,qp];exact key _ (.inr rfl) (by omega)
def aC.view:aC->aC
 | .aO t _ _ k es .here=>.J (.ro t) k es
 | .aO t _ _ k es .lS=>.J (.ro t) k es
 | .db _ k es=>.J .free k es
 | l=>l
theorem aC.L1(ae:Sat w ω τ l y):Sat w ω τ l.view y:=by
 unfold aC.view;split
 ·obtain⟨hX,rfl,ar,_⟩:=ae;exact⟨ar.frame fun b q _ av=>⟨.inr ⟨_,av⟩,rfl⟩,aj⟩
 ·obtain⟨hX,rfl,ar,_⟩:=ae;exact⟨ar.frame fun b q _ av=>⟨.inr ⟨_,av⟩,rfl⟩,aj⟩
 ·exact⟨ae.1,aj⟩
 exact ae
theorem aB.L1(h:p.leaf.map aC.view=some l)(ae:cM (Sat w ω τ) p y):Sat w ω τ l y:=by
 rw[bX]at h;obtain⟨ej,bm,rfl⟩:=h;exact aC.L1 (aB.dw bm ae)
def l3(st:aE):Option Operand->Option (Option Int)
 | none=>some none
 | some x=>((st.bk x).int).map fun p=>some p.2
def DH(P:Program)(st:aE)(t:TypeId)(p:aB)(cV hi ja:Option Operand)(ans:List b4):jP:=
 match qq P t,p.leaf.map aC.view,ja with
 | some (_,k),some (.J tag b8 es),none=>
  if k=b8 then
   match l3 st cV,l3 st hi with
   | some l,some h=>some (.one (.J tag.Fh k ((es.drop (l.getD 0).toNat).take ((h.getD es.length).toNat-(l.getD 0).toNat))),ans,[0<=l.getD 0,l.getD 0<=h.getD es.length,h.getD es.length<=es.length])
   | _,_=>none
  else none
 | _,_,_=>none
theorem A7{len cap:Nat}{cV hi:Option Value}{l h:Int}(af:cV=none/\l=0\/∃k,cV=some (.int k l))(bI:hi=none/\h=len\/∃k,hi=some (.int k h))
  (bm:0<=l) (h1:l<=h) (U:h<=cap):(Instr.sliceBounds true len cap cV hi none).run P w=.ok (l.toNat,h.toNat,cap) w:=by
 have arc:(h.toNat:Int)=h:=Int.toNat_of_nonneg (by omega);have au:0<=h:=by omega
 rcases af with⟨rfl,rfl⟩ | ⟨k,rfl⟩<;>rcases bI with⟨rfl,rfl⟩ | ⟨b8,rfl⟩<;>
  simp_all[Instr.sliceBounds,run_sliceBound]
theorem A8(aV:cx w0 st a w ω τ){x:Option Operand}{r:Option Int}(h:l3 st x=some r):
  (x.map a.eval=none/\r=none)\/∃k n,x.map a.eval=some (.int k n)/\r=some n:=by
 cases x with
 | none=>simp[l3]at h;exact .inl ⟨rfl,h.symm⟩
 | some x=>
  simp only[l3,bX]at h;obtain⟨⟨k,n⟩,h1,U⟩:=h;exact .inr ⟨k,n,by simp[aB.ot h1 (aV.bk x)],U.symm⟩
theorem ajG{cV hi ja:Option Operand}
  (aV:cx w0 st a w ω τ) (hp:cM (Sat w ω τ) p v) (h:DH P st t p cV hi ja ans=some (r,ch,obs)) (aN:cB obs):
  ∃z,(Instr.sliceAt t v (cV.map a.eval) (hi.map a.eval) (ja.map a.eval)).run P w=.ok z w/\cM (Sat w ω τ) r z:=by
 unfold DH at h;split at h
 ·rename_i e k tag b8 es e1 e2;split at h
  ·rename_i hk;subst hk;split at h
   ·rename_i l bI b2 dB;simp only[aQ,bw]at h;obtain⟨rfl,_,rfl⟩:=h;obtain⟨hu,i,ka,aR⟩:=wK e1;obtain⟨ar,_⟩:=aB.L1 e2 hp;obtain⟨cd,bY,cr,_⟩:=aN;have au:=A8 aV b2;have aH:=A8 aV dB;have kU:(cV.map a.eval=none/\l.getD 0=0)\/∃k,cV.map a.eval=some (.int k (l.getD 0)):=by
     rcases au with⟨h,rfl⟩ | ⟨k,n,h,rfl⟩
     ·exact .inl ⟨h,rfl⟩
     exact .inr ⟨k,h⟩
    have sw:(hi.map a.eval=none/\bI.getD es.length=es.length)\/∃k,hi.map a.eval=some (.int k (bI.getD es.length)):=by
     rcases aH with⟨h,rfl⟩ | ⟨k,n,h,rfl⟩
     ·exact .inl ⟨h,rfl⟩
     exact .inr ⟨k,h⟩
    cases ar with
    | nil _ _ a0=>
     simp only[b1] at*;have bE:l.getD 0=0:=by omega
     have Gb:bI.getD ((0:Nat):Int)=0:=by omega
     refine⟨.slice a0 0 0,?_,?_⟩
     ·simp only[Instr.sliceAt,Sem.run_bind,run_underlying hu,Result.andThen_ok,Instr.slice,Option.map_none];rw[A7 kU sw cd bY cr];have Gc:bI.getD 0=0:=by simpa using Gb
      simp[sizeOf,typeInfo,ka,bE,Gc]
     refine⟨?_,Tag.LZ⟩;simp only[List.drop_nil,List.take_nil];exact .nil _ _ _
    | row R k es b off cap arr ty cO us ah dI ad ae hk jD ax=>
     refine⟨sliced (some ⟨b,off,none⟩) (l.getD 0).toNat (bI.getD es.length).toNat cap k,?_,?_,Tag.LZ⟩
     ·simp only[Instr.sliceAt,Sem.run_bind,run_underlying hu,Result.andThen_ok,Instr.slice,Option.map_none];rw[A7 kU sw cd bY (by omega)];simp[sizeOf,typeInfo,ka,aR,sliced]
     exact bR.sub (.row _ k es b off cap arr ty cO us ah dI ad ae hk jD ax) (by omega) (by omega) (fun o h=>Tag.LY h) (fun i j q o _ h=>Tag.LY h)
   cases h
  cases h
 cases h
end Go.Sx
namespace Go.Sx
open Go.RowKit
def aC.ok:aC->Bool
 | .cc=>false
 | .v x=>x.oneCell'
 | _=>true
variable{w:World}{ω:Own}{y:Value}
theorem bR.pj{R:List (Nat×Nat)->cS->Prop}{d:D}(h:bR w ω R d y):y.oneCell'=true:=by
 cases h with
 | v R x h1=>exact h1
 | nil=>rfl
 | row=>rfl
 | ptr=>rfl
 | cl=>rfl
variable{τ:Nat->Nat×Value}
theorem aC.Ov{l:aC}(h:l.ok=true)(ae:Sat w ω τ l y):y.oneCell'=true:=by
 cases l with
 | cc=>cases h
 | v x=>have:y=x:=ae;subst this;exact h
 | bg c=>have:y=.bool c:=ae;subst this;rfl
 | J t k es=>exact ae.1.pj
 | ptr id off=>obtain⟨b,_,rfl⟩:=ae;rfl
 | ep t k es i j=>obtain⟨b,off,cap,rfl,_⟩:=ae;rfl
 | h8 ds off=>obtain⟨b,rfl,_⟩:=ae;rfl
 | fd d=>exact bR.pj ae
 | db t k es=>exact ae.1.pj
 | gP g ids=>obtain⟨bs,rfl,_⟩:=ae;rfl
 | aO t i j k es m=>
  obtain⟨u,hu,ar,_⟩:=ae;cases m with
  | at_ x y=>obtain⟨b,off,cap,_,rfl,_⟩:=hu;rfl
  | here=>have:y=u:=hu;subst this;exact ar.pj
  | lS=>have:y=u:=hu;subst this;exact ar.pj
 | fk t vs=>obtain⟨b,ty,arr,rfl,_⟩:=ae;rfl
theorem A9(h:y.oneCell'=true):y.cells=#[y]:=by
 cases y<;>first | rfl | (simp[Value.oneCell']at h)
def aB.leaves:aB->Option (List aC)
 | .aD (.one l)=>if l.ok then some [l] else none
 | .aD (.agg ls)=>if ls.all aC.ok then some ls else none
 | _=>none
variable{p:aB}{ls:List aC}
theorem aB.xW(h:p.leaves=some ls)(ae:cM (Sat w ω τ) p y):
  j7 (Sat w ω τ) ls y.cells/\∀u∈y.cells.toList,u.oneCell'=true:=by
 unfold aB.leaves at h;split at h
 ·rename_i l;split at h
  ·rename_i bH;simp only[aQ]at h;subst h;have h1:=aC.Ov bH ae;rw[A9 h1];refine⟨⟨rfl,fun i ht af=>?_⟩,by simpa using h1⟩;cases i with
   | zero=>simp at af;subst af;exact⟨y,rfl,ae⟩
   | succ i=>simp at af
  cases h
 ·rename_i e6;split at h
  ·rename_i bH;simp only[aQ]at h;subst h;obtain⟨vs,rfl,aL,bj⟩:=ae;refine⟨⟨aL,bj⟩,fun u hu=>?_⟩;obtain⟨i,hi⟩:=ng.1 hu;have bq:i<e6.length:=by
    have:=(dK.1 hi).1;simp[Value.cells]at this;omega
   obtain⟨tk,h1,U⟩:=bj i e6[i] (by simp);have e:u=tk:=by
    have:(Value.agg vs).cells.toList[i]?=vs[i]?:=by simp[Value.cells]
    rw[this,h1]at hi;exact (ei hi).symm
   subst e;exact aC.Ov (fN.1 bH _ (rZ bq)) U
  cases h
 cases h
theorem Pk(off:Nat):∀(vs:List Value) (k:Nat) (cells:Array Value) (i:Nat),off+k+vs.length<=cells.size->
  ((vs.zipIdx k).foldl (fun cs (x:Value×Nat)=>cs.setIfInBounds (off+x.2) x.1) cells)[i]?=if off+k<=i/\i<off+k+vs.length then vs[i-(off+k)]? else cells[i]?
 | [],k,cells,i,_=>by simp;intro h1 U;omega
 | v::vs,k,cells,i,h=>by
  simp only[List.zipIdx_cons,List.foldl_cons,dn]at h ⊢;rw[Pk off vs (k+1) _ i (by simp;omega),Array.getElem?_setIfInBounds];by_cases h1:off+k=i
  ·subst h1;rw[aX (by omega),a6 rfl,a6 (by omega),a6 (by omega)];simp
  by_cases U:off+(k+1)<=i/\i<off+(k+1)+vs.length
  ·rw[a6 U,a6 (by omega)];obtain⟨j,aM⟩:∃j,i-(off+k)=j+1:=⟨i-(off+k)-1,by omega⟩
   rw[aM,nY]
   congr 1
   omega
  rw[aX U,aX h1,aX (by omega)]
theorem Pl(off:Nat):∀(l:List (Value×Nat)) (cells:Array Value),(l.foldl (fun cs (x:Value×Nat)=>cs.setIfInBounds (off+x.2) x.1) cells).size=cells.size
 | [],_=>rfl
 | x::l,cells=>by simp only[List.foldl_cons];rw[Pl off l];simp
def tw(ls:List aC)(off:Nat)(xs:List aC):List aC:=ls.take off++(xs++ls.drop (off+xs.length))
variable{off:Nat}
theorem Pm{xs:List aC}{i:Nat}(h:off+xs.length<=ls.length):(tw ls off xs)[i]?=if off<=i/\i<off+xs.length then xs[i-off]? else ls[i]?:=by
 unfold tw;rw[lc,lJ,Nat.min_eq_left (by omega)];by_cases h1:i<off
 ·rw[a6 h1,aX (by omega),gX,a6 h1]
 rw[aX h1,lc];by_cases U:i-off<xs.length
 ·rw[a6 U,a6 (by omega)]
 rw[aX U,aX (by omega),gV]
 congr 1
 omega
theorem IT{xs:List aC}(h:off+xs.length<=ls.length):(tw ls off xs).length=ls.length:=by
 simp[tw];omega
def qY(place:Nat->Option (Nat×Nat))(ls:List aC):List (Nat×aB)->Option (List aC)
 | []=>some ls
 | (i,p)::rest=>
  match place i,p.leaves with
  | some (off,size),some xs=>if xs.length=size/\off+size<=ls.length then qY place (tw ls off xs) rest else none
  | _,_=>none
theorem IU{place:Nat->Option (Nat×Nat)}:∀{parts:List (Nat×aB)} {vals:List (Nat×Value)} {ls r:List aC} {cells:Array Value},
  parts.length=vals.length->(∀(j:Nat) i p,parts[j]?=some (i,p)->∃v,vals[j]?=some (i,v)/\cM (Sat w ω τ) p v)->qY place ls parts=some r->j7 (Sat w ω τ) ls cells->
  ∃out,Instr.fill place cells vals=some out/\j7 (Sat w ω τ) r out
 | [],vals,ls,r,cells,aL,_,h,ae=>by
  have:vals=[]:=u0 (by simpa using aL.symm);subst this;simp only[qY,aQ]at h;subst h;exact⟨cells,rfl,ae⟩
 | (i,p)::parts,vals,ls,r,cells,aL,hp,h,ae=>by
  obtain⟨v,bj,eB⟩:=hp 0 i p rfl;cases vals with
  | nil=>simp at bj
  | cons x vals=>
   simp only[iy,aQ]at bj;subst bj;simp only[qY]at h;split at h
   ·rename_i off size xs e1 e2;split at h
    ·rename_i ad;obtain⟨kQ,kC⟩:=ad;obtain⟨⟨di,ra⟩,_⟩:=aB.xW e2 eB;have xO:v.cells.size=size:=by omega
     have mC:off+v.cells.size<=cells.size:=by have:=ae.1;omega
     have gh:j7 (Sat w ω τ) (tw ls off xs) (v.cells.zipIdx.foldl (fun cs (c,j)=>cs.setIfInBounds (off+j) c) cells):=by
      have e:v.cells.zipIdx.foldl (fun cs (c,j)=>cs.setIfInBounds (off+j) c) cells=(v.cells.toList.zipIdx 0).foldl (fun cs (x:Value×Nat)=>cs.setIfInBounds (off+x.2) x.1) cells:=by
       rw[<-Array.foldl_toList];simp
      rw[e];refine⟨by rw[Pl,IT (by omega)];exact ae.1,fun j l af=>?_⟩;rw[Pm (by omega)]at af;rw[Pk off _ 0 _ _ (by simp;omega)];simp only[u1,mq];by_cases aM:off<=j/\j<off+xs.length
      ·rw[a6 aM]at af;rw[a6 (by omega)];obtain⟨u,h1,U⟩:=ra _ _ af;exact⟨u,by simpa using h1,U⟩
      rw[aX aM]at af;rw[aX (by omega)];exact ae.2 _ _ af
     obtain⟨out,h1,U⟩:=IU (parts:=parts) (vals:=vals) (by simpa using aL) (fun j fy qh aM=>by have:=hp (j+1) fy qh (by simpa using aM);simpa using this) h gh;refine⟨out,?_,U⟩;simp only[Instr.fill,e1];rw[aX (by simp;omega)];exact h1
    cases h
   cases h
def IV(P:Program)(t:TypeId)(f:Nat):Option (Nat×Nat):=
 match P.underlying t with
 | some (.struct eT)=>
  match eT[f]? with
  | some fd=>(P.info? fd.type).map fun i=>(fd.offset,i.size)
  | none=>none
 | _=>none
def DI(P:Program)(st:aE)(t:TypeId)(parts:List (Nat×Operand))(ans:List b4):jP:=
 match P.underlying t,P.info? t with
 | some (.struct eT),some i=>
  match i.zero with
  | some z=>
   if eT.toList.all fun f=>(P.info? f.type).isSome then
    (qY (IV P t) (z.cells.toList.map .v) (parts.map fun x=>(x.1,st.bk x.2))).map fun ls=>(.agg ls,ans,[])
   else none
  | none=>none
 | _,_=>none
theorem Pn{P:Program}(w:World):∀(eT:List Field),(∀f∈eT,(P.info? f.type).isSome=true)->
  (eT.mapM fun f=>(do pure (f.offset,<-sizeOf f.type):Sem (Nat×Nat))).run P w=.ok (eT.map fun f=>(f.offset,((P.info? f.type).map (·.size)).getD 0)) w
 | [],_=>by simp
 | f::eT,h=>by
  obtain⟨i,hi⟩:=pL.1 (h f (by simp));have dt:=Pn (P:=P) w eT (fun g ao=>h g (by simp[ao]));simp only[xh,Sem.run_bind,sizeOf,typeInfo,run_program,Result.andThen_ok,hi,Sem.run_pure,iT,mn,hl];simp only[Sem.run_bind,sizeOf,typeInfo,Sem.run_pure]at dt;rw[dt];simp
theorem DJ{P:Program}{α β:Type}(f:α->Sem β)(xs:Array α)(w:World)(r:List β)(h:(xs.toList.mapM f).run P w=.ok r w):(xs.mapM f).run P w=.ok r.toArray w:=by
 rw[<-Array.toArray_toList (xs:=xs),List.mapM_toArray];rw[<-bind_pure_comp,Sem.run_bind,h];rfl
variable{P:Program}{w0:ev}{a:Act}{st:aE}{t:TypeId}{r:aB}{ans ch:List b4}{obs:List Prop}
theorem ajH{parts:Array (Nat×Operand)}
  (aV:cx w0 st a w ω τ) (h:DI P st t parts.toList ans=some (r,ch,obs)):
  ∃z,(Instr.build t (parts.map fun (i,x)=>(i,a.eval x))).run P w=.ok z w/\cM (Sat w ω τ) r z:=by
 unfold DI at h;split at h
 ·rename_i eT i hu hi;split at h
  ·rename_i z aR;split at h
   ·rename_i h3;rw[bX]at h;obtain⟨ls,h1,h⟩:=h;simp only[bw]at h;obtain⟨rfl,_,_⟩:=h;have HB:j7 (Sat w ω τ) (z.cells.toList.map .v) z.cells:=by
     refine⟨by simp,fun j l af=>?_⟩;rw[c9,bX]at af;obtain⟨u,hu,rfl⟩:=af;exact⟨u,by simpa using hu,rfl⟩
    obtain⟨out,U,au⟩:=IU (vals:=parts.toList.map fun x=>(x.1,a.eval x.2)) (by simp) (fun j fy p aM=>by
     rw[c9,bX]at aM;obtain⟨⟨i2,x⟩,aa,e⟩:=aM;simp only[bw]at e;obtain⟨rfl,rfl⟩:=e;exact⟨a.eval x,by simp only[c9,aa,mn],aV.bk x⟩) h1 HB
    have hm:=DJ (P:=P) (fun f:Field=>(do pure (f.offset,<-sizeOf f.type):Sem (Nat×Nat))) eT w _ (Pn (P:=P) w eT.toList (fun f bl=>fN.1 h3 f bl));have o9:(fun x=>(eT.toList.map fun f=>(f.offset,((P.info? f.type).map (·.size)).getD 0)).toArray[x]?)=IV P t:=by
     funext x;simp only[nf,c9,jg,IV,hu];cases aa:eT[x]? with
     | none=>rfl
     | some fd=>
      have:(P.info? fd.type).isSome=true:=fN.1 h3 fd (by simpa using Array.mem_of_getElem? aa);obtain⟨fy,ka⟩:=pL.1 this;simp[ka]
    refine⟨.agg out,?_,out,rfl,au⟩;simp only[Instr.build,Sem.run_bind,zeroValue,typeInfo,run_program,Result.andThen_ok,hi,Sem.run_pure,aR,run_underlying hu,hm,o9];have e:(Array.map (fun (x:Nat×Operand)=>(x.1,a.eval x.2)) parts).toList=parts.toList.map fun x=>(x.1,a.eval x.2):=by simp
    simp only[e,U,Sem.run_pure]
   cases h
  cases h
 cases h
def Ii(p:aB)(Dj:Nat)(ans:List b4):jP:=
 match p with
 | .fM as=>(as[Dj]?).map fun a=>(.aD a,ans,[])
 | _=>none
variable{v:Value}
theorem ajI{P:Program}{Dj:Nat}
  (hp:cM (Sat w ω τ) p v) (h:Ii p Dj ans=some (r,ch,obs)):∃z,(Instr.extract v Dj).run P w=.ok z w/\cM (Sat w ω τ) r z:=by
 unfold Ii at h;split at h
 ·rename_i as;rw[bX]at h;obtain⟨aD,h1,h⟩:=h;simp only[bw]at h;obtain⟨rfl,_,_⟩:=h;obtain⟨vs,rfl,aL,bj⟩:=hp;obtain⟨u,U,au⟩:=bj _ _ h1;exact⟨u,by simp[Instr.extract,U],au⟩
 cases h
def Ij(P:Program)(t:TypeId)(p:aB)(f:Nat)(ans:List b4):jP:=
 match P.underlying t with
 | some (.struct eT)=>
  match eT[f]? with
  | some fd=>
   match wJ P fd.type,P.info? fd.type,p with
   | some agg,some i,.aD (.agg ls)=>(rn agg i.size ls fd.offset).map fun r=>(r,ans,[])
   | _,_,_=>none
  | none=>none
 | _=>none
theorem ajJ{f:Nat}
  (hp:cM (Sat w ω τ) p v) (h:Ij P t p f ans=some (r,ch,obs)):∃z,(Instr.field t v f).run P w=.ok z w/\cM (Sat w ω τ) r z:=by
 unfold Ij at h;split at h
 ·rename_i eT hu;split at h
  ·rename_i fd bl;split at h
   ·rename_i agg i ls e1 e2;rw[bX]at h;obtain⟨ko,h1,h⟩:=h;simp only[bw]at h;obtain⟨rfl,_,_⟩:=h;obtain⟨vs,rfl,aL,bj⟩:=hp;unfold rn at h1;cases agg with
    | true=>
     simp only[fO]at h1;split at h1
     ·rename_i hle;simp only[aQ]at h1;subst h1;refine⟨.agg (vs.extract fd.offset (fd.offset+i.size)),by simp[Instr.field,run_underlying hu,bl,asAgg,part,yF e1,sizeOf,typeInfo,e2],_,rfl,by simp;omega,fun j l af=>?_⟩;rw[gX]at af;split at af
      ·rw[gV]at af;obtain⟨u,h1,U⟩:=bj _ l af;refine⟨u,?_,U⟩;rw[Array.getElem?_extract,a6 (by omega),<-h1]
      cases af
     cases h1
    | false=>
     simp only[mm,j4,bX]at h1;obtain⟨l,af,rfl⟩:=h1;obtain⟨u,h1,U⟩:=bj _ l af;exact⟨u,by simp[Instr.field,run_underlying hu,bl,asAgg,part,yF e1,h1],U⟩
   cases h
  cases h
 cases h
def Ik(op:UnOp)(p:aB)(ans:List b4):jP:=
 match op,p.leaf with
 | .not,some (.bg c)=>some (.one (.bg (!c)),ans,[])
 | .not,some (.v (.bool c))=>some (.one (.v (.bool (!c))),ans,[])
 | .neg,some (.v (.int k n))=>arith k (0-n) ans
 | _,_=>none
theorem ajK{op:UnOp}
  (hp:cM (Sat w ω τ) p v) (h:Ik op p ans=some (r,ch,obs)) (aN:cB obs):∃z,(Op.unary op v).run P w=.ok z w/\cM (Sat w ω τ) r z:=by
 unfold Ik at h;split at h
 ·rename_i c e;simp only[aQ,bw]at h;obtain⟨rfl,_,_⟩:=h;have:v=.bool c:=aB.dw e hp;subst this;exact⟨_,rfl,rfl⟩
 ·rename_i c e;simp only[aQ,bw]at h;obtain⟨rfl,_,_⟩:=h;have:v=.bool c:=aB.dw e hp;subst this;exact⟨_,rfl,rfl⟩
 ·rename_i k n e;have:v=.int k n:=aB.dw e hp;subst this;exact⟨_,rfl,yE h aN⟩
 cases h
def de(c a b:aB)(ans:List b4):jP:=
 match c.leaf with
 | some (.v (.bool true))=>some (a,ans,[])
 | some (.v (.bool false))=>some (b,ans,[])
 | some (.bg c)=>
  match ans with
  | .o1 true::r=>some (a,r,[c=true])
  | .o1 false::r=>some (b,r,[c=false])
  | _=>none
 | _=>none
variable{u:Value}
theorem ajL{c a b:aB}{x:Value}
  (ad:cM (Sat w ω τ) c u) (ag:cM (Sat w ω τ) a x) (ah:cM (Sat w ω τ) b y) (h:de c a b ans=some (r,ch,obs)) (aN:cB obs):
  ∃z,(do pure (.value (if <-asBool u then x else y)):Sem Next).run P w=.ok (.value z) w/\cM (Sat w ω τ) r z:=by
 unfold de at h;split at h
 ·rename_i e;simp only[aQ,bw]at h;obtain⟨rfl,_,_⟩:=h;have:u=.bool true:=aB.dw e ad;subst this;exact⟨x,rfl,ag⟩
 ·rename_i e;simp only[aQ,bw]at h;obtain⟨rfl,_,_⟩:=h;have:u=.bool false:=aB.dw e ad;subst this;exact⟨y,rfl,ah⟩
 ·rename_i jS e;have:u=.bool jS:=aB.dw e ad;subst this;split at h
  ·simp only[aQ,bw]at h;obtain⟨rfl,_,rfl⟩:=h;have pW:jS=true:=aN.1;subst pW;exact⟨x,rfl,ag⟩
  ·simp only[aQ,bw]at h;obtain⟨rfl,_,rfl⟩:=h;have pW:jS=false:=aN.1;subst pW;exact⟨y,rfl,ah⟩
  cases h
 cases h
def yH:List (List D)->Option (List Int)
 | []=>some []
 | [.v (.int .u8 n)]::r=>(yH r).map (n::·)
 | _=>none
theorem Po:∀{es:List (List D)} {xs:List Int},yH es=some xs->xs.length=es.length/\∀i,i<xs.length->cX es i 0=some (.v (.int .u8 (xs.getD i 0)))/\∀e,es[i]?=some e->e.length=1
 | [],xs,h=>by
  simp only[yH,aQ]at h;subst h;exact⟨rfl,fun i hi=>by simp at hi⟩
 | e::r,xs,h=>by
  unfold yH at h;split at h
  ·rename_i he;cases he
  ·rename_i n ko he;obtain⟨rfl,rfl⟩:=V7 he;rw[bX]at h;obtain⟨ys,h1,rfl⟩:=h;obtain⟨U,au⟩:=Po h1;refine⟨by simp[U],fun i hi=>?_⟩;cases i with
   | zero=>exact⟨rfl,fun e he=>by simp at he;subst he;rfl⟩
   | succ i=>
    simp only[dn,Nat.add_lt_add_iff_right]at hi;obtain⟨aH,ba⟩:=au i hi;exact⟨by simpa[cX]using aH,fun e he=>ba e (by simpa using he)⟩
  cases h
theorem cell_of_heap{b:Nat}{arr:Array Value}{ty:TypeId}{cO:Nat×Nat}(ah:w.heap[b]?=some (.cells arr ty cO))(h:arr[off]?=some v):w.cell? ⟨b,off,none⟩=some v:=by
 unfold World.cell?;simp[ah,h]
def aC.U4:aC->Option (List (List D))
 | .J _ 1 es=>some es
 | _=>none
def Il(P:Program)(src dst:TypeId)(p:aB)(ans:List b4):jP:=
 match P.underlying src,P.underlying dst,p.int with
 | some _,some (.int k),some (_,n)=>arith k n ans
 | some (.slice e),some .string,none=>
  match P.underlying e,p.leaf.bind aC.U4,ans with
  | some (.int .u8),some es,.oE (.aD (.one (.v (.string s))))::r=>some (.one (.v (.string s)),r,[(yH es).map strOfNums=some s])
  | _,_,_=>none
 | _,_,_=>none
theorem ajM{src dst:TypeId}
  (hp:cM (Sat w ω τ) p v) (h:Il P src dst p ans=some (r,ch,obs)) (aN:cB obs):∃z,(convert src dst v).run P w=.ok z w/\cM (Sat w ω τ) r z:=by
 unfold Il at h;split at h
 ·rename_i d k Ai n e1 e2 b2;rw[aB.ot b2 hp];exact⟨_,by simp[convert,run_underlying e1,run_underlying e2,Conv.intToInt],yE h aN⟩
 ·rename_i e e1 e2 b2;split at h
  ·rename_i es s ko dB gD;simp only[aQ,bw]at h;obtain⟨rfl,_,rfl⟩:=h;have kD:(yH es).map strOfNums=some s:=aN.1;rw[bX]at kD;obtain⟨xs,h1,rfl⟩:=kD;obtain⟨U,au⟩:=Po h1;rw[mj]at gD;obtain⟨l,j9,nr⟩:=gD;have af:=aB.dw j9 hp;unfold aC.U4 at nr;split at nr
   ·rename_i t cp;simp only[aQ]at nr;subst nr;obtain⟨ar,_⟩:=af;refine⟨.string (strOfNums xs),?_,rfl⟩;cases ar with
    | nil R k a=>
     have:xs=[]:=List.length_eq_zero_iff.1 (by simpa using U);subst this;cases a with
     | none=>exact run_convert_bytes_nil w src e e1 dB 0 0 dst e2
     | some a=>
      rw[run_convert_bytes_string w src dst e _ 0 0 e1 dB e2];exact run_bytesToString w a 0 0 [] (run_loadCells_list w a [] (fun j v aM=>by simp at aM))
    | row R k _ b off cap arr ty cO us ah dI ad ae hk hu ax=>
     refine run_convert_bytes_arg w src e e1 dB b off cp.length cap xs U (fun i hi=>?_) dst e2;obtain⟨aH,_⟩:=au i (by omega);have ba:=hu i 0 _ aH;have br:=ax i 0 _ aH;generalize us i 0=u at ba br;cases br;rw[Nat.mul_one,mq]at ba;exact (cell_of_heap ah (by simpa using ba))
   cases nr
  cases h
 cases h
def Im(P:Program)(t:TypeId)(p q:aB)(ans:List b4):jP:=
 match P.underlying t,p.leaf,q.int with
 | some .string,some (.v (.string s)),some (_,n)=>
  match ans with
  | .num m::r=>some (.one (.v (.int .u8 m)),r,[0<=n,(s[n.toNat]?).map (fun b=>((b.toNat:Nat):Int))=some m])
  | _=>none
 | _,_,_=>none
variable{q:aB}
theorem ajN
  (hp:cM (Sat w ω τ) p u) (av:cM (Sat w ω τ) q v) (h:Im P t p q ans=some (r,ch,obs)) (aN:cB obs):∃z,(Instr.index t u v).run P w=.ok z w/\cM (Sat w ω τ) r z:=by
 unfold Im at h;split at h
 ·rename_i s Ai n e1 e2 b2;split at h
  ·rename_i m hK;simp only[aQ,bw]at h;obtain⟨rfl,_,rfl⟩:=h;obtain⟨bm,h1,_⟩:=aN;have:u=.string s:=aB.dw e2 hp;subst this;rw[aB.ot b2 av];rw[bX]at h1;obtain⟨b,ah,hm⟩:=h1;exact⟨.int .u8 m,by simp[Instr.index,asIntOf,run_underlying e1,bm,ah,hm],rfl⟩
  cases h
 cases h
def Io(p q:aB)(ans:List b4):jP:=
 match p.int,q.int with
 | some (k,a),some (_,b)=>some (.one (.v (.int k (if b<a then b else a))),ans,[])
 | _,_=>none
def Ip(p q:aB)(ans:List b4):jP:=
 match p.int,q.int with
 | some (k,a),some (_,b)=>some (.one (.v (.int k (if b>a then b else a))),ans,[])
 | _,_=>none
theorem ajO{P:Program}{ts:Array TypeId}{ty:TypeId}
  (hp:cM (Sat w ω τ) p u) (av:cM (Sat w ω τ) q v) (h:Io p q ans=some (r,ch,obs)):∃z,(Builtin.min_ ts ty #[u,v]).run P w=.ok z w/\cM (Sat w ω τ) r z:=by
 unfold Io at h;split at h
 ·rename_i k a Ai b e1 e2;simp only[aQ,bw]at h;obtain⟨rfl,_,_⟩:=h;rw[aB.ot e1 hp,aB.ot e2 av];exact⟨_,by simp[Builtin.min_,Builtin.min2],rfl⟩
 cases h
theorem ajP{P:Program}{ts:Array TypeId}{ty:TypeId}
  (hp:cM (Sat w ω τ) p u) (av:cM (Sat w ω τ) q v) (h:Ip p q ans=some (r,ch,obs)):∃z,(Builtin.max_ ts ty #[u,v]).run P w=.ok z w/\cM (Sat w ω τ) r z:=by
 unfold Ip at h;split at h
 ·rename_i k a Ai b e1 e2;simp only[aQ,bw]at h;obtain⟨rfl,_,_⟩:=h;rw[aB.ot e1 hp,aB.ot e2 av];exact⟨_,by simp[Builtin.max_,Builtin.max2],rfl⟩
 cases h
def Pp(p:aB)(ans:List b4):jP:=
 match p.leaf with
 | some (.ptr id off)=>some (.one (.ptr id off),ans,[])
 | some (.ep t k es i j)=>some (.one (.ep t k es i j),ans,[])
 | some (.h8 ds off)=>some (.one (.h8 ds off),ans,[])
 | some (.aO t i j k es (.at_ x y))=>some (.one (.aO t i j k es (.at_ x y)),ans,[])
 | _=>none
def Oz(p:aB):Option Nat:=
 match p.leaf with
 | some (.ptr id 0)=>some id
 | _=>none
def MR(p:aB):Option D:=
 match p.leaf with
 | some (.h8 ds 0)=>some (.ptr ds)
 | some (.v x)=>if x.oneCell' then some (.v x) else none
 | _=>none
def DK(st:aE)(fn:Fn)(first captured:List Operand)(ans:List b4):jP:=
 match fn,first with
 | .func g,[]=>
  match (captured.map st.bk).mapM Oz with
  | some ids=>some (.one (.gP g ids),ans,[])
  | none=>
   match (captured.map st.bk).mapM MR with
   | some ds=>some (.one (.fd (.cl g ds)),ans,[])
   | none=>none
 | _,_=>none
theorem Iq{α β:Type}{f:α->Option β}:∀{xs:List α} {ys:List β},xs.mapM f=some ys->ys.length=xs.length/\∀(i:Nat) (y:β),ys[i]?=some y->∃x,xs[i]?=some x/\f x=some y
 | [],ys,h=>by simp at h;subst h;simp
 | x::xs,ys,h=>by
  rw[xh]at h;cases e:f x with
  | none=>simp[e]at h
  | some y=>
   cases e2:xs.mapM f with
   | none=>simp[e,e2]at h
   | some zs=>
    simp[e,e2]at h;subst h;obtain⟨h1,U⟩:=Iq e2;refine⟨by simp[h1],fun i fq hi=>?_⟩;cases i with
    | zero=>simp at hi;subst hi;exact⟨x,rfl,e⟩
    | succ i=>simpa using U i fq (by simpa using hi)
theorem ajQ{P:Program}{fn:Fn}{first captured:Array Operand}
  (aV:cx w0 st a w ω τ) (h:DK st fn first.toList captured.toList ans=some (r,ch,obs)):
  ∃z,(Instr.makeFunc fn (first.map a.eval) (captured.map a.eval)).run P w=.ok z w/\cM (Sat w ω τ) r z:=by
 unfold DK at h;split at h
 ·rename_i g Xw;have bl:first=#[]:=by
   rcases first with⟨l⟩
   simpa using Xw
  subst bl;refine⟨.func (.func g) #[] (captured.map a.eval),by simp[Instr.makeFunc],?_⟩;have q4:∀(i:Nat) (x:aB),(captured.toList.map st.bk)[i]?=some x->∃v,(captured.map a.eval)[i]?=some v/\cM (Sat w ω τ) x v:=by
   intro i x aa;rw[c9,bX]at aa;obtain⟨o,aN,rfl⟩:=aa;refine⟨a.eval o,?_,aV.bk o⟩;rw[zh];rw[jg]at aN;rw[aN];rfl
  split at h
  ·rename_i ids XK;simp only[aQ,bw]at h;obtain⟨rfl,_,_⟩:=h;obtain⟨aL,ao⟩:=Iq XK;have hex:∀i,i<ids.length->∃b id,ids[i]?=some id/\(captured.map a.eval)[i]?=some (ptrTo b)/\ω b=.box id:=by
    intro i hi;obtain⟨x,aa,jE⟩:=ao i ids[i] (by simp[hi]);obtain⟨v,bj,ae⟩:=q4 i x aa;unfold Oz at jE;split at jE
    ·rename_i id af;simp only[aQ]at jE;obtain⟨b,ah,rfl⟩:=aB.dw af ae;exact⟨b,id,by simp[hi,jE],bj,ah⟩
    cases jE
   have di:(captured.map a.eval).size=ids.length:=by simp at aL;simp[aL]
   let bs:=(List.range ids.length).map fun i=>(match (captured.map a.eval)[i]? with | some (.pointer (some p))=>p.block | _=>0)
   refine⟨bs,?_,by simp[bs],fun i id fX=>?_⟩
   ·congr 1
    apply Array.ext
    ·simp[bs,di]
    intro i h1 U;obtain⟨b,id,_,bj,_⟩:=hex i (by rw[<-di];exact h1);have mK:=bj;rw[gN h1,aQ]at mK;rw[mK];have e:bs[i]'(by simpa using U)=b:=by simp only[bs,List.getElem_map,List.getElem_range,bj,ptrTo]
    simp[e]
   have hi:=(dK.1 fX).1;obtain⟨b,hb,Nv,bj,ah⟩:=hex i hi;rw[fX]at Nv;have:=ei Nv;subst this;refine⟨b,?_,ah⟩;simp only[bs,c9,List.getElem?_range hi,mn,bj,ptrTo]
  split at h
  ·rename_i ds eo;simp only[aQ,bw]at h;obtain⟨rfl,_,_⟩:=h;obtain⟨aL,ao⟩:=Iq eo;refine bR.cl _ g ds (captured.map a.eval) (fun j=>(captured.map a.eval).getD j undef) (by simp at aL;simp[aL]) (fun j d ax=>?_) (fun j d ax=>?_)
   ·obtain⟨x,aa,_⟩:=ao j d ax;obtain⟨v,bj,_⟩:=q4 j x aa;rw[bj];simp only[ea,bj,hl]
   obtain⟨x,aa,jE⟩:=ao j d ax;obtain⟨v,bj,ae⟩:=q4 j x aa;have e:(captured.map a.eval).getD j undef=v:=by simp only[ea,bj,hl]
   rw[e];unfold MR at jE;split at jE
   ·rename_i sf af;simp only[aQ]at jE;subst jE;obtain⟨b,rfl,ar⟩:=aB.dw af ae;exact ar.frame fun b q ah av=>⟨av,rfl⟩
   ·rename_i y af;split at jE
    ·rename_i Yi;simp only[aQ]at jE;subst jE;have:v=y:=aB.dw af ae;subst this;exact .v _ _ Yi
    cases jE
   cases jE
  cases h
 cases h
def DL(P:Program)(st:aE)(b:Builtin)(args:List Operand)(ts:List TypeId)(ans:List b4):jP:=
 match b,args,ts with
 | .len,[x],[t]=>IS P t (st.bk x) ans
 | .min,[x,y],_=>Io (st.bk x) (st.bk y) ans
 | .max,[x,y],_=>Ip (st.bk x) (st.bk y) ans
 | _,_,_=>none
def pD(P:Program)(st:aE)(op:Op)(ans:List b4):jP:=
 match op with
 | .move x | .assign x=>some (st.bk x,ans,[])
 | .pick c a b=>de (st.bk c) (st.bk a) (st.bk b) ans
 | .load t x=>DG P st t (st.bk x) ans
 | .nilCheck x=>Pp (st.bk x) ans
 | .binOp op t x y _=>IM P op t x y (st.bk x) (st.bk y) ans
 | .unOp op _ x=>Ik op (st.bk x) ans
 | .convert s d x=>Il P s d (st.bk x) ans
 | .slice t x cV hi ja=>DH P st t (st.bk x) cV hi ja ans
 | .fieldAddr s x f=>IP P s (st.bk x) f ans
 | .field t x f=>Ij P t (st.bk x) f ans
 | .indexAddr t x i=>IQ P t (st.bk x) (st.bk i) ans
 | .index t x i=>Im P t (st.bk x) (st.bk i) ans
 | .extract x i=>Ii (st.bk x) i ans
 | .build t parts=>DI P st t parts.toList ans
 | .call ⟨.builtin b,args,ts⟩=>DL P st b args.toList ts.toList ans
 | .makeFunc fn first captured=>DK st fn first.toList captured.toList ans
 | _=>none
theorem jf{aG:World}{s:Sem Value}{z:Value}(h:s.run P w=.ok z aG):(do pure (.value (<-s)):Sem Next).run P w=.ok (.value z) aG:=by
 rw[Sem.run_bind,h];rfl
theorem ajR{b:Builtin}{args:Array Operand}{ts:Array TypeId}{ty:TypeId}{consts:Array Bool}
  (aV:cx w0 st a w ω τ) (h:DL P st b args.toList ts.toList ans=some (r,ch,obs)):
  ∃z,(builtin b ts ty consts (args.map a.eval)).run P w=.ok (.value z) w/\cM (Sat w ω τ) r z:=by
 obtain⟨args⟩:=args;obtain⟨ts⟩:=ts;unfold DL at h;split at h
 ·rename_i x t e1 e2;simp only at e1 e2;subst e1 e2;obtain⟨z,h1,U⟩:=ajF (ty:=ty) (aV.bk x) h;refine⟨z,jf (s:=Builtin.len_ #[t] ty (Array.map a.eval #[x])) ?_,U⟩;simpa using h1
 ·rename_i x y e1;simp only at e1;subst e1;obtain⟨z,h1,U⟩:=ajO (P:=P) (ts:=⟨ts⟩) (ty:=ty) (aV.bk x) (aV.bk y) h;refine⟨z,jf (s:=Builtin.min_ ⟨ts⟩ ty (Array.map a.eval #[x,y])) ?_,U⟩;simpa using h1
 ·rename_i x y e1;simp only at e1;subst e1;obtain⟨z,h1,U⟩:=ajP (P:=P) (ts:=⟨ts⟩) (ty:=ty) (aV.bk x) (aV.bk y) h;refine⟨z,jf (s:=Builtin.max_ ⟨ts⟩ ty (Array.map a.eval #[x,y])) ?_,U⟩;simpa using h1
 cases h
theorem Ir{o:Oper}
  (aV:cx w0 st a w ω τ) (h:pD P st o.op ans=some (r,ch,obs)) (aN:cB obs):
  ∃z,(execOp a.eval o).run P w=.ok (.value z) w/\cM (Sat w ω τ) r z:=by
 obtain⟨dst,op,type,pos,after,guard⟩:=o;simp only at h;unfold pD at h;split at h
 ·rename_i x;simp only[aQ,bw]at h;obtain⟨rfl,_,_⟩:=h;exact⟨a.eval x,rfl,aV.bk x⟩
 ·rename_i x;simp only[aQ,bw]at h;obtain⟨rfl,_,_⟩:=h;exact⟨a.eval x,rfl,aV.bk x⟩
 ·rename_i c x y;exact ajL (aV.bk c) (aV.bk x) (aV.bk y) h aN
 ·rename_i t x;obtain⟨z,h1,U⟩:=akc aV (aV.bk x) h aN;exact⟨z,jf h1,U⟩
 ·rename_i x;unfold Pp at h;split at h
  ·rename_i id off e;simp only[aQ,bw]at h;obtain⟨rfl,_,_⟩:=h;have ae:=aB.dw e (aV.bk x);obtain⟨b,ah,aa⟩:=ae;exact⟨_,by simp only[execOp,aa];rfl,b,ah,rfl⟩
  ·rename_i t k es i j e;simp only[aQ,bw]at h;obtain⟨rfl,_,_⟩:=h;have ae:=aB.dw e (aV.bk x);have c3:=ae;obtain⟨b,off,cap,aa,h1⟩:=ae;refine⟨_,by simp only[execOp,aa];rfl,?_⟩;rw[<-aa];exact c3
  ·rename_i ds off e;simp only[aQ,bw]at h;obtain⟨rfl,_,_⟩:=h;have ae:=aB.dw e (aV.bk x);have c3:=ae;obtain⟨b,aa,h1⟩:=ae;refine⟨_,by simp only[execOp,aa];rfl,?_⟩;rw[<-aa];exact c3
  ·rename_i t i j k es aqM MD e;simp only[aQ,bw]at h;obtain⟨rfl,_,_⟩:=h;have ae:=aB.dw e (aV.bk x);have c3:=ae;obtain⟨hX,⟨b,off,cap,_,aa,_⟩,_⟩:=ae;refine⟨_,by simp only[execOp,aa];rfl,?_⟩;rw[<-aa];exact c3
  cases h
 ·rename_i Zo t x y qH;obtain⟨z,h1,U⟩:=aj8 (aV.bk x) (aV.bk y) h aN;exact⟨z,jf h1,U⟩
 ·rename_i Zo t x;obtain⟨z,h1,U⟩:=ajK (aV.bk x) h aN;exact⟨z,jf h1,U⟩
 ·rename_i s d x;obtain⟨z,h1,U⟩:=ajM (aV.bk x) h aN;exact⟨z,jf h1,U⟩
 ·rename_i t x cV hi ja;obtain⟨z,h1,U⟩:=ajG aV (aV.bk x) h aN;exact⟨z,jf h1,U⟩
 ·rename_i s x f;obtain⟨z,h1,U⟩:=aj9 (aV.bk x) h;exact⟨z,jf h1,U⟩
 ·rename_i t x f;obtain⟨z,h1,U⟩:=ajJ (aV.bk x) h;exact⟨z,jf h1,U⟩
 ·rename_i t x i;obtain⟨z,h1,U⟩:=aka (aV.bk x) (aV.bk i) h aN;exact⟨z,jf h1,U⟩
 ·rename_i t x i;obtain⟨z,h1,U⟩:=ajN (aV.bk x) (aV.bk i) h aN;exact⟨z,jf h1,U⟩
 ·rename_i x i;obtain⟨z,h1,U⟩:=ajI (P:=P) (aV.bk x) h;exact⟨z,jf h1,U⟩
 ·rename_i t parts;obtain⟨z,h1,U⟩:=ajH aV h;exact⟨z,jf h1,U⟩
 ·rename_i b args ts;obtain⟨z,h1,U⟩:=ajR (ty:=type) (consts:=args.map fun | .const _=>true | _=>false) aV h;exact⟨z,by simp only[execOp,resolve,Sem.run_bind,Sem.run_pure,Result.andThen_ok,invoke];exact h1,U⟩
 ·rename_i fn first captured
  obtain⟨z,h1,U⟩:=ajQ (P:=P) aV h;exact⟨z,jf h1,U⟩
 cases h
