import Derived.WalkKit
import Derived.WalkSpells
import Derived.WalkLawsBesides
import Derived.KernelRfl
set_option linter.unusedVariables false
set_option linter.unusedSimpArgs false
namespace Go.Sx
open Go.RowKit
universe u v w x
theorem aj:True:=⟨⟩
theorem aH:type_of% @Option.some.injEq.{u}:=@Option.some.injEq.{u}
theorem br:type_of% @List.length_map.{u,v}:=@List.length_map.{u,v}
theorem bF:type_of% @Option.map_eq_some_iff.{u,v}:=@Option.map_eq_some_iff.{u,v}
theorem a':type_of% @Prod.mk.injEq.{u,v}:=@Prod.mk.injEq.{u,v}
theorem ca:type_of% @Bool.eq_false_or_eq_true:=@Bool.eq_false_or_eq_true
theorem mG:type_of% @decide_eq_false_iff_not:=@decide_eq_false_iff_not
theorem eQ:type_of% @List.mem_cons_of_mem.{u}:=@List.mem_cons_of_mem.{u}
theorem bG:type_of% @List.length_nil.{u}:=@List.length_nil.{u}
theorem cF:type_of% @decide_eq_true_eq:=@decide_eq_true_eq
theorem b0:type_of% @Bool.and_eq_true:=@Bool.and_eq_true
theorem eJ:type_of% @List.getElem?_eq_some_iff.{u}:=@List.getElem?_eq_some_iff.{u}
theorem dF:type_of% @Array.getD_eq_getD_getElem?.{u}:=@Array.getD_eq_getD_getElem?.{u}
theorem fk:type_of% @List.mem_cons_self.{u}:=@List.mem_cons_self.{u}
theorem kj:type_of% @List.length_set.{u}:=@List.length_set.{u}
theorem aZ:type_of% @if_neg.{u}:=@if_neg.{u}
theorem bb:type_of% @if_pos.{u}:=@if_pos.{u}
theorem du:type_of% @List.length_cons.{u}:=@List.length_cons.{u}
theorem dG:type_of% @List.getElem?_map.{u,v}:=@List.getElem?_map.{u,v}
theorem oZ:type_of% @decide_eq_false:=@decide_eq_false
theorem iM:type_of% @List.getElem?_eq_getElem.{u}:=@List.getElem?_eq_getElem.{u}
theorem cP:type_of% @Nat.zero_add:=@Nat.zero_add
theorem eD:type_of% @List.mem_of_getElem?.{u}:=@List.mem_of_getElem?.{u}
theorem e0:type_of% @Option.some.inj.{u}:=@Option.some.inj.{u}
theorem jU:type_of% @Bool.or_eq_false_iff:=@Bool.or_eq_false_iff
theorem hB:type_of% @Array.getElem?_eq_some_iff.{u}:=@Array.getElem?_eq_some_iff.{u}
theorem iv:type_of% @List.getElem?_drop.{u}:=@List.getElem?_drop.{u}
theorem gk:type_of% @Nat.mul_le_mul_right:=@Nat.mul_le_mul_right
theorem jS:type_of% @List.take_length.{u}:=@List.take_length.{u}
theorem i':type_of% @Array.getElem?_eq_getElem.{u}:=@Array.getElem?_eq_getElem.{u}
theorem fR:type_of% @beq_iff_eq.{u}:=@beq_iff_eq.{u}
theorem h9:type_of% @List.getElem?_take.{u}:=@List.getElem?_take.{u}
theorem Ox:type_of% @List.cons.inj.{u}:=@List.cons.inj.{u}
theorem jy:type_of% @Array.getElem?_toList.{u}:=@Array.getElem?_toList.{u}
theorem gl:type_of% @List.mem_append_left.{u}:=@List.mem_append_left.{u}
theorem gQ:type_of% @List.mem_append_right.{u}:=@List.mem_append_right.{u}
theorem hz:type_of% @Array.getElem?_append.{u}:=@Array.getElem?_append.{u}
theorem dj:type_of% @List.mem_cons.{u}:=@List.mem_cons.{u}
theorem eP:type_of% @List.all_eq_true.{u}:=@List.all_eq_true.{u}
theorem jz:type_of% @List.getD_eq_getElem?_getD.{u}:=@List.getD_eq_getElem?_getD.{u}
theorem fF:type_of% @Nat.le_refl:=@Nat.le_refl
theorem hP:type_of% @List.any_eq_false.{u}:=@List.any_eq_false.{u}
theorem Oy:type_of% @Bool.eq_false_iff:=@Bool.eq_false_iff
theorem fG:type_of% @Nat.add_mul:=@Nat.add_mul
theorem gD:type_of% @Bool.not_eq_true':=@Bool.not_eq_true'
theorem kf:type_of% @List.getElem?_append.{u}:=@List.getElem?_append.{u}
theorem kg:type_of% @List.map_append.{u,v}:=@List.map_append.{u,v}
theorem kh:type_of% @Option.getD_some.{u}:=@Option.getD_some.{u}
theorem jA:type_of% @List.map_congr_left.{u,v}:=@List.map_congr_left.{u,v}
theorem sW:type_of% @Bool.not_eq_false':=@Bool.not_eq_false'
theorem lI:type_of% @List.getElem?_toArray.{u}:=@List.getElem?_toArray.{u}
theorem uL:type_of% @Bool.not_true:=@Bool.not_true
theorem ja:type_of% @List.append_nil.{u}:=@List.append_nil.{u}
theorem mz:type_of% @List.length_append.{u}:=@List.length_append.{u}
theorem lJ:type_of% @List.size_toArray.{u}:=@List.size_toArray.{u}
theorem iL:type_of% @List.getElem?_set.{u}:=@List.getElem?_set.{u}
theorem uM:type_of% @Int.toNat_natCast:=@Int.toNat_natCast
theorem lK:type_of% @List.getElem?_cons_succ.{u}:=@List.getElem?_cons_succ.{u}
theorem jB:type_of% @List.getElem?_cons_zero.{u}:=@List.getElem?_cons_zero.{u}
theorem jT:type_of% @Option.bind_eq_some_iff.{u,v}:=@Option.bind_eq_some_iff.{u,v}
theorem uN:type_of% @List.findIdx?_eq_some_iff_getElem.{u}:=@List.findIdx?_eq_some_iff_getElem.{u}
theorem nY:type_of% @Option.isSome_iff_exists.{u}:=@Option.isSome_iff_exists.{u}
theorem mA:type_of% @List.mem_iff_getElem?.{u}:=@List.mem_iff_getElem?.{u}
theorem GK:type_of% @Bool.false_or:=@Bool.false_or
theorem agc:type_of% @List.set_set.{u}:=@List.set_set.{u}
theorem mB:type_of% @Option.bind_some.{u,v}:=@Option.bind_some.{u,v}
theorem oT:type_of% @Bool.false_eq_true:=@Bool.false_eq_true
theorem p9:type_of% @decide_eq_true:=@decide_eq_true
theorem uO:type_of% @Int.le_trans:=@Int.le_trans
theorem lL:type_of% @List.mem_flatMap.{u,v}:=@List.mem_flatMap.{u,v}
theorem Aw:type_of% @List.getElem?_append_right.{u}:=@List.getElem?_append_right.{u}
theorem mC:type_of% @List.length_filter_le.{u}:=@List.length_filter_le.{u}
theorem GL:type_of% @List.map_set.{u,v}:=@List.map_set.{u,v}
theorem gE:type_of% @List.map_cons.{u,v}:=@List.map_cons.{u,v}
theorem oU:type_of% @Option.map_some.{u,v}:=@Option.map_some.{u,v}
theorem sX:type_of% @List.getElem_mem.{u}:=@List.getElem_mem.{u}
theorem xp:type_of% @List.length_take.{u}:=@List.length_take.{u}
theorem hA:type_of% @List.mem_append.{u}:=@List.mem_append.{u}
theorem GM:type_of% @List.append_assoc.{u}:=@List.append_assoc.{u}
theorem fZ:type_of% @if_true.{u}:=@if_true.{u}
theorem aez:type_of% @Bool.not_false:=@Bool.not_false
theorem p':type_of% @Array.size_append.{u}:=@Array.size_append.{u}
theorem uP:type_of% @List.take_add_one.{u}:=@List.take_add_one.{u}
theorem oV:type_of% @List.mem_or_eq_of_mem_set.{u}:=@List.mem_or_eq_of_mem_set.{u}
theorem Ax:type_of% @List.getElem?_append_left.{u}:=@List.getElem?_append_left.{u}
theorem xq:type_of% @List.mem_of_mem_take.{u}:=@List.mem_of_mem_take.{u}
theorem mD:type_of% @Bool.or_eq_true:=@Bool.or_eq_true
theorem lM:type_of% @Nat.add_zero:=@Nat.add_zero
theorem sY:type_of% @List.take_of_length_le.{u}:=@List.take_of_length_le.{u}
theorem rl:type_of% @Bool.true_and:=@Bool.true_and
theorem eC:type_of% @List.mem_map.{u,v}:=@List.mem_map.{u,v}
theorem Ay:type_of% @List.mem_of_mem_drop.{u}:=@List.mem_of_mem_drop.{u}
theorem xr:type_of% @List.getElem?_replicate.{u}:=@List.getElem?_replicate.{u}
theorem mE:type_of% @Nat.lt_or_ge:=@Nat.lt_or_ge
theorem sZ:type_of% @beq_eq_false_iff_ne.{u}:=@beq_eq_false_iff_ne.{u}
theorem oW:type_of% @List.cons.injEq.{u}:=@List.cons.injEq.{u}
theorem Az:type_of% @List.findIdx?_eq_none_iff.{u}:=@List.findIdx?_eq_none_iff.{u}
theorem uQ:type_of% @Bool.not_eq_true:=@Bool.not_eq_true
theorem nZ:type_of% @List.not_mem_nil.{u}:=@List.not_mem_nil.{u}
theorem rm:type_of% @List.eq_nil_of_length_eq_zero.{u}:=@List.eq_nil_of_length_eq_zero.{u}
theorem Oz:type_of% @List.take_append_of_le_length.{u}:=@List.take_append_of_le_length.{u}
theorem AA:type_of% @Array.length_toList.{u}:=@Array.length_toList.{u}
theorem OA:type_of% @beq_self_eq_true.{u}:=@beq_self_eq_true.{u}
theorem uR:type_of% @Nat.lt_of_lt_of_le:=@Nat.lt_of_lt_of_le
theorem AB:type_of% @Option.isSome_eq_false_iff.{u}:=@Option.isSome_eq_false_iff.{u}
theorem AD:type_of% @List.take_append_drop.{u}:=@List.take_append_drop.{u}
theorem ki:type_of% @ne_eq.{u}:=@ne_eq.{u}
theorem AE:type_of% @Option.isNone_iff_eq_none.{u}:=@Option.isNone_iff_eq_none.{u}
theorem k2:type_of% @Nat.le_trans:=@Nat.le_trans
theorem oX:type_of% @List.map_id.{u}:=@List.map_id.{u}
theorem AF:type_of% @List.any_cons.{u}:=@List.any_cons.{u}
theorem uS:type_of% @List.mapM_cons.{u,v,w}:=@List.mapM_cons.{u,v,w}
theorem mF:type_of% @if_false.{u}:=@if_false.{u}
theorem oY:type_of% @List.any_eq_true.{u}:=@List.any_eq_true.{u}
theorem rn:type_of% @List.drop_zero.{u}:=@List.drop_zero.{u}
theorem agd:type_of% @Int.natCast_zero:=@Int.natCast_zero
theorem age:type_of% @List.flatMap_nil.{u,v}:=@List.flatMap_nil.{u,v}
theorem AG:type_of% @Array.getElem?_eq_none.{u}:=@Array.getElem?_eq_none.{u}
theorem GN:type_of% @Array.getElem?_map.{u,v}:=@Array.getElem?_map.{u,v}
theorem GO:type_of% @Option.toList_some.{u}:=@Option.toList_some.{u}
theorem agf:type_of% @List.range_zero:=@List.range_zero
theorem uT:type_of% @List.map_take.{u,v}:=@List.map_take.{u,v}
theorem aeA:type_of% @Bool.and_true:=@Bool.and_true
theorem agh:type_of% @List.length_range:=@List.length_range
theorem AH:type_of% @Nat.mod_eq_of_lt:=@Nat.mod_eq_of_lt
theorem AI:type_of% @Nat.add_assoc:=@Nat.add_assoc
theorem qa:type_of% @List.sum_cons.{u}:=@List.sum_cons.{u}
inductive D where
 | v (x:Value)
 | aa (k:Nat) (es:List (List D))
 | ptr (ds:List D)
 | da (g:FuncId) (cD:List D)
inductive cx where
 | bc
 | box (id:Nat)
 | tok (t:Nat) (q:List (Nat×Nat))
abbrev Own:=Nat->cx
def cq(es:List (List D))(i j:Nat):Option D:=(es[i]?).bind (·[j]?)
inductive bA (w:World) (ω:Own):(List (Nat×Nat)->cx->Prop)->D->Value->Prop
 | v (R:List (Nat×Nat)->cx->Prop) (x:Value) (J:x.oneCell'=true):bA w ω R (.v x) x
 | nil (R:List (Nat×Nat)->cx->Prop) (k:Nat) (a:Option Addr):bA w ω R (.aa k []) (.slice a 0 0)
 | row (R:List (Nat×Nat)->cx->Prop) (k:Nat) (es:List (List D)) (b off cap:Nat) (arr:Array Value) (ty:TypeId) (cj:Nat×Nat) (us:Nat->Nat->Value)
   (ah:w.heap[b]?=some (.cells arr ty cj)) (c6:R [] (ω b)) (ai:es.length<=cap) (ad:off+cap*k<=arr.size) (aT:∀e∈es,e.length=k)
   (hu:∀i j d,cq es i j=some d->arr[off+i*k+j]?=some (us i j))
   (ay:∀i j d,cq es i j=some d->bA w ω (fun q=>R ((i,j)::q)) d (us i j)):
   bA w ω R (.aa k es) (.slice (some ⟨b,off,none⟩) es.length cap)
 | ptr (R:List (Nat×Nat)->cx->Prop) (ds:List D) (b:Nat) (arr:Array Value) (ty:TypeId) (cj:Nat×Nat) (us:Nat->Value)
   (ah:w.heap[b]?=some (.cells arr ty cj)) (c6:R [] (ω b)) (ad:arr.size=ds.length)
   (hu:∀j d,ds[j]?=some d->arr[j]?=some (us j)) (ay:∀j d,ds[j]?=some d->bA w ω (fun q=>R ((0,j)::q)) d (us j)):
   bA w ω R (.ptr ds) (.pointer (some ⟨b,0,none⟩))
 | da (R:List (Nat×Nat)->cx->Prop) (g:FuncId) (cD:List D) (cs:Array Value) (us:Nat->Value) (ad:cs.size=cD.length)
   (hu:∀j d,cD[j]?=some d->cs[j]?=some (us j)) (ay:∀j d,cD[j]?=some d->bA w ω (fun q=>R ((0,j)::q)) d (us j)):
   bA w ω R (.da g cD) (.func (.func g) #[] cs)
variable{w aD:World}{ω:Own}
theorem bA.frame{aP:Own}{R:List (Nat×Nat)->cx->Prop}{d:D}{v:Value}(h:bA w ω R d v):
  ∀{gR:List (Nat×Nat)->cx->Prop},(∀b q,b<w.heap.size->R q (ω b)->gR q (aP b)/\aD.heap[b]?=w.heap[b]?)->bA aD aP gR d v:=by
 induction h with
 | v R x J=>intro gR _;exact .v gR x J
 | nil R k a=>intro gR _;exact .nil gR k a
 | row R k es b off cap arr ty cj us ah c6 ai ad aT hu ay dw=>
  intro gR bn;have bk:b<w.heap.size:=by
   rcases mE b w.heap.size with h | h
   ·exact h
   simp[AG h]at ah
  obtain⟨J,U⟩:=bn b [] bk c6;exact .row gR k es b off cap arr ty cj us (U.trans ah) J ai ad aT hu (fun i j d dp=>dw i j d dp (fun b q ak aw=>bn b ((i,j)::q) ak aw))
 | ptr R ds b arr ty cj us ah c6 ad hu ay dw=>
  intro gR bn;have bk:b<w.heap.size:=by
   rcases mE b w.heap.size with h | h
   ·exact h
   simp[AG h]at ah
  obtain⟨J,U⟩:=bn b [] bk c6;exact .ptr gR ds b arr ty cj us (U.trans ah) J ad hu (fun j d dp=>dw j d dp (fun b q ak aw=>bn b ((0,j)::q) ak aw))
 | da R g cD cs us ad hu ay dw=>
  intro gR bn;exact .da gR g cD cs us ad hu (fun j d dp=>dw j d dp (fun b q ak aw=>bn b ((0,j)::q) ak aw))
inductive Tag where
 | free
 | own (t:Nat)
 | ro (t:Nat)
def Tag.R:Tag->List (Nat×Nat)->cx->Prop
 | .free,_,o=>o=.bc
 | .own t,q,o=>o=.tok t q
 | .ro t,_,o=>o=.bc\/∃q,o=.tok t q
def Tag.de(τ:Nat->Nat×Value):Tag->Nat×Value->Prop
 | .own t,y=>τ t=y
 | _,_=>True
def cy:Nat:=1000000000
inductive dR where
 | b5
 | v (x:Value)
 | aa (t:Tag) (k:Nat) (es:List (List D))
inductive ry where
 | here
 | jF
 | at_ (x y:Nat)
def ry.rel(k n:Nat):ry->Value->Value->Prop
 | .at_ x y,u,v=>∃b off cap,u=.slice (some ⟨b,off,none⟩) n cap/\v=.pointer (some ⟨b,off+x*k+y,none⟩)/\x<n
 | _,u,v=>v=u
def ry.home:ry->Bool
 | .jF=>false
 | _=>true
inductive aq where
 | b5
 | v (x:Value)
 | bP (c:Bool)
 | aa (t:Tag) (k:Nat) (es:List (List D))
 | ptr (id off:Nat)
 | ep (t:Tag) (k:Nat) (es:List (List D)) (i j:Nat)
 | gZ (ds:List D) (off:Nat)
 | fd (d:D)
 | eL (g:FuncId) (ids:List Nat)
 | bE (t i j k:Nat) (es:List (List D)) (m:ry)
 | ef (t:Nat) (vs:List dR)
 | dL (t k:Nat) (es:List (List D))
def ptrTo(b:Nat):Value:=.pointer (some ⟨b,0,none⟩)
def n1(w:World)(ω:Own)(τ:Nat->Nat×Value):dR->Value->Prop
 | .b5,_=>True
 | .v x,y=>y=x
 | .aa t k es,y=>bA w ω t.R (.aa k es) y/\t.de τ (k,y)
def qO(w:World)(ω:Own)(τ:Nat->Nat×Value)(t i j:Nat)(u:Value):Prop:=
 ∃(kT b off len cap:Nat) (arr:Array Value) (ty:TypeId) (cj:Nat×Nat),τ t=(kT,.slice (some ⟨b,off,none⟩) len cap)/\ω b=.tok t []/\w.heap[b]?=some (.cells arr ty cj)/\arr[off+i*kT+j]?=some u
def Sat(w:World)(ω:Own)(τ:Nat->Nat×Value):aq->Value->Prop
 | .b5,_=>True
 | .v x,y=>y=x
 | .bP c,y=>y=.bool c
 | .aa t k es,y=>bA w ω t.R (.aa k es) y/\t.de τ (k,y)
 | .ptr id off,y=>∃b,ω b=.box id/\y=.pointer (some ⟨b,off,none⟩)
 | .ep t k es i j,y=>∃b off cap,y=.pointer (some ⟨b,off+i*k+j,none⟩)/\i<es.length/\
   bA w ω t.R (.aa k es) (.slice (some ⟨b,off,none⟩) es.length cap)/\t.de τ (k,.slice (some ⟨b,off,none⟩) es.length cap)
 | .gZ ds off,y=>∃b,y=.pointer (some ⟨b,off,none⟩)/\bA w ω Tag.free.R (.ptr ds) (ptrTo b)
 | .fd d,y=>bA w ω Tag.free.R d y
 | .eL g ids,y=>∃bs:List Nat,y=.func (.func g) #[] (bs.map ptrTo).toArray/\bs.length=ids.length/\∀(i:Nat) (id:Nat),ids[i]?=some id->∃b,bs[i]?=some b/\ω b=.box id
 | .dL t k es,y=>bA w ω Tag.free.R (.aa k es) y/\(cy<=t->τ t=(k,y))
 | .bE t i j k es m,y=>∃u,m.rel k es.length u y/\bA w ω (fun q o=>o=.tok t ((i,j)::q)) (.aa k es) u/\(m.home=true->qO w ω τ t i j u)
 | .ef t vs,y=>∃(b:Nat) (ty:TypeId) (arr:Array Value),y=ptrTo b/\ω b=.tok t []/\w.heap[b]?=some (.cells arr ty (0,0))/\arr.size=vs.length/\∀(j:Nat) (c:dR),vs[j]?=some c->∃u,arr[j]?=some u/\n1 w ω τ c u
inductive bi where
 | one (l:aq)
 | agg (ls:List aq)
inductive az where
 | aN (a:bi)
 | fD (as:List bi)
abbrev az.one(l:aq):az:=.aN (.one l)
abbrev az.agg(ls:List aq):az:=.aN (.agg ls)
abbrev az.b5:az:=.aN (.one .b5)
def ia(S:aq->Value->Prop)(ls:List aq)(vs:Array Value):Prop:=
 vs.size=ls.length/\∀(i:Nat) (l:aq),ls[i]?=some l->∃u,vs[i]?=some u/\S l u
def h'(S:aq->Value->Prop):bi->Value->Prop
 | .one l,y=>S l y
 | .agg ls,y=>∃vs,y=.agg vs/\ia S ls vs
def cd(S:aq->Value->Prop):az->Value->Prop
 | .aN a,y=>h' S a y
 | .fD as,y=>∃vs:Array Value,y=.tuple vs/\vs.size=as.length/\∀(i:Nat) (a:bi),as[i]?=some a->∃u,vs[i]?=some u/\h' S a u
structure aG where
 env:List az
 boxes:List (Nat×List aq)
def cM(id:Nat):List (Nat×List aq)->Option (List aq)
 | []=>none
 | (i,ls)::r=>if i=id then some ls else cM id r
def bi.map(f:aq->aq):bi->bi
 | .one l=>.one (f l)
 | .agg ls=>.agg (ls.map f)
def az.map(f:aq->aq):az->az
 | .aN a=>.aN (a.map f)
 | .fD as=>.fD (as.map (bi.map f))
def aG.map(f:aq->aq)(s:aG):aG:=⟨s.env.map (az.map f),s.boxes.map fun x=>(x.1,x.2.map f)⟩
variable{S:aq->Value->Prop}
theorem ia.map{iw:aq->Value->Prop}{f:aq->aq}(h:∀l v,S l v->iw (f l) v){ls:List aq}{vs:Array Value}(ad:ia S ls vs):ia iw (ls.map f) vs:=by
 refine⟨by simpa using ad.1,fun i l ak=>?_⟩;rw[dG,bF]at ak;obtain⟨fO,bX,rfl⟩:=ak;obtain⟨u,J,U⟩:=ad.2 i fO bX;exact⟨u,J,h _ _ U⟩
theorem h'.map{iw:aq->Value->Prop}{f:aq->aq}(h:∀l v,S l v->iw (f l) v):∀{a:bi} {y:Value},h' S a y->h' iw (a.map f) y
 | .one l,y,ad=>h _ _ ad
 | .agg ls,y,⟨vs,e,ad⟩=>⟨vs,e,ad.map h⟩
theorem cd.map{iw:aq->Value->Prop}{f:aq->aq}(h:∀l v,S l v->iw (f l) v):∀{p:az} {y:Value},cd S p y->cd iw (p.map f) y
 | .aN a,y,ad=>show h' iw (a.map f) y from h'.map h (show h' S a y from ad)
 | .fD as,y,⟨vs,e,aR,ad⟩=>⟨vs,e,by simpa using aR,fun i a aC=>by
   rw[dG,bF]at aC;obtain⟨a0,bX,rfl⟩:=aC;obtain⟨u,J,U⟩:=ad i a0 bX;exact⟨u,J,h'.map h U⟩⟩
theorem pR(f:aq->aq)(id:Nat):∀bs:List (Nat×List aq),cM id (bs.map fun x=>(x.1,x.2.map f))=(cM id bs).map (·.map f)
 | []=>rfl
 | (i,ls)::r=>by
  simp only[gE,cM];split
  ·rfl
  exact pR f id r
structure dC where
 w:World
 G:Nat->Prop
 H:Nat->Nat×Value
def dC.yu(B:dC)(b:Nat):Prop:=B.w.heap.size<=b\/B.G b
def DI:Bool:=true
structure e9 (n:Nat) (w aD:World):Prop where
 below:Below n w aD
 drawn:DI=true->w.drawn<=aD.drawn
variable{n:Nat}
theorem e9.size(h:e9 n w aD):w.heap.size<=aD.heap.size:=h.below.size
theorem e9.block(h:e9 n w aD):∀k,k<n->aD.heap[k]?=w.heap[k]?:=h.below.block
theorem e9.refl(n:Nat)(w:World):e9 n w w:=⟨Below.refl _ _,fun _=>fF _⟩
theorem e9.drew(h:e9 n w aD):e9 n w aD.drew:=⟨h.below.drew,fun ad=>Nat.le_succ_of_le (h.drawn ad)⟩
theorem e9.alloc(h:e9 n w aD)(aR:n<=aD.heap.size)(o:Obj):e9 n w (aD.alloc o):=⟨h.below.alloc aR o,h.drawn⟩
def w2:List (Nat×List Int):=[]
def mK(w:World):Prop:=∀x∈w2,∃ty cj,w.heap[x.1]?=some (.cells (x.2.map (Value.int .u64)).toArray ty cj)
theorem mK.lt(h:mK w){x:Nat×List Int}(ae:x∈w2):x.1<w.heap.size:=by
 obtain⟨ty,cj,e⟩:=h x ae;rcases mE x.1 w.heap.size with h | h
 ·exact h
 simp[AG h]at e
def Tidy(w:World)(ω:Own):Prop:=mK w/\∀x∈w2,ω x.1=.bc
structure e8 (B:dC) (w:World):Prop where
 os:w.os=B.w.os
 tape:w.tape=B.w.tape
 output:w.output=B.w.output
 size:B.w.heap.size<=w.heap.size
 block:∀k,k<B.w.heap.size->¬B.G k->w.heap[k]?=B.w.heap[k]?
 drawn:DI=true->B.w.drawn<=w.drawn
 laid:mK w
 free:∀x∈Go.Sx.w2,¬B.yu x.1
theorem mK.next(h:mK w)(k:e9 w.heap.size w aD):mK aD:=fun x ae=>by
 rw[k.below.block x.1 (h.lt ae)];exact h x ae
theorem e8.next{B:dC}(h:e8 B w)(k:e9 w.heap.size w aD):e8 B aD:=
 ⟨k.below.os.trans h.os,k.below.tape.trans h.tape,k.below.output.trans h.output,k2 h.size k.below.size,fun i hi ag=>(k.below.block i (uR hi h.size)).trans (h.block i hi ag),fun ad=>k2 (h.drawn ad) (k.drawn ad),h.laid.next k,h.free⟩
def dC.of(w:World):dC:=⟨w,fun _=>False,fun _=>(0,undef)⟩
theorem e8.refl(B:dC)(h:mK B.w)(ag:∀x∈w2,¬B.G x.1):e8 B B.w:=⟨rfl,rfl,rfl,fF _,fun _ _ _=>rfl,fun _=>fF _,h,fun x ae hm=>by
 rcases hm with hm | hm
 ·exact absurd (h.lt ae) (by omega)
 exact ag x ae hm⟩
theorem e8.start{H:Nat->Nat×Value}(h:Tidy w ω):e8 ⟨w,fun b=>ω b≠.bc,H⟩ w:=e8.refl ⟨w,fun b=>ω b≠.bc,H⟩ h.1 fun x ae hm=>hm (h.2 x ae)
theorem e8.below(h:e8 (dC.of w) aD):e9 w.heap.size w aD:=⟨⟨h.os,h.tape,h.output,h.size,fun k aT=>h.block k aT (fun h=>h)⟩,h.drawn⟩
theorem e8.setRow{B:dC}(h:e8 B w){b:Nat}(ah:B.yu b)(arr:Array Value):e8 B (w.setRow b arr):=
 ⟨h.os,h.tape,h.output,by simpa using h.size,fun k aT ag=>by
  have:k≠b:=by
   rintro rfl;rcases ah with ah | ah
   ·omega
   exact ag ah
  rw[setRow_other w b k arr this];exact h.block k aT ag,h.drawn,fun x ae=>by
  have:x.1≠b:=fun e=>h.free x ae (e▸ah)
  rw[setRow_other w b x.1 arr this];exact h.laid x ae,h.free⟩
def k5(w0:dC)(w:World)(ω:Own):Prop:=∀b,ω b≠.bc->w0.yu b/\∃arr ty,w.heap[b]?=some (.cells arr ty (0,0))
def qb(w:World)(ω:Own)(τ:Nat->Nat×Value)(id:Nat)(ls:List aq):Prop:=
 ∃b arr ty,ω b=.box id/\(∀cH,ω cH=.box id->cH=b)/\w.heap[b]?=some (.cells arr ty (0,0))/\ia (Sat w ω τ) ls arr
structure b1 (w0:dC) (st:aG) (a:Act) (w:World) (ω:Own) (τ:Nat->Nat×Value):Prop where
 defers:a.defers=[]
 size:a.tmps.size=st.env.length
 below:e8 w0 w
 owned:k5 w0 w ω
 fixed:∀t,cy<=t->τ t=w0.H t
 pinned:∀id b,cy<=id->ω b=.box id->(w0.H id).1=b
 env:∀(i:Nat) (p:az),st.env[i]?=some p->∃v,a.tmps[i]?=some v/\cd (Sat w ω τ) p v
 boxes:∀id ls,cM id st.boxes=some ls->qb w ω τ id ls
def Rel(w0:dC)(st:aG)(a:Act)(w:World):Prop:=∃ω τ,b1 w0 st a w ω τ
structure ru (B:dC) (w:World):Prop where
 os:w.os=B.w.os
 tape:w.tape=B.w.tape
 output:w.output=B.w.output
 size:B.w.heap.size<=w.heap.size
 block:∀k,k<B.w.heap.size->¬B.G k->w.heap[k]?=B.w.heap[k]?
 drawn:DI=true->B.w.drawn<=w.drawn
theorem ru.full{H:Nat->Nat×Value}(h:ru ⟨w,fun b=>ω b≠.bc,H⟩ aD)(bH:Tidy w ω):e8 ⟨w,fun b=>ω b≠.bc,H⟩ aD:=
 ⟨h.os,h.tape,h.output,h.size,h.block,h.drawn,fun x ae=>by
  rw[h.block x.1 (bH.1.lt ae) fun aR=>aR (bH.2 x ae)];exact bH.1 x ae,(e8.start (H:=H) bH).free⟩
variable{w0:dC}
theorem b1.tidy{st:aG}{a:Act}{aP:Own}{τ:Nat->Nat×Value}(h:b1 w0 st a w ω τ)(cE:∀b,ω b=.bc->aP b=.bc):Tidy w aP:=
 ⟨h.below.laid,fun x ae=>cE _ (Classical.byContradiction fun aR=>h.below.free x ae (h.owned _ aR).1)⟩
theorem k5.lt(h:k5 w0 w ω){b:Nat}(ah:ω b≠.bc):b<w.heap.size:=by
 obtain⟨_,arr,ty,e⟩:=h b ah;rcases mE b w.heap.size with h | h
 ·exact h
 simp[AG h]at e
theorem k5.fresh(h:k5 w0 w ω){b:Nat}(ah:w.heap.size<=b):ω b=.bc:=by
 cases e:ω b with
 | bc=>rfl
 | box id=>have:=h.lt (b:=b) (by simp[e]);omega
 | tok t q=>have:=h.lt (b:=b) (by simp[e]);omega
end Go.Sx
namespace Go.Sx
open Go.RowKit
def dR.b3(g:Tag->Option Tag):dR->dR
 | .aa t k es=>match g t with | some c3=>.aa c3 k es | none=>.b5
 | c=>c
def aq.b3(g:Tag->Option Tag)(p:Nat->Bool):aq->aq
 | .aa t k es=>match g t with | some c3=>.aa c3 k es | none=>.b5
 | .ep t k es i j=>match g t with | some c3=>.ep c3 k es i j | none=>.b5
 | .ptr id off=>if p id then .ptr id off else .b5
 | .eL f ids=>if ids.all p then .eL f ids else .b5
 | .bE t i j k es m=>match g (.own t) with | some (.own c3)=>if c3=t then .bE t i j k es m else .b5 | _=>.b5
 | .ef t vs=>match g (.own t) with | some (.own c3)=>if c3=t then .ef t (vs.map (dR.b3 g)) else .b5 | _=>.b5
 | l=>l
structure jD (w:World) (ω:Own) (τ:Nat->Nat×Value) (aD:World) (aP:Own) (ch:Nat->Nat×Value) (g:Tag->Option Tag) (p:Nat->Bool):Prop where
 rep:∀t c3 b q,g t=some c3->b<w.heap.size->t.R q (ω b)->c3.R q (aP b)/\aD.heap[b]?=w.heap[b]?
 de:∀t c3 y,g t=some c3->t.de τ y->c3.de ch y
 box:∀id b,p id=true->ω b=.box id->aP b=.box id
 free:g .free=some .free
 fix:∀t,cy<=t->ch t=τ t
variable{w aD:World}{ω aP:Own}{τ ch:Nat->Nat×Value}{g:Tag->Option Tag}
theorem yA(h:∀c u,n1 w ω τ c u->n1 aD aP ch (dR.b3 g c) u){arr:Array Value}{vs:List dR}
  (aR:arr.size=vs.length) (a8:∀(j:Nat) (c:dR),vs[j]?=some c->∃u,arr[j]?=some u/\n1 w ω τ c u):
  arr.size=(vs.map (dR.b3 g)).length/\∀(j:Nat) (c:dR),(vs.map (dR.b3 g))[j]?=some c->∃u,arr[j]?=some u/\n1 aD aP ch c u:=by
 refine⟨by simpa using aR,fun j c ai=>?_⟩;rw[dG,bF]at ai;obtain⟨dH,bX,rfl⟩:=ai;obtain⟨u,J,U⟩:=a8 j dH bX;exact⟨u,J,h dH u U⟩
theorem jD.j4{p:Nat->Bool}(h:jD w ω τ aD aP ch g p)(c:dR)(u:Value)(ad:n1 w ω τ c u):n1 aD aP ch (dR.b3 g c) u:=by
 cases c with
 | b5=>exact trivial
 | v x=>exact ad
 | aa t k es=>
  simp only[dR.b3];cases ag:g t with
  | none=>exact trivial
  | some c3=>exact⟨ad.1.frame fun b q ah aw=>h.rep t c3 b q ag ah aw,h.de t c3 _ ag ad.2⟩
theorem jD.sat{g:Tag->Option Tag}{p:Nat->Bool}(h:jD w ω τ aD aP ch g p):
  ∀(l:aq) (v:Value),Sat w ω τ l v->Sat aD aP ch (l.b3 g p) v:=by
 intro l v ad;cases l with
 | b5=>exact trivial
 | v x=>exact ad
 | bP c=>exact ad
 | aa t k es=>
  simp only[aq.b3];cases ag:g t with
  | none=>exact trivial
  | some c3=>exact⟨ad.1.frame fun b q ah aw=>h.rep t c3 b q ag ah aw,h.de t c3 _ ag ad.2⟩
 | ptr id off=>
  simp only[aq.b3];split
  ·obtain⟨b,ah,e⟩:=ad;exact⟨b,h.box id b ‹_› ah,e⟩
  exact trivial
 | eL f ids=>
  simp only[aq.b3];split
  ·rename_i hp;obtain⟨bs,e,aR,hi⟩:=ad;refine⟨bs,e,aR,fun i id fp=>?_⟩;obtain⟨b,J,U⟩:=hi i id fp;exact⟨b,J,h.box id b (eP.1 hp id (eD fp)) U⟩
  exact trivial
 | gZ ds off=>
  obtain⟨b,e,ar⟩:=ad;exact⟨b,e,ar.frame fun b q ah aw=>h.rep .free .free b q h.free ah aw⟩
 | fd d=>exact bA.frame ad fun b q ah aw=>h.rep .free .free b q h.free ah aw
 | dL t k es=>exact⟨ad.1.frame fun b q ah aw=>h.rep .free .free b q h.free ah aw,fun bH=>(h.fix t bH).trans (ad.2 bH)⟩
 | bE t i j k es m=>
  simp only[aq.b3];split
  ·rename_i c3 ag;split
   ·rename_i bH;subst bH;obtain⟨u,hu,J,hm⟩:=ad;refine⟨u,hu,J.frame fun c q ai aw=>h.rep _ _ c _ ag ai aw,fun bq=>?_⟩;obtain⟨kT,b,off,len,cap,arr,ty,cj,U,a1,ax,aJ⟩:=hm bq;have bk:b<w.heap.size:=(hB.1 ax).1;have aT:=h.rep _ _ b [] ag bk a1;exact⟨kT,b,off,len,cap,arr,ty,cj,h.de _ _ _ ag U,aT.1,aT.2.trans ax,aJ⟩
   exact trivial
  exact trivial
 | ef t vs=>
  simp only[aq.b3];split
  ·rename_i c3 ag;split
   ·rename_i bH;subst bH;obtain⟨b,ty,arr,e,a1,ax,aR,a8⟩:=ad;have bk:b<w.heap.size:=(hB.1 ax).1;have aT:=h.rep _ _ b [] ag bk a1;exact⟨b,ty,arr,e,aT.1,aT.2.trans ax,yA (h.j4) aR a8⟩
   exact trivial
  exact trivial
 | ep t k es i j=>
  simp only[aq.b3];cases ag:g t with
  | none=>exact trivial
  | some c3=>
   obtain⟨b,off,cap,e,hi,ar,bq⟩:=ad;exact⟨b,off,cap,e,hi,ar.frame fun b q ah aw=>h.rep t c3 b q ag ah aw,h.de t c3 _ ag bq⟩
variable{a:Act}
theorem O9{d:Nat}{v:Value}{i:Nat}:(a.put (some d) v).tmps[i]?=if d=i/\i<a.tmps.size then some v else a.tmps[i]?:=by
 simp only[Act.put,Array.getElem?_setIfInBounds];by_cases h:d=i
 ·subst h;by_cases U:d<a.tmps.size
  ·simp[U]
  simp[U]
 simp[h]
variable{w0:dC}{st:aG}
theorem b1.put(h:b1 w0 st a w ω τ){d:Nat}{p:az}{v:Value}(ad:cd (Sat w ω τ) p v):
  b1 w0 ⟨st.env.set d p,st.boxes⟩ (a.put (some d) v) w ω τ where
 defers:=h.defers
 size:=by simp[Act.put,h.size]
 below:=h.below
 owned:=h.owned
 fixed:=h.fixed
 pinned:=h.pinned
 boxes:=h.boxes
 env:=by
  intro i q aw;rw[iL]at aw;rw[O9];by_cases ay:d=i
  ·subst ay;simp only[fZ]at aw;split at aw
   ·rename_i bk;have e:=e0 aw;subst e;exact⟨v,by rw[bb ⟨rfl,by rw[h.size];exact bk⟩],ad⟩
   cases aw
  rw[aZ ay]at aw;rw[aZ (by simp[ay])];exact h.env i q aw
theorem b1.A3{p:Nat->Bool}
  (h:b1 w0 st a w ω τ) (e:jD w ω τ aD aP ch g p) (n9:e8 w0 aD) (nj:k5 w0 aD aP) {bs:List (Nat×List aq)}
  (pi:∀id ls,cM id bs=some ls->qb aD aP ch id ls) (rW:∀id b,cy<=id->aP b=.box id->ω b=.box id) (qu:∀t,cy<=t->ch t=τ t:=by intros;rfl):b1 w0 ⟨st.env.map (az.map (aq.b3 g p)),bs⟩ a aD aP ch where
 defers:=h.defers
 size:=by simp[h.size]
 below:=n9
 owned:=nj
 fixed:=fun t bH=>(qu t bH).trans (h.fixed t bH)
 pinned:=fun id b hi ah=>h.pinned id b hi (rW id b hi ah)
 boxes:=pi
 env:=by
  intro i q aw;rw[dG,bF]at aw;obtain⟨mf,bX,rfl⟩:=aw;obtain⟨v,J,U⟩:=h.env i mf bX;exact⟨v,J,cd.map e.sat U⟩
theorem kQ(w:World)(o:Obj):(w.alloc o).heap[w.heap.size]?=some o:=by
 show (w.heap.push o)[_]?=_;simp
theorem sq(w:World)(o:Obj){i:Nat}(h:i<w.heap.size):(w.alloc o).heap[i]?=w.heap[i]?:=Below.heap_alloc w o i h
def mg(id:Nat):List (Nat×List aq)->List (Nat×List aq)
 | []=>[]
 | (i,ls)::r=>if i=id then mg id r else (i,ls)::mg id r
theorem DJ(id:Nat):∀bs,cM id (mg id bs)=none
 | []=>rfl
 | (i,ls)::r=>by
  simp only[mg];split
  ·exact DJ id r
  simp only[cM];rw[aZ ‹_›];exact DJ id r
theorem tW{id gu:Nat}(h:gu≠id):∀bs,cM gu (mg id bs)=cM gu bs
 | []=>rfl
 | (i,ls)::r=>by
  simp only[mg,cM];by_cases J:i=id
  ·rw[bb J,aZ (by omega)];exact tW h r
  rw[aZ J];simp only[cM];split
  ·rfl
  exact tW h r
def om:Tag->Option Tag:=some
def hL(id:Nat):Nat->Bool:=fun i=>decide (i≠id)
def aG.qD(st:aG)(id:Nat)(ls:List aq):aG:=
 let f:=aq.b3 om (hL id)
 ⟨st.env.map (az.map f),(id,ls.map f)::(mg id st.boxes).map fun x=>(x.1,x.2.map f)⟩
theorem b1.qD(h:b1 w0 st a w ω τ)(id:Nat)(fp:id<cy){ls:List aq}{arr:Array Value}(ty:TypeId)
  (ad:ia (Sat w ω τ) ls arr):
  ∃aP,b1 w0 (st.qD id ls) a (w.alloc (.cells arr ty)) aP τ/\aP w.heap.size=.box id:=by
 let aP:Own:=fun b=>if b=w.heap.size then .box id else match ω b with | .box i=>if i=id then .bc else .box i | o=>o
 have fc:aP w.heap.size=.box id:=by simp[aP]
 have hold:∀b,b<w.heap.size->aP b=(match ω b with | .box i=>if i=id then .bc else .box i | o=>o):=by
  intro b ah;simp only[aP];rw[aZ (by omega)]
 have gS:∀b,b≠w.heap.size->aP b=(match ω b with | .box i=>if i=id then .bc else .box i | o=>o):=by
  intro b ah;simp only[aP];rw[aZ ah]
 have aW:jD w ω τ (w.alloc (.cells arr ty)) aP τ om (hL id):=by
  refine⟨?_,?_,?_,rfl,fun _ _=>rfl⟩
  ·intro t c3 b q ag ah aw;simp only[om,aH]at ag;subst ag;refine⟨?_,sq _ _ ah⟩;rw[hold b ah];cases t with
   | free=>simp only[Tag.R]at aw ⊢;rw[aw]
   | own s=>simp only[Tag.R]at aw ⊢;rw[aw]
   | ro s=>
    simp only[Tag.R]at aw ⊢;rcases aw with aw | ⟨c5,aw⟩
    ·rw[aw];exact .inl rfl
    rw[aw];exact .inr ⟨c5,rfl⟩
  ·intro t c3 y ag a7;simp only[om,aH]at ag;subst ag;exact a7
  intro i b hp ah;have bk:=h.owned.lt (b:=b) (by simp[ah]);rw[hold b bk,ah];simp only[hL,cF]at hp;simp[hp]
 have n9:e8 w0 (w.alloc (.cells arr ty)):=h.below.next ((e9.refl _ _).alloc (fF _) _);have nj:k5 w0 (w.alloc (.cells arr ty)) aP:=by
  intro b ah;by_cases aR:b=w.heap.size
  ·subst aR;exact⟨.inl h.below.size,arr,ty,kQ _ _⟩
  rw[gS b aR]at ah;have U:ω b≠.bc:=by intro e;rw[e]at ah;exact ah rfl
  obtain⟨ax,bJ,nX,e⟩:=h.owned b U;exact⟨ax,bJ,nX,(sq _ _ (h.owned.lt U)).trans e⟩
 refine⟨aP,?_,fc⟩;refine h.A3 aW n9 nj ?_ (fun i b hi ah=>?_)
 case refine_2=>
  by_cases aR:b=w.heap.size
  ·subst aR;rw[fc]at ah;simp only[cx.box.injEq]at ah;omega
  rw[gS b aR]at ah;cases e:ω b with
  | bc=>simp[e]at ah
  | tok t q=>simp[e]at ah
  | box j=>
   simp only[e]at ah;split at ah
   ·cases ah
   exact ah
 intro i ej ak;simp only[cM]at ak;split at ak
 ·rename_i hi;subst hi;have e:=e0 ak;subst e;refine⟨w.heap.size,arr,ty,fc,?_,kQ _ _,ad.map aW.sat⟩;intro cH dv;by_cases aR:cH=w.heap.size
  ·exact aR
  rw[gS cH aR]at dv;cases e:ω cH with
  | bc=>simp[e]at dv
  | tok t q=>simp[e]at dv
  | box j=>
   simp only[e]at dv;split at dv
   ·cases dv
   rename_i cl;simp only[cx.box.injEq]at dv;exact absurd dv cl
 rename_i hi;rw[pR,bF]at ak;obtain⟨hn,bX,rfl⟩:=ak;have cl:i≠id:=fun e=>hi e.symm
 rw[tW cl]at bX;obtain⟨b,bJ,nX,ah,hu,bq,dJ⟩:=h.boxes i hn bX;have bk:=h.owned.lt (b:=b) (by simp[ah]);refine⟨b,bJ,nX,aW.box i b (by simp[hL,cl]) ah,?_,(sq _ _ bk).trans bq,dJ.map aW.sat⟩;intro cH dv;by_cases aR:cH=w.heap.size
 ·subst aR;rw[fc]at dv;simp only[cx.box.injEq]at dv;exact absurd dv.symm cl
 rw[gS cH aR]at dv;refine hu cH ?_;cases e:ω cH with
 | bc=>simp[e]at dv
 | tok t q=>simp[e]at dv
 | box j=>
  simp only[e]at dv;split at dv
  ·cases dv
  exact dv
end Go.Sx
namespace Go.Sx
open Go.RowKit
inductive b7 where
 | one (d:D)
 | agg (ds:List D)
inductive bd where
 | vals (rs:List b7)
 | gW (src:List (Option Nat)) (ds:List D)
abbrev bd.new (ds : List D) : bd := .gW [] ds
inductive fH where
 | normal
 | exit (id:Nat)
 | ret
inductive bI where
 | own
 | sub
 | oO (r6:List (List (Option (Option (List (List D)))))) (src:Nat) (ds:List D) (rs:List b7)
 | res (rs:List b7)
 | eI (r6:List (Option (List D))) (r:bd)
 | loop (yv:List (Nat×Nat×Nat)) (eF boxes:List Nat) (e:fH) (st:aG)
 | lP (b:Bool)
 | el (ds:List D)
 | wr
 | eq (c:Bool)
 | num (n:Int)
 | lr (p:az)
 | nU (st:aG)
def cn:List Prop->Prop
 | []=>True
 | p::r=>p/\cn r
theorem cn.append:∀{a b:List Prop},cn (a++b)->cn a/\cn b
 | [],_,h=>⟨aj,h⟩
 | _::_,_,h=>⟨⟨h.1,(cn.append h.2).1⟩,(cn.append h.2).2⟩
abbrev hR:=Option (az×List bI×List Prop)
def xK:Value->az
 | .agg cs=>.agg (cs.toList.map .v)
 | v=>.one (.v v)
def aG.aW(st:aG):Operand->az
 | .tmp t=>st.env.getD t .b5
 | .const v=>xK v
 | .func f=>.one (.fd (.da f []))
 | _=>.b5
theorem R4(w:World)(ω:Own)(τ:Nat->Nat×Value)(v:Value):cd (Sat w ω τ) (xK v) v:=by
 unfold xK;split
 ·rename_i cs;refine⟨cs,rfl,by simp,fun i l ak=>?_⟩;rw[dG,bF]at ak;obtain⟨u,hu,rfl⟩:=ak;exact⟨u,by simpa using hu,rfl⟩
 exact rfl
variable{w:World}{ω:Own}{τ:Nat->Nat×Value}
theorem b1.aW{w0:dC}{st:aG}{a:Act}(h:b1 w0 st a w ω τ)(x:Operand):cd (Sat w ω τ) (st.aW x) (a.eval x):=by
 cases x with
 | tmp t=>
  simp only[aG.aW,Act.eval];cases e:st.env[t]? with
  | none=>
   rw[jz,e];exact trivial
  | some p=>
   obtain⟨v,a8,ad⟩:=h.env t p e;rw[jz,e];simpa[dF,a8]using ad
 | const v=>exact R4 w ω τ v
 | global g=>exact trivial
 | func f=>exact bA.da _ f [] #[] (fun _=>undef) rfl (fun j d ay=>by simp at ay) (fun j d ay=>by simp at ay)
def aq.val:aq->Option Value
 | .v x=>some x
 | .bP c=>some (.bool c)
 | _=>none
variable{y:Value}
theorem aq.Nq{l:aq}{x:Value}(h:l.val=some x)(ad:Sat w ω τ l y):y=x:=by
 cases l<;>simp[aq.val]at h
 ·subst h;exact ad
 subst h;exact ad
def az.leaf:az->Option aq
 | .aN (.one l)=>some l
 | _=>none
theorem az.cW{S:aq->Value->Prop}{p:az}{l:aq}(h:p.leaf=some l)(ad:cd S p y):S l y:=by
 cases p with
 | fD as=>cases h
 | aN a=>
  cases a with
  | agg ls=>cases h
  | one ff=>simp only[az.leaf,aH]at h;subst h;exact ad
def az.int(p:az):Option (IntKind×Int):=
 match p.leaf with
 | some (.v (.int k n))=>some (k,n)
 | _=>none
variable{p:az}{k:IntKind}
theorem az.lm{n:Int}(h:p.int=some (k,n))(ad:cd (Sat w ω τ) p y):y=.int k n:=by
 unfold az.int at h;split at h
 ·rename_i bS Ri e;simp only[aH,a']at h;obtain⟨rfl,rfl⟩:=h;exact az.cW e ad
 cases h
def az.vals:az->Option (List Value)
 | .aN (.agg ls)=>ls.mapM aq.val
 | _=>none
theorem IH{w:World}{ω:Own}{τ:Nat->Nat×Value}:∀{ls:List aq} {xs:List Value},ls.mapM aq.val=some xs->∀{vs:List Value},vs.length=ls.length->(∀(i:Nat) (l:aq),ls[i]?=some l->∃u,vs[i]?=some u/\Sat w ω τ l u)->vs=xs
 | [],xs,h,vs,aR,_=>by
  simp at h;subst h;exact rm aR
 | l::ls,xs,h,vs,aR,ad=>by
  rw[uS]at h;cases e:l.val with
  | none=>simp[e]at h
  | some x=>
   cases aO:ls.mapM aq.val with
   | none=>simp[e,aO]at h
   | some ys=>
    simp[e,aO]at h;subst h;cases vs with
    | nil=>simp at aR
    | cons v vs=>
     obtain⟨u,hu,dJ⟩:=ad 0 l rfl;simp at hu;subst hu;rw[aq.Nq e dJ]
     congr 1
     exact IH aO (by simpa using aR) (fun i ff ak=>by have:=ad (i+1) ff (by simpa using ak);simpa using this)
theorem az.ad8{xs:List Value}(h:p.vals=some xs)(ad:cd (Sat w ω τ) p y):y=.agg xs.toArray:=by
 cases p with
 | fD as=>cases h
 | aN a=>
  cases a with
  | one l=>cases h
  | agg ls=>
   obtain⟨vs,rfl,aR,a8⟩:=ad;have:=IH (w:=w) (ω:=ω) (τ:=τ) h (vs:=vs.toList) (by simpa using aR) (fun i l ak=>by obtain⟨u,J,U⟩:=a8 i l ak;exact⟨u,by simpa using J,U⟩);rw[<-this]
def ap(k:IntKind)(e:Int):Prop:=
 match k with
 | .i64=>-9223372036854775808<=e/\e<=9223372036854775807
 | k=>k.wrap e=e
theorem ap.wrap{e:Int}(h:ap k e):k.wrap e=e:=by
 cases k<;>first | exact h | (simp only[ap]at h;rw[IntKind.wrap_i64];omega)
def arith(k:IntKind)(e:Int)(ans:List bI):hR:=
 match ans with
 | .wr::r=>some (.one (.v (.int k (k.wrap e))),r,[])
 | _=>some (.one (.v (.int k e)),ans,[ap k e])
variable{ans bN:List bI}{obs:List Prop}
theorem tX{e:Int}(h:arith k e ans=some (p,bN,obs))(aM:cn obs):cd (Sat w ω τ) p (.int k (k.wrap e)):=by
 unfold arith at h;split at h
 ·simp only[aH,a']at h;obtain⟨rfl,_,_⟩:=h;exact rfl
 simp only[aH,a']at h;obtain⟨rfl,_,rfl⟩:=h;rw[aM.1.wrap];exact rfl
def jN(P:Program)(op:BinOp)(t:TypeId)(x y:Operand)(u v c:Value):Prop:=
 ∀w:World,((do eqGuard op t x y u v;binOp op t u v:Sem Value)).run P w=.ok c w
def DK(op:BinOp)(k:IntKind)(x y:Int)(ans:List bI):hR:=
 match op with
 | .add=>arith k (x+y) ans
 | .sub=>arith k (x-y) ans
 | .mul=>arith k (x*y) ans
 | .quo=>(arith k (x.tdiv y) ans).map fun r=>(r.1,r.2.1,(y≠0)::r.2.2)
 | .rem=>some (.one (.v (.int k (x.tmod y))),ans,[y≠0])
 | .eql=>some (.one (.bP (x==y)),ans,[])
 | .neq=>some (.one (.bP (x != y)),ans,[])
 | .lss=>some (.one (.bP (decide (x<y))),ans,[])
 | .leq=>some (.one (.bP (decide (x<=y))),ans,[])
 | .gtr=>some (.one (.bP (decide (x>y))),ans,[])
 | .geq=>some (.one (.bP (decide (x>=y))),ans,[])
 | _=>none
variable{P:Program}{op:BinOp}
theorem R5{x y:Int}(t:TypeId)(Rq Rr:Operand)
  (h:DK op k x y ans=some (p,bN,obs)) (aM:cn obs):
  ∃v,((do eqGuard op t Rq Rr (.int k x) (.int k y);binOp op t (.int k x) (.int k y):Sem Value)).run P w=.ok v w/\cd (Sat w ω τ) p v:=by
 rw[eqGuard_at_int];simp only[Sem.run_bind,Sem.run_pure,Result.andThen_ok];cases op<;>simp only[DK,aH,a',reduceCtorEq]at h
 case add=>exact⟨_,by rw[binOp_add];rfl,tX h aM⟩
 case sub=>exact⟨_,by rw[binOp_sub];rfl,tX h aM⟩
 case mul=>exact⟨_,by rw[binOp_mul];rfl,tX h aM⟩
 case quo=>
  rw[bF]at h;obtain⟨⟨nC,b4,nz⟩,J,U⟩:=h;simp only[a']at U;obtain⟨rfl,rfl,rfl⟩:=U;refine⟨_,?_,tX J aM.2⟩;rw[binOp_quo];simp[Op.intDiv,aM.1]
 case rem=>
  obtain⟨rfl,_,rfl⟩:=h;refine⟨_,?_,rfl⟩;rw[binOp_rem];simp[Op.intDiv,aM.1]
 case eql=>obtain⟨rfl,_,rfl⟩:=h;exact⟨_,by rw[binOp_eql];rfl,rfl⟩
 case neq=>obtain⟨rfl,_,rfl⟩:=h;exact⟨_,by rw[binOp_neq];rfl,rfl⟩
 case lss=>obtain⟨rfl,_,rfl⟩:=h;exact⟨_,by rw[binOp_lss];rfl,rfl⟩
 case leq=>obtain⟨rfl,_,rfl⟩:=h;exact⟨_,by rw[binOp_leq];rfl,rfl⟩
 case gtr=>obtain⟨rfl,_,rfl⟩:=h;exact⟨_,by rw[binOp_gtr];rfl,rfl⟩
 case geq=>obtain⟨rfl,_,rfl⟩:=h;exact⟨_,by rw[binOp_geq];rfl,rfl⟩
def az.value(p:az):Option Value:=
 match p with
 | .aN (.one l)=>l.val
 | p=>p.vals.map fun xs=>.agg xs.toArray
theorem az.uJ{x:Value}(h:p.value=some x)(ad:cd (Sat w ω τ) p y):y=x:=by
 unfold az.value at h;split at h
 ·exact aq.Nq h ad
 rw[bF]at h;obtain⟨xs,J,rfl⟩:=h;exact az.ad8 J ad
def sr(P:Program)(t:TypeId):Option Bool:=
 match P.underlying t with
 | some (.struct _) | some (.array _ _)=>some true
 | some _=>some false
 | none=>none
variable{t:TypeId}
theorem tY{b:Bool}(h:sr P t=some b)(w:World):(isAgg t).run P w=.ok b w:=by
 unfold sr at h;unfold isAgg;split at h
 ·rename_i hu;simp only[aH]at h;subst h;simp[run_underlying hu]
 ·rename_i hu;simp only[aH]at h;subst h;simp[run_underlying hu]
 ·rename_i d J U hu;simp only[aH]at h;subst h;rw[Sem.run_bind,run_underlying hu];cases d<;>first | rfl | (exact absurd rfl (J _)) | (exact absurd rfl (U _ _))
 cases h
def yy(P:Program)(t:TypeId)(cs:Array Value)(off:Nat):Option Value:=
 match sr P t,P.info? t with
 | some true,some i=>some (.agg (cs.extract off (off+i.size)))
 | some false,_=>cs[off]?
 | _,_=>none
variable{v:Value}
theorem II{cs:Array Value}{off:Nat}(h:yy P t cs off=some v)(w:World):(part t cs off).run P w=.ok v w:=by
 unfold yy at h;split at h
 ·rename_i i aK aO;simp only[aH]at h;subst h;simp[part,tY aK,sizeOf,typeInfo,aO]
 ·rename_i aK;simp[part,tY aK,h]
 cases h
def u4(P:Program)(f:TypeId->Value->Value->Option Bool)(xs ys:Array Value):List Field->Option Bool
 | []=>some true
 | fd::r=>
  if fd.name = "_" then none else
  match yy P fd.type xs fd.offset,yy P fd.type ys fd.offset with
  | some a,some b=>
   match f fd.type a b with
   | some c=>
    match r with
    | []=>some c
    | r=>(u4 P f xs ys r).map fun hV=>c&&hV
   | none=>none
  | _,_=>none
def ta(P:Program):Nat->TypeId->Value->Value->Option Bool
 | 0,_,_,_=>none
 | m+1,t,x,y=>
  match P.underlying t,x,y with
  | some .bool,.bool a,.bool b=>some (a==b)
  | some (.int _),.int k a,.int bS b=>if k=bS then some (a==b) else none
  | some .string,.string a,.string b=>some (a.toList==b.toList)
  | some (.struct ec),.agg xs,.agg ys=>if P.stoodInHeld t then none else u4 P (ta P m) xs ys ec.toList
  | _,_,_=>none
theorem IJ{d:Nat}{f:TypeId->Value->Value->Option Bool}(bn:∀t x y c,f t x y=some c->∀w,(Op.equalIn d t x y).run P w=.ok c w){xs ys:Array Value}:
  ∀{ec:List Field} {c:Bool},u4 P f xs ys ec=some c->∀w,(Op.eqFields d xs ys ec).run P w=.ok c w
 | [],c,h,w=>by simp only[u4,aH]at h;subst h;simp[Op.eqFields]
 | fd::r,c,h,w=>by
  simp only[u4]at h;split at h
  ·cases h
  rename_i aR;split at h
  ·rename_i a b aK aO;split at h
   ·rename_i bK b2;simp only [Op.eqFields, bb (show fd.name ≠ "_" from aR), Sem.run_bind, II aK, II aO, Result.andThen_ok, bn _ _ _ _ b2, Sem.run_ite];split at h
    ·simp only[aH]at h;subst h;cases bK<;>simp[Op.eqFields]
    ·rw[bF]at h;obtain⟨cL,J,rfl⟩:=h;have:=IJ bn J w;cases bK<;>simp[this]
   cases h
  cases h
theorem IK:∀{m:Nat} {t:TypeId} {x y:Value} {c:Bool},ta P m t x y=some c->∀(d:Nat) (w:World),(Op.equalIn (d+m) t x y).run P w=.ok c w
 | 0,_,_,_,_,h,_,_=>by cases h
 | m+1,t,x,y,c,h,d,w=>by
  rw[show d+(m+1)=(d+m)+1 from rfl];simp only[ta]at h;split at h
  ·rename_i a b e;simp only[aH]at h;subst h;exact run_equalIn_bool w _ t a b e
  ·rename_i bS k a bM b e;split at h
   ·rename_i aT;subst aT;simp only[aH]at h;subst h;exact run_equalIn_int w _ t k bS a b e
   cases h
  ·rename_i a b e;simp only[aH]at h;subst h;exact run_equalIn_string w _ t a b e
  ·rename_i ec xs ys e;split at h
   ·cases h
   rename_i ad;have HB:P.fieldsOf t=ec:=by simp[Program.fieldsOf,e]
   rw[run_equalIn_struct w _ t xs ys (by rw[HB];exact e) (by simpa using ad),HB];exact IJ (fun t x y c h w=>IK h d w) h w
  cases h
def A2(P:Program)(op:BinOp)(t:TypeId)(u v:Value):Option Bool:=
 match op,u,v with
 | .eql,.agg xs,.agg ys=>if P.eqGuardType P.depth t then none else ta P 20 t (.agg xs) (.agg ys)
 | .neq,.agg xs,.agg ys=>if P.eqGuardType P.depth t then none else (ta P 20 t (.agg xs) (.agg ys)).map fun c=>!c
 | .eql,.bool a,.bool b=>match P.underlying t with | some .bool=>some (a==b) | _=>none
 | .neq,.bool a,.bool b=>match P.underlying t with | some .bool=>some (!(a==b)) | _=>none
 | .eql,.string a,.string b=>match P.underlying t with | some .string=>some (a.toList==b.toList) | _=>none
 | .neq,.string a,.string b=>match P.underlying t with | some .string=>some (!(a.toList==b.toList)) | _=>none
 | _,_,_=>none
theorem R6{x y:Operand}{u:Value}{c:Bool}(h:A2 P op t u v=some c):jN P op t x y u v (.bool c):=by
 intro w;have dW:∀{x y:Value} {c:Bool},ta P 20 t x y=some c->(Op.equalIn 10000 t x y).run P w=.ok c w:=fun h=>IK h 9980 w
 unfold A2 at h;split at h
 ·rename_i xs ys;split at h
  ·cases h
  rename_i ag;simp[run_eqGuard_agg w .eql t x y xs ys (by simpa using ag),run_eql_struct,dW h]
 ·rename_i xs ys;split at h
  ·cases h
  rename_i ag;rw[bF]at h;obtain⟨hV,J,rfl⟩:=h;simp[run_eqGuard_agg w .neq t x y xs ys (by simpa using ag),run_neq_struct,dW J]
 ·rename_i a b;split at h
  ·rename_i e;simp only[aH]at h;subst h;simp[eqGuard,binOp,run_equal_bool w t a b e]
  cases h
 ·rename_i a b;split at h
  ·rename_i e;simp only[aH]at h;subst h;simp[eqGuard,binOp,run_equal_bool w t a b e]
  cases h
 ·rename_i a b;split at h
  ·simp only[aH]at h;subst h;simp[eqGuard,binOp,Op.stringOp,beq_toListBytes]
  cases h
 ·rename_i a b;split at h
  ·simp only[aH]at h;subst h;simp[eqGuard,binOp,Op.stringOp,beq_toListBytes]
  cases h
 cases h
def DL(P:Program)(op:BinOp)(t:TypeId)(x y:Operand)(p q:az)(ans:List bI):hR:=
 match p.int,q.int with
 | some (k,a),some (bS,b)=>
  match (if k=bS then DK op k a b ans else none) with
  | some r=>some r
  | none=>
   match ans with
   | .lr (.aN (.one (.v c)))::r=>some (.one (.v c),r,[jN P op t x y (.int k a) (.int bS b) c])
   | _=>none
 | _,_=>
  match (match p.value,q.value with | some u,some v=>A2 P op t u v | _,_=>none) with
  | some c=>some (.one (.bP c),ans,[])
  | none=>
  match p.value,q.value,ans with
  | some u,some v,.eq c::r=>some (.one (.bP c),r,[jN P op t x y u v (.bool c)])
  | some u,some v,.lr (.aN (.one (.v c)))::r=>some (.one (.v c),r,[jN P op t x y u v c])
  | _,_,_=>none
theorem RE{x y:Operand}{q r:az}{u:Value}
  (hp:cd (Sat w ω τ) p u) (aw:cd (Sat w ω τ) q v) (h:DL P op t x y p q ans=some (r,bN,obs)) (aM:cn obs):
  ∃z,((do eqGuard op t x y u v;binOp op t u v:Sem Value)).run P w=.ok z w/\cd (Sat w ω τ) r z:=by
 unfold DL at h;split at h
 ·rename_i k a bS b aK aO;rw[az.lm aK hp,az.lm aO aw];split at h
  ·rename_i kc b2;simp only[aH]at h;subst h;split at b2
   ·rename_i aT;subst aT;exact R5 t x y b2 aM
   cases b2
  split at h
  ·rename_i c kc _;simp only[aH,a']at h;obtain⟨rfl,_,rfl⟩:=h;exact⟨_,aM.1 w,rfl⟩
  cases h
 split at h
 ·rename_i c b8;simp only[aH,a']at h;obtain⟨rfl,_,_⟩:=h;split at b8
  ·rename_i p6 my aK aO;rw[az.uJ aK hp,az.uJ aO aw];exact⟨_,R6 b8 w,rfl⟩
  cases b8
 split at h
 ·rename_i p6 my c kc aK aO;simp only[aH,a']at h;obtain⟨rfl,_,rfl⟩:=h;rw[az.uJ aK hp,az.uJ aO aw];exact⟨_,aM.1 w,rfl⟩
 ·rename_i p6 my c kc aK aO;simp only[aH,a']at h;obtain⟨rfl,_,rfl⟩:=h;rw[az.uJ aK hp,az.uJ aO aw];exact⟨_,aM.1 w,rfl⟩
 cases h
end Go.Sx
namespace Go.Sx
open Go.RowKit
def Tag.zX:Tag->Tag
 | .free=>.free
 | .own t=>.ro t
 | .ro t=>.ro t
theorem Tag.FQ{t:Tag}{q c5:List (Nat×Nat)}{o:cx}(h:t.R q o):t.zX.R c5 o:=by
 cases t with
 | free=>exact h
 | own s=>exact .inr ⟨q,h⟩
 | ro s=>exact h
variable{τ:Nat->Nat×Value}
theorem Tag.FR{t:Tag}{y:Nat×Value}:t.zX.de τ y:=by cases t<;>exact trivial
def D.leaf(t:Tag):D->aq
 | .v (.bool c)=>.bP c
 | .v x=>.v x
 | .aa k es=>.aa t.zX k es
 | .ptr ds=>match t with | .free=>.gZ ds 0 | _=>.b5
 | .da g cD=>match t with | .free=>.fd (.da g cD) | _=>.b5
variable{w:World}{ω:Own}
theorem D.cW{τ:Nat->Nat×Value}{t:Tag}{p:Nat×Nat}{d:D}{u:Value}(h:bA w ω (fun q=>t.R (p::q)) d u):Sat w ω τ (d.leaf t) u:=by
 cases d with
 | v x=>
  have e:u=x:=by cases h;rfl
  subst e;unfold D.leaf;split
  ·rename_i h;cases h;exact rfl
  ·rename_i h;cases h;exact rfl
  ·grind
  ·grind
  grind
 | aa k es=>exact⟨h.frame fun b q ah aw=>⟨Tag.FQ aw,rfl⟩,Tag.FR⟩
 | ptr ds=>
  cases t with
  | free=>
   have U:bA w ω Tag.free.R (.ptr ds) u:=h;have ax:=U;cases ax with
   | ptr R ds b arr ty cj us ah c6 ad hu ay=>exact⟨b,rfl,U⟩
  | own s=>exact trivial
  | ro s=>exact trivial
 | da g cD=>
  cases t with
  | free=>exact h
  | own s=>exact trivial
  | ro s=>exact trivial
def D.Ir(t i j:Nat):D->aq
 | .aa k es=>.bE t i j k es .here
 | d=>d.leaf (.own t)
def qP(t i:Nat):Nat->List D->List aq
 | _,[]=>[]
 | j,d::ds=>d.Ir t i j::qP t i (j+1) ds
theorem IL(t i:Nat):∀(ds:List D) (j x:Nat),(qP t i j ds)[x]?=(ds[x]?).map (D.Ir t i (j+x))
 | [],_,_=>by simp[qP]
 | d::ds,j,0=>by simp[qP]
 | d::ds,j,x+1=>by
  simp only[qP,lK,IL t i ds (j+1) x];rw[show j+1+x=j+(x+1) by omega]
theorem IM(t i:Nat):∀(ds:List D) (j:Nat),(qP t i j ds).length=ds.length
 | [],_=>rfl
 | d::ds,j=>by simp[qP,IM t i ds (j+1)]
def DM(P:Program)(s:TypeId)(f:Nat):Option Nat:=
 match P.underlying s with
 | some (.struct ec)=>
  match ec[f]? with
  | some fd=>
   match P.info? fd.type with
   | some i=>if i.size=0 then none else some fd.offset
   | none=>none
  | none=>none
 | _=>none
theorem nO(b off n:Nat):(⟨b,off,none⟩:Addr).add n=⟨b,off+n,none⟩:=by
 simp_all[Addr.add]
variable{P:Program}{off:Nat}
theorem yB{s:TypeId}{f:Nat}(h:DM P s f=some off)(w:World)(b o:Nat):
  (Instr.fieldAt s (.pointer (some ⟨b,o,none⟩)) f).run P w=.ok (.pointer (some ⟨b,o+off,none⟩)) w:=by
 unfold DM at h;split at h
 ·rename_i ec hu;split at h
  ·rename_i fd bn;split at h
   ·rename_i i hi;split at h
    ·cases h
    rename_i aL;simp only[aH]at h;subst h;simp[Instr.fieldAt,run_underlying hu,bn,Instr.sureAddr,fieldPlace,sizeOf,typeInfo,hi,aL,nO]
   cases h
  cases h
 cases h
def DN(P:Program)(s:TypeId)(p:az)(f:Nat)(ans:List bI):hR:=
 match DM P s f,p.leaf with
 | some off,some (.ptr id o)=>some (.one (.ptr id (o+off)),ans,[])
 | some off,some (.ep t k es i j)=>some (.one (.ep t k es i (j+off)),ans,[])
 | some off,some (.gZ ds o)=>some (.one (.gZ ds (o+off)),ans,[])
 | some off,some (.bE t i j k es (.at_ x y))=>some (.one (.bE t i j k es (.at_ x (y+off))),ans,[])
 | _,_=>none
variable{p r:az}{v:Value}{ans bN:List bI}{obs:List Prop}
theorem RF{s:TypeId}{f:Nat}
  (hp:cd (Sat w ω τ) p v) (h:DN P s p f ans=some (r,bN,obs)):
  ∃z,(Instr.fieldAt s v f).run P w=.ok z w/\cd (Sat w ω τ) r z:=by
 unfold DN at h;split at h
 ·rename_i off id o aK aO;simp only[aH,a']at h;obtain⟨rfl,_,rfl⟩:=h;obtain⟨b,ah,rfl⟩:=az.cW aO hp;exact⟨_,yB aK w b o,b,ah,rfl⟩
 ·rename_i off t k es i j aK aO;simp only[aH,a']at h;obtain⟨rfl,_,rfl⟩:=h;obtain⟨b,o,cap,rfl,hi,ar,bq⟩:=az.cW aO hp;exact⟨_,yB aK w b _,b,o,cap,by grind,hi,ar,bq⟩
 ·rename_i off ds o aK aO;simp only[aH,a']at h;obtain⟨rfl,_,rfl⟩:=h;obtain⟨b,rfl,ar⟩:=az.cW aO hp;exact⟨_,yB aK w b o,b,rfl,ar⟩
 ·rename_i off t i j k es x y aK aO;simp only[aH,a']at h;obtain⟨rfl,_,rfl⟩:=h;obtain⟨u,⟨b,o,cap,rfl,rfl,ae⟩,ar,hm⟩:=az.cW aO hp;exact⟨_,yB aK w b _,_,⟨b,o,cap,rfl,by grind,ae⟩,ar,fun _=>hm rfl⟩
 cases h
def nP(P:Program)(t:TypeId):Option (TypeId×Nat):=
 match P.underlying t with
 | some (.slice e)=>(P.info? e).map fun i=>(e,i.size)
 | _=>none
variable{t:TypeId}
theorem ss{e:TypeId}{k:Nat}(h:nP P t=some (e,k)):P.underlying t=some (.slice e)/\∃i,P.info? e=some i/\i.size=k:=by
 unfold nP at h;split at h
 ·rename_i e' hu;rw[bF]at h;grind
 cases h
def aq.flat:aq->aq
 | .dL _ k es=>.aa .free k es
 | l=>l
def az.iG(p:az):Option aq:=p.leaf.map aq.flat
variable{y:Value}{l:aq}
theorem az.r1(h:p.iG=some l)(ad:cd (Sat w ω τ) p y):Sat w ω τ l y:=by
 unfold az.iG at h;rw[bF]at h;obtain⟨fO,bX,rfl⟩:=h;have:=az.cW bX ad;unfold aq.flat;split
 ·exact⟨this.1,aj⟩
 exact this
def DO(P:Program)(t:TypeId)(p q:az)(ans:List bI):hR:=
 match nP P t,p.iG,q.int with
 | some (_,k),some (.aa tag bS es),some (_,n)=>if k=bS then some (.one (.ep tag bS es n.toNat 0),ans,[0<=n,n<(es.length:Int)]) else none
 | some (_,k),some (.bE s i j bS es .here),some (_,n)=>if k=bS then some (.one (.bE s i j bS es (.at_ n.toNat 0)),ans,[0<=n,n<(es.length:Int)]) else none
 | _,_,_=>none
theorem RG{q:az}{u:Value}
  (hp:cd (Sat w ω τ) p u) (aw:cd (Sat w ω τ) q v) (h:DO P t p q ans=some (r,bN,obs)) (aM:cn obs):
  ∃z,(Instr.indexAt t u v).run P w=.ok z w/\cd (Sat w ω τ) r z:=by
 unfold DO at h;split at h
 ·rename_i e k tag bS es vV n aK aO b2;split at h
  ·rename_i aT;subst aT;simp only[aH,a']at h;obtain⟨rfl,_,rfl⟩:=h;obtain⟨hu,i,hi,aL⟩:=ss aK;obtain⟨ar,bq⟩:=az.r1 aO hp;rw[az.lm b2 aw];have bX:0<=n:=aM.1;have J:n<(es.length:Int):=aM.2.1;cases ar with
   | nil=>grind
   | row R k es b off cap arr ty cj us ah c6 ai ad aT hG ay=>
    refine⟨.pointer (some ⟨b,off+n.toNat*k+0,none⟩),?_,b,off,cap,rfl,by omega,.row _ k es b off cap arr ty cj us ah c6 ai ad aT hG ay,bq⟩;simp[Instr.indexAt,run_underlying hu,asIntOf,bX,J,sizeOf,typeInfo,hi,aL,nO]
  cases h
 ·rename_i e k s wY wZ bS es vV n aK aO b2;split at h
  ·rename_i aT;subst aT;simp only[aH,a']at h;obtain⟨rfl,_,rfl⟩:=h;obtain⟨hu,i,hi,aL⟩:=ss aK;obtain⟨gC,rfl,ar,hm⟩:=az.r1 aO hp;rw[az.lm b2 aw];have bX:0<=n:=aM.1;have J:n<(es.length:Int):=aM.2.1;cases ar with
   | nil=>grind
   | row R k es b off cap arr ty cj us ah c6 ai ad aT hG ay=>
    refine⟨.pointer (some ⟨b,off+n.toNat*k+0,none⟩),?_,_,⟨b,off,cap,rfl,rfl,by omega⟩,.row _ k es b off cap arr ty cj us ah c6 ai ad aT hG ay,hm⟩;simp[Instr.indexAt,run_underlying hu,asIntOf,bX,J,sizeOf,typeInfo,hi,aL,nO]
  cases h
 cases h
theorem RH{P:Program}{b n:Nat}{arr:Array Value}{ty:TypeId}{cj:Nat×Nat}(ah:w.heap[b]?=some (.cells arr ty cj))(aR:off+n<=arr.size):
  (loadCells ⟨b,off,none⟩ n).run P w=.ok (arr.extract off (off+n)) w:=by
 have ak:((arr.extract off (off+n)).toList).length=n:=by simp;omega
 have:=run_loadCells_list (P:=P) w ⟨b,off,none⟩ (arr.extract off (off+n)).toList (fun j v a8=>by
  rw[nO,cell_of_row w b (off+j) arr ty cj ah];grind)
 rw[ak,Array.toArray_toList]at this;exact this
def ox(agg:Bool)(n:Nat)(ls:List aq)(off:Nat):Option az:=
 if agg then (if off+n<=ls.length then some (.agg ((ls.drop off).take n)) else none)
 else (ls[off]?).map fun l=>.one l
theorem tZ{P:Program}{ω:Own}{τ:Nat->Nat×Value}{agg:Bool}{i:TypeInfo}{ls:List aq}(aC:sr P t=some agg)(hi:P.info? t=some i)
  (h:ox agg i.size ls off=some p) {b base:Nat} {arr:Array Value} {ty:TypeId} {cj:Nat×Nat} (ah:w.heap[b]?=some (.cells arr ty cj)) (dN:base+ls.length<=arr.size)
  (ad:∀(j:Nat) (l:aq),ls[j]?=some l->∃u,arr[base+j]?=some u/\Sat w ω τ l u):
  ∃z,(loadVar t ⟨b,base+off,none⟩).run P w=.ok z w/\cd (Sat w ω τ) p z:=by
 unfold ox at h;cases agg with
 | true=>
  simp only[fZ]at h;split at h
  ·rename_i hle;simp only[aH]at h;subst h;refine⟨.agg (arr.extract (base+off) (base+off+i.size)),?_,?_⟩
   ·simp[loadVar,tY aC,sizeOf,typeInfo,hi,RH (P:=P) ah (show base+off+i.size<=arr.size by omega)]
   refine⟨_,rfl,by simp;omega,fun j l ak=>?_⟩;grind
  cases h
 | false=>
  simp only[oT,mF,bF]at h;obtain⟨l,ak,rfl⟩:=h;obtain⟨u,J,U⟩:=ad _ l ak;refine⟨u,?_,U⟩;simp[loadVar,tY aC,cell_of_row w b (base+off) arr ty cj ah,J]
def yC(P:Program)(st:aG)(t:TypeId)(p:az)(ans:List bI):hR:=
 match sr P t,P.info? t,p.leaf with
 | some agg,some i,some (.ptr id off)=>
  match cM id st.boxes with
  | some ls=>(ox agg i.size ls off).map fun r=>(r,ans,[])
  | none=>none
 | some agg,some i,some (.ep tag k es x j)=>
  match ans with
  | .el ds::r=>if ds.length=k then (ox agg i.size (ds.map (D.leaf tag)) j).map fun v=>(v,r,[es[x]?=some ds]) else none
  | .sub::.el ds::r=>
   match tag with
   | .own t=>if ds.length=k then (ox agg i.size (qP t x 0 ds) j).map fun v=>(v,r,[es[x]?=some ds]) else none
   | _=>none
  | _=>none
 | some agg,some i,some (.gZ ds off)=>(ox agg i.size (ds.map (D.leaf .free)) off).map fun r=>(r,ans,[])
 | some agg,some i,some (.bE s _ _ k es (.at_ x y))=>
  match ans with
  | .el ds::r=>if ds.length=k then (ox agg i.size (ds.map (D.leaf (.ro s))) y).map fun v=>(v,r,[es[x]?=some ds]) else none
  | _=>none
 | _,_,_=>none
variable{w0:dC}{a:Act}{st:aG}
theorem RI
  (aI:b1 w0 st a w ω τ) (hp:cd (Sat w ω τ) p v) (h:yC P st t p ans=some (r,bN,obs)) (aM:cn obs):
  ∃z,(Instr.loadAt t v).run P w=.ok z w/\cd (Sat w ω τ) r z:=by
 unfold yC at h;split at h
 ·rename_i agg i id off aK aO b2;split at h
  ·rename_i ls cA;rw[bF]at h;obtain⟨kc,J,h⟩:=h;simp only[a']at h;obtain⟨rfl,rfl,rfl⟩:=h;obtain⟨b,ah,rfl⟩:=az.cW b2 hp;obtain⟨cH,arr,ty,dv,yg,BL,dN,dJ⟩:=aI.boxes id ls cA;have:=yg b ah;subst this;have:=tZ (P:=P) aK aO J BL (base:=0) (by omega) (fun j l ak=>by simpa using dJ j l ak);grind[Instr.loadAt,Instr.sureAddr]
  cases h
 ·rename_i agg i tag k es x j aK aO b2;split at h
  ·rename_i ds fP;split at h
   ·rename_i hlen;rw[bF]at h;obtain⟨kc,J,h⟩:=h;simp only[a']at h;obtain⟨rfl,rfl,rfl⟩:=h;have dM:es[x]?=some ds:=aM.1;obtain⟨b,off,cap,rfl,hi,ar,bq⟩:=az.cW b2 hp;cases ar with
    | nil=>simp at hi
    | row R k es b off cap arr ty cj us ah c6 ai ad aT hu ay=>
     have HG:x*k+k<=cap*k:=by
      have:(x+1)*k<=cap*k:=gk k (by omega);grind
     have:=tZ (P:=P) (τ:=τ) (ω:=ω) aK aO J ah (base:=off+x*k) (by grind) (fun hk l ak=>by
      rw[dG,bF]at ak;obtain⟨d,U,rfl⟩:=ak;have ai:cq es x hk=some d:=by grind[cq]
      exact⟨us x hk,hu x hk d ai,D.cW (ay x hk d ai)⟩)
     grind[Instr.loadAt,Instr.sureAddr]
   cases h
  ·rename_i ds fP;split at h
   ·rename_i t;split at h
    ·rename_i hlen;rw[bF]at h;obtain⟨kc,J,h⟩:=h;simp only[a']at h;obtain⟨rfl,rfl,rfl⟩:=h;have dM:es[x]?=some ds:=aM.1;obtain⟨b,off,cap,rfl,hi,ar,bq⟩:=az.cW b2 hp;cases ar with
     | nil=>simp at hi
     | row R k es b off cap arr ty cj us ah c6 ai ad aT hu ay=>
      have HG:x*k+k<=cap*k:=by
       have:(x+1)*k<=cap*k:=gk k (by omega);grind
      have:=tZ (P:=P) (τ:=τ) (ω:=ω) aK aO J ah (base:=off+x*k) (by grind[IM]) (fun hk l ak=>by
       rw[IL,bF]at ak;obtain⟨d,U,rfl⟩:=ak;rw[cP];have ai:cq es x hk=some d:=by grind[cq]
       have x2:=ay x hk d ai;refine⟨us x hk,hu x hk d ai,?_⟩;cases d with
       | aa bM bm=>exact⟨_,rfl,x2,fun _=>⟨k,b,off,es.length,cap,arr,ty,cj,bq,c6,ah,hu x hk _ ai⟩⟩
       | v z=>exact D.cW (t:=.own t) (p:=(x,hk)) x2
       | ptr ds=>exact D.cW (t:=.own t) (p:=(x,hk)) x2
       | da g cs=>exact D.cW (t:=.own t) (p:=(x,hk)) x2)
      grind[Instr.loadAt,Instr.sureAddr]
    cases h
   cases h
  cases h
 ·rename_i agg i ds off aK aO b2;rw[bF]at h;obtain⟨kc,J,h⟩:=h;simp only[a']at h;obtain⟨rfl,rfl,rfl⟩:=h;obtain⟨b,rfl,ar⟩:=az.cW b2 hp;have dA:bA w ω Tag.free.R (.ptr ds) (.pointer (some ⟨b,0,none⟩)):=ar;cases dA with
  | ptr R ds b arr ty cj us ah c6 ad hu ay=>
   have:=tZ (P:=P) (τ:=τ) (ω:=ω) aK aO J ah (base:=0) (by simp;omega) (fun hk l ak=>by
    rw[dG,bF]at ak;obtain⟨d,U,rfl⟩:=ak;exact⟨us hk,by grind,D.cW (p:=(0,hk)) (ay hk d U)⟩)
   grind[Instr.loadAt,Instr.sureAddr]
 ·rename_i agg i s wY wZ k es x y aK aO b2;split at h
  ·rename_i ds fP;split at h
   ·rename_i hlen;rw[bF]at h;obtain⟨kc,J,h⟩:=h;simp only[a']at h;obtain⟨rfl,rfl,rfl⟩:=h;have dM:es[x]?=some ds:=aM.1;obtain⟨gC,⟨b,off,cap,rfl,rfl,hi⟩,ar,hm⟩:=az.cW b2 hp;cases ar with
    | nil=>simp at hi
    | row R k es b off cap arr ty cj us ah c6 ai ad aT hu ay=>
     have HG:x*k+k<=cap*k:=by
      have:(x+1)*k<=cap*k:=gk k (by omega);grind
     have:=tZ (P:=P) (τ:=τ) (ω:=ω) aK aO J ah (base:=off+x*k) (by grind) (fun hk l ak=>by
      rw[dG,bF]at ak;obtain⟨d,U,rfl⟩:=ak;have ai:cq es x hk=some d:=by grind[cq]
      refine⟨us x hk,hu x hk d ai,D.cW (t:=.ro s) (p:=(x,hk)) ((ay x hk d ai).frame fun b q _ aw=>⟨.inr ⟨_,aw⟩,rfl⟩)⟩)
     grind[Instr.loadAt,Instr.sureAddr]
   cases h
  cases h
 cases h
def DP(P:Program)(t:TypeId)(p:az)(ans:List bI):hR:=
 match P.underlying t,p.iG with
 | some (.slice _),some (.aa _ _ es)=>some (.one (.v (.int .i64 es.length)),ans,[])
 | some (.slice _),some (.v (.slice _ n _))=>some (.one (.v (.int .i64 n)),ans,[])
 | some (.slice _),some (.bE _ _ _ _ es .here)=>some (.one (.v (.int .i64 es.length)),ans,[])
 | some (.slice _),some (.bE _ _ _ _ es .jF)=>some (.one (.v (.int .i64 es.length)),ans,[])
 | some .string,some (.v (.string s))=>some (.one (.v (.int .i64 s.size)),ans,[])
 | _,_=>none
theorem bA.len{R:List (Nat×Nat)->cx->Prop}{k:Nat}{es:List (List D)}(h:bA w ω R (.aa k es) y):∃b c,y=.slice b es.length c:=by
 cases h with
 | nil=>simp_all
 | row R k es b off cap arr ty cj us ah c6 ai ad aT hu ay=>grind
theorem RJ{ty:TypeId}
  (hp:cd (Sat w ω τ) p v) (h:DP P t p ans=some (r,bN,obs)):
  ∃z,(Builtin.len_ #[t] ty #[v]).run P w=.ok z w/\cd (Sat w ω τ) r z:=by
 unfold DP at h;split at h
 ·rename_i e af6 k es aK aO;simp only[aH,a']at h;obtain⟨rfl,_,rfl⟩:=h;obtain⟨ar,_⟩:=az.r1 aO hp;obtain⟨b,c,rfl⟩:=ar.len;exact⟨_,by simp[Builtin.len_,run_underlying aK];rfl,rfl⟩
 ·rename_i e b n c aK aO;simp only[aH,a']at h;obtain⟨rfl,_,rfl⟩:=h;have:v=.slice b n c:=az.r1 aO hp;subst this;exact⟨_,by simp[Builtin.len_,run_underlying aK];rfl,rfl⟩
 ·rename_i e s wY wZ k es aK aO;simp only[aH,a']at h;obtain⟨rfl,_,rfl⟩:=h;obtain⟨gC,rfl,ar,_⟩:=az.r1 aO hp;obtain⟨b,c,rfl⟩:=ar.len;exact⟨_,by simp[Builtin.len_,run_underlying aK];rfl,rfl⟩
 ·rename_i e s wY wZ k es aK aO;simp only[aH,a']at h;obtain⟨rfl,_,rfl⟩:=h;obtain⟨gC,rfl,ar,_⟩:=az.r1 aO hp;obtain⟨b,c,rfl⟩:=ar.len;exact⟨_,by simp[Builtin.len_,run_underlying aK];rfl,rfl⟩
 ·rename_i s aK aO;simp only[aH,a']at h;obtain⟨rfl,_,rfl⟩:=h;have:v=.string s:=az.r1 aO hp;subst this;exact⟨_,by simp[Builtin.len_,run_underlying aK];rfl,rfl⟩
 cases h
theorem Jo{es:List (List D)}{l n i j:Nat}{d:D}(h:cq ((es.drop l).take n) i j=some d):i<n/\cq es (l+i) j=some d:=by
 grind[cq]
theorem bA.sub{R gR:List (Nat×Nat)->cx->Prop}{k:Nat}{es:List (List D)}{b cap:Nat}(h:bA w ω R (.aa k es) (.slice (some ⟨b,off,none⟩) es.length cap))
  {l m:Nat} (ak:l<=m) (hm:m<=es.length) (xV:∀o,R [] o->gR [] o) (ae7:∀i j q o,l<=i->R ((i,j)::q) o->gR ((i-l,j)::q) o):
  bA w ω gR (.aa k ((es.drop l).take (m-l))) (sliced (some ⟨b,off,none⟩) l m cap k):=by
 cases h with
 | nil=>
  grind[sliced,bA.nil]
 | row R k es b off cap arr ty cj us ah c6 ai ad aT hu ay=>
  have hlen:((es.drop l).take (m-l)).length=m-l:=by simp;omega
  have hmul:l*k+(cap-l)*k=cap*k:=by rw[<-fG];grind
  have key:∀nz:Nat,(cap=l\/nz=off+l*k)->nz+(cap-l)*k<=arr.size->
    bA w ω gR (.aa k ((es.drop l).take (m-l))) (.slice (some ⟨b,nz,none⟩) (m-l) (cap-l)):=by
   intro nz aM dN;have aL:cap=l->m-l=0:=fun e=>by omega
   have ar:=bA.row (w:=w) (ω:=ω) gR k ((es.drop l).take (m-l)) b nz (cap-l) arr ty cj (fun i j=>us (l+i) j) ah (xV _ c6) (by omega) dN
    (fun e he=>aT e (Ay (xq he)))
    (fun i j d rQ=>by
     obtain⟨hi,Hr⟩:=Jo rQ;grind)
    (fun i j d rQ=>by
     obtain⟨hi,Hr⟩:=Jo rQ;refine (ay (l+i) j d Hr).frame fun b q _ aw=>⟨?_,rfl⟩
     grind)
   grind
  unfold sliced;split
  ·grind
  simp only[oU,nO];grind
def aq.view:aq->aq
 | .bE t _ _ k es .here=>.aa (.ro t) k es
 | .bE t _ _ k es .jF=>.aa (.ro t) k es
 | .dL _ k es=>.aa .free k es
 | l=>l
theorem aq.FW(ad:Sat w ω τ l y):Sat w ω τ l.view y:=by
 unfold aq.view;split
 ·obtain⟨gC,rfl,ar,_⟩:=ad;exact⟨ar.frame fun b q _ aw=>⟨.inr ⟨_,aw⟩,rfl⟩,aj⟩
 ·obtain⟨gC,rfl,ar,_⟩:=ad;exact⟨ar.frame fun b q _ aw=>⟨.inr ⟨_,aw⟩,rfl⟩,aj⟩
 ·exact⟨ad.1,aj⟩
 exact ad
theorem az.FW(h:p.leaf.map aq.view=some l)(ad:cd (Sat w ω τ) p y):Sat w ω τ l y:=by
 rw[bF]at h;obtain⟨fO,bX,rfl⟩:=h;grind[aq.FW,az.cW]
def jO(st:aG):Option Operand->Option (Option Int)
 | none=>some none
 | some x=>((st.aW x).int).map fun p=>some p.2
def yD(P:Program)(st:aG)(t:TypeId)(p:az)(cp hi gV:Option Operand)(ans:List bI):hR:=
 match nP P t,p.leaf.map aq.view,gV with
 | some (_,k),some (.aa tag bS es),none=>
  if k=bS then
   match jO st cp,jO st hi with
   | some l,some h=>some (.one (.aa tag.zX k ((es.drop (l.getD 0).toNat).take ((h.getD es.length).toNat-(l.getD 0).toNat))),ans,[0<=l.getD 0,l.getD 0<=h.getD es.length,h.getD es.length<=es.length])
   | _,_=>none
  else none
 | _,_,_=>none
theorem wP{len cap:Nat}{cp hi:Option Value}{l h:Int}(ak:cp=none/\l=0\/∃k,cp=some (.int k l))(bq:hi=none/\h=len\/∃k,hi=some (.int k h))
  (bX:0<=l) (J:l<=h) (U:h<=cap):(Instr.sliceBounds true len cap cp hi none).run P w=.ok (l.toNat,h.toNat,cap) w:=by
 have aeU:(h.toNat:Int)=h:=Int.toNat_of_nonneg (by omega);have ax:0<=h:=by omega
 rcases ak with⟨rfl,rfl⟩ | ⟨k,rfl⟩<;>rcases bq with⟨rfl,rfl⟩ | ⟨bS,rfl⟩<;>
  simp_all[Instr.sliceBounds,run_sliceBound]
theorem wQ(aI:b1 w0 st a w ω τ){x:Option Operand}{r:Option Int}(h:jO st x=some r):
  (x.map a.eval=none/\r=none)\/∃k n,x.map a.eval=some (.int k n)/\r=some n:=by
 cases x with
 | none=>simp_all[jO]
 | some x=>
  simp only[jO,bF]at h;obtain⟨⟨k,n⟩,J,U⟩:=h;exact .inr ⟨k,n,by simp[az.lm J (aI.aW x)],U.symm⟩
theorem RK{cp hi gV:Option Operand}
  (aI:b1 w0 st a w ω τ) (hp:cd (Sat w ω τ) p v) (h:yD P st t p cp hi gV ans=some (r,bN,obs)) (aM:cn obs):
  ∃z,(Instr.sliceAt t v (cp.map a.eval) (hi.map a.eval) (gV.map a.eval)).run P w=.ok z w/\cd (Sat w ω τ) r z:=by
 unfold yD at h;split at h
 ·rename_i e k tag bS es aK aO;split at h
  ·rename_i aT;subst aT;split at h
   ·rename_i l bq b2 eY;simp only[aH,a']at h;obtain⟨rfl,_,rfl⟩:=h;obtain⟨hu,i,kD,aL⟩:=ss aK;obtain⟨ar,_⟩:=az.FW aO hp;obtain⟨cu,cc,c7,_⟩:=aM;have ax:=wQ aI b2;have aJ:=wQ aI eY;have na:(cp.map a.eval=none/\l.getD 0=0)\/∃k,cp.map a.eval=some (.int k (l.getD 0)):=by
     grind
    have ps:(hi.map a.eval=none/\bq.getD es.length=es.length)\/∃k,hi.map a.eval=some (.int k (bq.getD es.length)):=by
     grind
    cases ar with
    | nil _ _ a0=>
     simp only[bG] at*;have b8:l.getD 0=0:=by omega
     have OX:bq.getD ((0:Nat):Int)=0:=by omega
     refine⟨.slice a0 0 0,?_,?_⟩
     ·simp only[Instr.sliceAt,Sem.run_bind,run_underlying hu,Result.andThen_ok,Instr.slice,Option.map_none];rw[wP na ps cu cc c7];simp_all[sizeOf,typeInfo]
     refine⟨?_,Tag.FR⟩;simp only[List.drop_nil,List.take_nil];exact .nil _ _ _
    | row R k es b off cap arr ty cj us ah c6 ai ad aT hG ay=>
     refine⟨sliced (some ⟨b,off,none⟩) (l.getD 0).toNat (bq.getD es.length).toNat cap k,?_,?_,Tag.FR⟩
     ·simp only[Instr.sliceAt,Sem.run_bind,run_underlying hu,Result.andThen_ok,Instr.slice,Option.map_none];rw[wP na ps cu cc (by omega)];simp_all[sizeOf,typeInfo,sliced]
     exact bA.sub (.row _ k es b off cap arr ty cj us ah c6 ai ad aT hG ay) (by omega) (by omega) (fun o h=>Tag.FQ h) (fun i j q o _ h=>Tag.FQ h)
   cases h
  cases h
 cases h
end Go.Sx
namespace Go.Sx
open Go.RowKit
def aq.ok:aq->Bool
 | .b5=>false
 | .v x=>x.oneCell'
 | _=>true
variable{w:World}{ω:Own}{y:Value}
theorem bA.me{R:List (Nat×Nat)->cx->Prop}{d:D}(h:bA w ω R d y):y.oneCell'=true:=by
 cases h with
 | v R x J=>exact J
 | nil=>rfl
 | row=>rfl
 | ptr=>rfl
 | da=>rfl
variable{τ:Nat->Nat×Value}
theorem aq.IB{l:aq}(h:l.ok=true)(ad:Sat w ω τ l y):y.oneCell'=true:=by
 cases l with
 | b5=>cases h
 | v x=>have:y=x:=ad;subst this;exact h
 | bP c=>have:y=.bool c:=ad;subst this;rfl
 | aa t k es=>exact ad.1.me
 | ptr id off=>obtain⟨b,_,rfl⟩:=ad;rfl
 | ep t k es i j=>obtain⟨b,off,cap,rfl,_⟩:=ad;rfl
 | gZ ds off=>obtain⟨b,rfl,_⟩:=ad;rfl
 | fd d=>exact bA.me ad
 | dL t k es=>exact ad.1.me
 | eL g ids=>obtain⟨bs,rfl,_⟩:=ad;rfl
 | bE t i j k es m=>
  obtain⟨u,hu,ar,_⟩:=ad;cases m with
  | at_ x y=>obtain⟨b,off,cap,_,rfl,_⟩:=hu;rfl
  | here=>have:y=u:=hu;subst this;exact ar.me
  | jF=>have:y=u:=hu;subst this;exact ar.me
 | ef t vs=>obtain⟨b,ty,arr,rfl,_⟩:=ad;rfl
theorem wR(h:y.oneCell'=true):y.cells=#[y]:=by
 cases y<;>first | rfl | grind[Value.oneCell']
def az.leaves:az->Option (List aq)
 | .aN (.one l)=>if l.ok then some [l] else none
 | .aN (.agg ls)=>if ls.all aq.ok then some ls else none
 | _=>none
variable{p:az}{ls:List aq}
theorem az.tH(h:p.leaves=some ls)(ad:cd (Sat w ω τ) p y):
  ia (Sat w ω τ) ls y.cells/\∀u∈y.cells.toList,u.oneCell'=true:=by
 unfold az.leaves at h;split at h
 ·rename_i l;split at h
  ·rename_i cb;simp only[aH]at h;subst h;have J:=aq.IB cb ad;rw[wR J];refine⟨⟨rfl,fun i ff ak=>?_⟩,by grind⟩;cases i with
   | zero=>simp at ak;subst ak;exact⟨y,rfl,ad⟩
   | succ i=>simp at ak
  cases h
 ·rename_i ej;split at h
  ·rename_i cb;simp only[aH]at h;subst h;obtain⟨vs,rfl,aR,a8⟩:=ad;refine⟨⟨aR,a8⟩,fun u hu=>?_⟩;obtain⟨i,hi⟩:=mA.1 hu;have bk:i<ej.length:=by
    grind[Value.cells]
   obtain⟨p6,J,U⟩:=a8 i ej[i] (by simp);have e:u=p6:=by
    have:(Value.agg vs).cells.toList[i]?=vs[i]?:=by simp[Value.cells]
    grind
   grind[aq.IB,sX]
  cases h
 cases h
theorem Jp(off:Nat):∀(vs:List Value) (k:Nat) (cells:Array Value) (i:Nat),off+k+vs.length<=cells.size->
  ((vs.zipIdx k).foldl (fun cs (x:Value×Nat)=>cs.setIfInBounds (off+x.2) x.1) cells)[i]?=if off+k<=i/\i<off+k+vs.length then vs[i-(off+k)]? else cells[i]?
 | [],k,cells,i,_=>by simp;grind
 | v::vs,k,cells,i,h=>by
  simp only[List.zipIdx_cons,List.foldl_cons,du]at h ⊢;rw[Jp off vs (k+1) _ i (by simp;omega),Array.getElem?_setIfInBounds];grind
theorem Jq(off:Nat):∀(l:List (Value×Nat)) (cells:Array Value),(l.foldl (fun cs (x:Value×Nat)=>cs.setIfInBounds (off+x.2) x.1) cells).size=cells.size
 | [],_=>rfl
 | x::l,cells=>by simp_all[List.foldl_cons,Jq]
def qf(ls:List aq)(off:Nat)(xs:List aq):List aq:=ls.take off++(xs++ls.drop (off+xs.length))
variable{off:Nat}
theorem Jr{xs:List aq}{i:Nat}(h:off+xs.length<=ls.length):(qf ls off xs)[i]?=if off<=i/\i<off+xs.length then xs[i-off]? else ls[i]?:=by
 unfold qf;grind
theorem DQ{xs:List aq}(h:off+xs.length<=ls.length):(qf ls off xs).length=ls.length:=by
 grind[qf]
def n5(place:Nat->Option (Nat×Nat))(ls:List aq):List (Nat×az)->Option (List aq)
 | []=>some ls
 | (i,p)::rest=>
  match place i,p.leaves with
  | some (off,size),some xs=>if xs.length=size/\off+size<=ls.length then n5 place (qf ls off xs) rest else none
  | _,_=>none
theorem DR{place:Nat->Option (Nat×Nat)}:∀{parts:List (Nat×az)} {vals:List (Nat×Value)} {ls r:List aq} {cells:Array Value},
  parts.length=vals.length->(∀(j:Nat) i p,parts[j]?=some (i,p)->∃v,vals[j]?=some (i,v)/\cd (Sat w ω τ) p v)->n5 place ls parts=some r->ia (Sat w ω τ) ls cells->
  ∃out,Instr.fill place cells vals=some out/\ia (Sat w ω τ) r out
 | [],vals,ls,r,cells,aR,_,h,ad=>by
  have:vals=[]:=rm (by grind);subst this;simp only[n5,aH]at h;subst h;exact⟨cells,rfl,ad⟩
 | (i,p)::parts,vals,ls,r,cells,aR,hp,h,ad=>by
  obtain⟨v,a8,dJ⟩:=hp 0 i p rfl;cases vals with
  | nil=>simp at a8
  | cons x vals=>
   simp only[jB,aH]at a8;subst a8;simp only[n5]at h;split at h
   ·rename_i off size xs aK aO;split at h
    ·rename_i ai;obtain⟨iA,hZ⟩:=ai;obtain⟨⟨dN,yj⟩,_⟩:=az.tH aO dJ;have tE:v.cells.size=size:=by omega
     have iB:off+v.cells.size<=cells.size:=by have:=ad.1;omega
     have fc:ia (Sat w ω τ) (qf ls off xs) (v.cells.zipIdx.foldl (fun cs (c,j)=>cs.setIfInBounds (off+j) c) cells):=by
      have e:v.cells.zipIdx.foldl (fun cs (c,j)=>cs.setIfInBounds (off+j) c) cells=(v.cells.toList.zipIdx 0).foldl (fun cs (x:Value×Nat)=>cs.setIfInBounds (off+x.2) x.1) cells:=by
       rw[<-Array.foldl_toList];simp
      rw[e];refine⟨by rw[Jq,DQ (by omega)];exact ad.1,fun j l ak=>?_⟩;rw[Jr (by omega)]at ak;rw[Jp off _ 0 _ _ (by simp;omega)];simp only[AA,lM];by_cases aU:off<=j/\j<off+xs.length
      ·grind
      rw[aZ aU]at ak;rw[aZ (by omega)];exact ad.2 _ _ ak
     obtain⟨out,J,U⟩:=DR (parts:=parts) (vals:=vals) (by grind) (fun j eE nC aU=>by have:=hp (j+1) eE nC (by grind);grind) h fc;simp_all[Instr.fill,aZ]
    cases h
   cases h
def DS(P:Program)(t:TypeId)(f:Nat):Option (Nat×Nat):=
 match P.underlying t with
 | some (.struct ec)=>
  match ec[f]? with
  | some fd=>(P.info? fd.type).map fun i=>(fd.offset,i.size)
  | none=>none
 | _=>none
def yE(P:Program)(st:aG)(t:TypeId)(parts:List (Nat×Operand))(ans:List bI):hR:=
 match P.underlying t,P.info? t with
 | some (.struct ec),some i=>
  match i.zero with
  | some z=>
   if ec.toList.all fun f=>(P.info? f.type).isSome then
    (n5 (DS P t) (z.cells.toList.map .v) (parts.map fun x=>(x.1,st.aW x.2))).map fun ls=>(.agg ls,ans,[])
   else none
  | none=>none
 | _,_=>none
theorem Js{P:Program}(w:World):∀(ec:List Field),(∀f∈ec,(P.info? f.type).isSome=true)->
  (ec.mapM fun f=>(do pure (f.offset,<-sizeOf f.type):Sem (Nat×Nat))).run P w=.ok (ec.map fun f=>(f.offset,((P.info? f.type).map (·.size)).getD 0)) w
 | [],_=>by simp
 | f::ec,h=>by
  obtain⟨i,hi⟩:=nY.1 (h f (by simp));have dw:=Js (P:=P) w ec (fun g ag=>h g (by simp[ag]));simp only[uS,Sem.run_bind,sizeOf,typeInfo,run_program,Result.andThen_ok,hi,Sem.run_pure,gE,oU,kh];simp_all[Sem.run_bind,sizeOf,typeInfo,Sem.run_pure]
theorem zf{P:Program}{α β:Type}(f:α->Sem β)(xs:Array α)(w:World)(r:List β)(h:(xs.toList.mapM f).run P w=.ok r w):(xs.mapM f).run P w=.ok r.toArray w:=by
 rw[<-Array.toArray_toList (xs:=xs),List.mapM_toArray];simp_all
variable{P:Program}{w0:dC}{a:Act}{st:aG}{t:TypeId}{r:az}{ans bN:List bI}{obs:List Prop}
theorem RL{parts:Array (Nat×Operand)}
  (aI:b1 w0 st a w ω τ) (h:yE P st t parts.toList ans=some (r,bN,obs)):
  ∃z,(Instr.build t (parts.map fun (i,x)=>(i,a.eval x))).run P w=.ok z w/\cd (Sat w ω τ) r z:=by
 unfold yE at h;split at h
 ·rename_i ec i hu hi;split at h
  ·rename_i z aL;split at h
   ·rename_i gI;rw[bF]at h;obtain⟨ls,J,h⟩:=h;simp only[a']at h;obtain⟨rfl,_,_⟩:=h;have CM:ia (Sat w ω τ) (z.cells.toList.map .v) z.cells:=by
     refine⟨by simp,fun j l ak=>?_⟩;rw[dG,bF]at ak;obtain⟨u,hu,rfl⟩:=ak;exact⟨u,by grind,rfl⟩
    obtain⟨out,U,ax⟩:=DR (vals:=parts.toList.map fun x=>(x.1,a.eval x.2)) (by simp) (fun j eE p aU=>by
     rw[dG,bF]at aU;obtain⟨⟨i2,x⟩,ae,e⟩:=aU;simp only[a']at e;obtain⟨rfl,rfl⟩:=e;exact⟨a.eval x,by grind,aI.aW x⟩) J CM
    have hm:=zf (P:=P) (fun f:Field=>(do pure (f.offset,<-sizeOf f.type):Sem (Nat×Nat))) ec w _ (Js (P:=P) w ec.toList (fun f bn=>eP.1 gI f bn));have l5:(fun x=>(ec.toList.map fun f=>(f.offset,((P.info? f.type).map (·.size)).getD 0)).toArray[x]?)=DS P t:=by
     funext x;simp only[lI,dG,jy,DS,hu];cases ae:ec[x]? with
     | none=>rfl
     | some fd=>
      have:(P.info? fd.type).isSome=true:=eP.1 gI fd (by grind);obtain⟨eE,kD⟩:=nY.1 this;simp[kD]
    refine⟨.agg out,?_,out,rfl,ax⟩;simp only[Instr.build,Sem.run_bind,zeroValue,typeInfo,run_program,Result.andThen_ok,hi,Sem.run_pure,aL,run_underlying hu,hm,l5];simp_all
   cases h
  cases h
 cases h
def Dg(p:az)(nu:Nat)(ans:List bI):hR:=
 match p with
 | .fD as=>(as[nu]?).map fun a=>(.aN a,ans,[])
 | _=>none
variable{v:Value}
theorem RM{P:Program}{nu:Nat}
  (hp:cd (Sat w ω τ) p v) (h:Dg p nu ans=some (r,bN,obs)):∃z,(Instr.extract v nu).run P w=.ok z w/\cd (Sat w ω τ) r z:=by
 unfold Dg at h;split at h
 ·rename_i as;rw[bF]at h;obtain⟨aN,J,h⟩:=h;simp only[a']at h;obtain⟨rfl,_,_⟩:=h;obtain⟨vs,rfl,aR,a8⟩:=hp;obtain⟨u,U,ax⟩:=a8 _ _ J;exact⟨u,by simp[Instr.extract,U],ax⟩
 cases h
def Dh(P:Program)(t:TypeId)(p:az)(f:Nat)(ans:List bI):hR:=
 match P.underlying t with
 | some (.struct ec)=>
  match ec[f]? with
  | some fd=>
   match sr P fd.type,P.info? fd.type,p with
   | some agg,some i,.aN (.agg ls)=>(ox agg i.size ls fd.offset).map fun r=>(r,ans,[])
   | _,_,_=>none
  | none=>none
 | _=>none
theorem RN{f:Nat}
  (hp:cd (Sat w ω τ) p v) (h:Dh P t p f ans=some (r,bN,obs)):∃z,(Instr.field t v f).run P w=.ok z w/\cd (Sat w ω τ) r z:=by
 unfold Dh at h;split at h
 ·rename_i ec hu;split at h
  ·rename_i fd bn;split at h
   ·rename_i agg i ls aK aO;rw[bF]at h;obtain⟨kc,J,h⟩:=h;simp only[a']at h;obtain⟨rfl,_,_⟩:=h;obtain⟨vs,rfl,aR,a8⟩:=hp;unfold ox at J;cases agg with
    | true=>
     simp only[fZ]at J;split at J
     ·rename_i hle;simp only[aH]at J;subst J;refine⟨.agg (vs.extract fd.offset (fd.offset+i.size)),by simp[Instr.field,run_underlying hu,bn,asAgg,part,tY aK,sizeOf,typeInfo,aO],_,rfl,by simp;omega,fun j l ak=>?_⟩;grind
     cases J
    | false=>
     simp only[oT,mF,bF]at J;obtain⟨l,ak,rfl⟩:=J;obtain⟨u,J,U⟩:=a8 _ l ak;exact⟨u,by simp_all[Instr.field,run_underlying,asAgg,part,tY],U⟩
   cases h
  cases h
 cases h
def Di(op:UnOp)(p:az)(ans:List bI):hR:=
 match op,p.leaf with
 | .not,some (.bP c)=>some (.one (.bP (!c)),ans,[])
 | .not,some (.v (.bool c))=>some (.one (.v (.bool (!c))),ans,[])
 | .neg,some (.v (.int k n))=>arith k (0-n) ans
 | _,_=>none
theorem RO{op:UnOp}
  (hp:cd (Sat w ω τ) p v) (h:Di op p ans=some (r,bN,obs)) (aM:cn obs):∃z,(Op.unary op v).run P w=.ok z w/\cd (Sat w ω τ) r z:=by
 unfold Di at h;split at h
 ·rename_i c e;simp only[aH,a']at h;obtain⟨rfl,_,_⟩:=h;have:v=.bool c:=az.cW e hp;subst this;exact⟨_,rfl,rfl⟩
 ·rename_i c e;simp only[aH,a']at h;obtain⟨rfl,_,_⟩:=h;have:v=.bool c:=az.cW e hp;subst this;exact⟨_,rfl,rfl⟩
 ·rename_i k n e;have:v=.int k n:=az.cW e hp;subst this;exact⟨_,rfl,tX h aM⟩
 cases h
def zZ(c a b:az)(ans:List bI):hR:=
 match c.leaf with
 | some (.v (.bool true))=>some (a,ans,[])
 | some (.v (.bool false))=>some (b,ans,[])
 | some (.bP c)=>
  match ans with
  | .lP true::r=>some (a,r,[c=true])
  | .lP false::r=>some (b,r,[c=false])
  | _=>none
 | _=>none
variable{u:Value}
theorem RP{c a b:az}{x:Value}
  (ai:cd (Sat w ω τ) c u) (aC:cd (Sat w ω τ) a x) (ah:cd (Sat w ω τ) b y) (h:zZ c a b ans=some (r,bN,obs)) (aM:cn obs):
  ∃z,(do pure (.value (if <-asBool u then x else y)):Sem Next).run P w=.ok (.value z) w/\cd (Sat w ω τ) r z:=by
 unfold zZ at h;split at h
 ·rename_i e;simp only[aH,a']at h;obtain⟨rfl,_,_⟩:=h;have:u=.bool true:=az.cW e ai;subst this;exact⟨x,rfl,aC⟩
 ·rename_i e;simp only[aH,a']at h;obtain⟨rfl,_,_⟩:=h;have:u=.bool false:=az.cW e ai;subst this;exact⟨y,rfl,ah⟩
 ·rename_i hV e;have:u=.bool hV:=az.cW e ai;subst this;split at h
  ·simp only[aH,a']at h;obtain⟨rfl,_,rfl⟩:=h;have rQ:hV=true:=aM.1;subst rQ;exact⟨x,rfl,aC⟩
  ·simp only[aH,a']at h;obtain⟨rfl,_,rfl⟩:=h;have rQ:hV=false:=aM.1;subst rQ;exact⟨y,rfl,ah⟩
  cases h
 cases h
def t':List (List D)->Option (List Int)
 | []=>some []
 | [.v (.int .u8 n)]::r=>(t' r).map (n::·)
 | _=>none
theorem Jt:∀{es:List (List D)} {xs:List Int},t' es=some xs->xs.length=es.length/\∀i,i<xs.length->cq es i 0=some (.v (.int .u8 (xs.getD i 0)))/\∀e,es[i]?=some e->e.length=1
 | [],xs,h=>by
  simp_all[t',aH]
 | e::r,xs,h=>by
  unfold t' at h;split at h
  ·grind
  ·rename_i n kc he;obtain⟨rfl,rfl⟩:=Ox he;rw[bF]at h;obtain⟨ys,J,rfl⟩:=h;obtain⟨U,ax⟩:=Jt J;refine⟨by simp[U],fun i hi=>?_⟩;cases i with
   | zero=>exact⟨rfl,fun e he=>by grind⟩
   | succ i=>
    simp only[du,Nat.add_lt_add_iff_right]at hi;grind[cq]
  cases h
theorem cell_of_heap{b:Nat}{arr:Array Value}{ty:TypeId}{cj:Nat×Nat}(ah:w.heap[b]?=some (.cells arr ty cj))(h:arr[off]?=some v):w.cell? ⟨b,off,none⟩=some v:=by
 unfold World.cell?;simp[ah,h]
def aq.Ni:aq->Option (List (List D))
 | .aa _ 1 es=>some es
 | _=>none
def Dj(P:Program)(src dst:TypeId)(p:az)(ans:List bI):hR:=
 match P.underlying src,P.underlying dst,p.int with
 | some _,some (.int k),some (_,n)=>arith k n ans
 | some (.slice e),some .string,none=>
  match P.underlying e,p.leaf.bind aq.Ni,ans with
  | some (.int .u8),some es,.lr (.aN (.one (.v (.string s))))::r=>some (.one (.v (.string s)),r,[(t' es).map strOfNums=some s])
  | _,_,_=>none
 | _,_,_=>none
theorem RQ{src dst:TypeId}
  (hp:cd (Sat w ω τ) p v) (h:Dj P src dst p ans=some (r,bN,obs)) (aM:cn obs):∃z,(convert src dst v).run P w=.ok z w/\cd (Sat w ω τ) r z:=by
 unfold Dj at h;split at h
 ·rename_i d k vV n aK aO b2;rw[az.lm b2 hp];exact⟨_,by simp_all[convert,run_underlying,Conv.intToInt],tX h aM⟩
 ·rename_i e aK aO b2;split at h
  ·rename_i es s kc eY ks;simp only[aH,a']at h;obtain⟨rfl,_,rfl⟩:=h;have jM:(t' es).map strOfNums=some s:=aM.1;rw[bF]at jM;obtain⟨xs,J,rfl⟩:=jM;obtain⟨U,ax⟩:=Jt J;rw[jT]at ks;obtain⟨l,qj,pc⟩:=ks;have ak:=az.cW qj hp;unfold aq.Ni at pc;split at pc
   ·rename_i t bV;simp only[aH]at pc;subst pc;obtain⟨ar,_⟩:=ak;refine⟨.string (strOfNums xs),?_,rfl⟩;cases ar with
    | nil R k a=>
     have:xs=[]:=List.length_eq_zero_iff.1 (by grind);subst this;cases a with
     | none=>exact run_convert_bytes_nil w src e aK eY 0 0 dst aO
     | some a=>
      rw[run_convert_bytes_string w src dst e _ 0 0 aK eY aO];exact run_bytesToString w a 0 0 [] (run_loadCells_list w a [] (fun j v aU=>by simp at aU))
    | row R k _ b off cap arr ty cj us ah c6 ai ad aT hu ay=>
     refine run_convert_bytes_arg w src e aK eY b off bV.length cap xs U (fun i hi=>?_) dst aO;obtain⟨aJ,_⟩:=ax i (by omega);have a1:=hu i 0 _ aJ;have bt:=ay i 0 _ aJ;generalize us i 0=u at a1 bt;cases bt;rw[Nat.mul_one,lM]at a1;grind[cell_of_heap]
   cases pc
  cases h
 cases h
def Dk(P:Program)(t:TypeId)(p q:az)(ans:List bI):hR:=
 match P.underlying t,p.leaf,q.int with
 | some .string,some (.v (.string s)),some (_,n)=>
  match ans with
  | .num m::r=>some (.one (.v (.int .u8 m)),r,[0<=n,(s[n.toNat]?).map (fun b=>((b.toNat:Nat):Int))=some m])
  | _=>none
 | _,_,_=>none
variable{q:az}
theorem RR
  (hp:cd (Sat w ω τ) p u) (aw:cd (Sat w ω τ) q v) (h:Dk P t p q ans=some (r,bN,obs)) (aM:cn obs):∃z,(Instr.index t u v).run P w=.ok z w/\cd (Sat w ω τ) r z:=by
 unfold Dk at h;split at h
 ·rename_i s vV n aK aO b2;split at h
  ·rename_i m fP;simp only[aH,a']at h;obtain⟨rfl,_,rfl⟩:=h;obtain⟨bX,J,_⟩:=aM;have:u=.string s:=az.cW aO hp;subst this;rw[az.lm b2 aw];rw[bF]at J;obtain⟨b,ah,hm⟩:=J;exact⟨.int .u8 m,by simp_all[Instr.index,asIntOf,run_underlying],rfl⟩
  cases h
 cases h
def Dl(p q:az)(ans:List bI):hR:=
 match p.int,q.int with
 | some (k,a),some (_,b)=>some (.one (.v (.int k (if b<a then b else a))),ans,[])
 | _,_=>none
def Dm(p q:az)(ans:List bI):hR:=
 match p.int,q.int with
 | some (k,a),some (_,b)=>some (.one (.v (.int k (if b>a then b else a))),ans,[])
 | _,_=>none
theorem RS{P:Program}{ts:Array TypeId}{ty:TypeId}
  (hp:cd (Sat w ω τ) p u) (aw:cd (Sat w ω τ) q v) (h:Dl p q ans=some (r,bN,obs)):∃z,(Builtin.min_ ts ty #[u,v]).run P w=.ok z w/\cd (Sat w ω τ) r z:=by
 unfold Dl at h;split at h
 ·rename_i k a vV b aK aO;simp only[aH,a']at h;obtain⟨rfl,_,_⟩:=h;rw[az.lm aK hp,az.lm aO aw];exact⟨_,by simp[Builtin.min_,Builtin.min2],rfl⟩
 cases h
theorem RT{P:Program}{ts:Array TypeId}{ty:TypeId}
  (hp:cd (Sat w ω τ) p u) (aw:cd (Sat w ω τ) q v) (h:Dm p q ans=some (r,bN,obs)):∃z,(Builtin.max_ ts ty #[u,v]).run P w=.ok z w/\cd (Sat w ω τ) r z:=by
 unfold Dm at h;split at h
 ·rename_i k a vV b aK aO;simp only[aH,a']at h;obtain⟨rfl,_,_⟩:=h;rw[az.lm aK hp,az.lm aO aw];exact⟨_,by simp[Builtin.max_,Builtin.max2],rfl⟩
 cases h
def Ju(p:az)(ans:List bI):hR:=
 match p.leaf with
 | some (.ptr id off)=>some (.one (.ptr id off),ans,[])
 | some (.ep t k es i j)=>some (.one (.ep t k es i j),ans,[])
 | some (.gZ ds off)=>some (.one (.gZ ds off),ans,[])
 | some (.bE t i j k es (.at_ x y))=>some (.one (.bE t i j k es (.at_ x y)),ans,[])
 | _=>none
def IF(p:az):Option Nat:=
 match p.leaf with
 | some (.ptr id 0)=>some id
 | _=>none
def G6(p:az):Option D:=
 match p.leaf with
 | some (.gZ ds 0)=>some (.ptr ds)
 | some (.v x)=>if x.oneCell' then some (.v x) else none
 | _=>none
def zg(st:aG)(fn:Fn)(first captured:List Operand)(ans:List bI):hR:=
 match fn,first with
 | .func g,[]=>
  match (captured.map st.aW).mapM IF with
  | some ids=>some (.one (.eL g ids),ans,[])
  | none=>
   match (captured.map st.aW).mapM G6 with
   | some ds=>some (.one (.fd (.da g ds)),ans,[])
   | none=>none
 | _,_=>none
theorem Dn{α β:Type}{f:α->Option β}:∀{xs:List α} {ys:List β},xs.mapM f=some ys->ys.length=xs.length/\∀(i:Nat) (y:β),ys[i]?=some y->∃x,xs[i]?=some x/\f x=some y
 | [],ys,h=>by grind
 | x::xs,ys,h=>by
  rw[uS]at h;cases e:f x with
  | none=>simp[e]at h
  | some y=>
   cases aO:xs.mapM f with
   | none=>grind
   | some zs=>
    simp[e,aO]at h;subst h;obtain⟨J,U⟩:=Dn aO;grind
theorem RU{P:Program}{fn:Fn}{first captured:Array Operand}
  (aI:b1 w0 st a w ω τ) (h:zg st fn first.toList captured.toList ans=some (r,bN,obs)):
  ∃z,(Instr.makeFunc fn (first.map a.eval) (captured.map a.eval)).run P w=.ok z w/\cd (Sat w ω τ) r z:=by
 unfold zg at h;split at h
 ·rename_i g afj;have bn:first=#[]:=by
   grind
  subst bn;refine⟨.func (.func g) #[] (captured.map a.eval),by simp[Instr.makeFunc],?_⟩;have oa:∀(i:Nat) (x:az),(captured.toList.map st.aW)[i]?=some x->∃v,(captured.map a.eval)[i]?=some v/\cd (Sat w ω τ) x v:=by
   intro i x ae;rw[dG,bF]at ae;obtain⟨o,aM,rfl⟩:=ae;refine⟨a.eval o,?_,aI.aW o⟩;grind
  split at h
  ·rename_i ids P3;simp only[aH,a']at h;obtain⟨rfl,_,_⟩:=h;obtain⟨aR,ag⟩:=Dn P3;have hex:∀i,i<ids.length->∃b id,ids[i]?=some id/\(captured.map a.eval)[i]?=some (ptrTo b)/\ω b=.box id:=by
    intro i hi;obtain⟨x,ae,iE⟩:=ag i ids[i] (by simp[hi]);obtain⟨v,a8,ad⟩:=oa i x ae;unfold IF at iE;split at iE
    ·rename_i id ak;simp only[aH]at iE;obtain⟨b,ah,rfl⟩:=az.cW ak ad;exact⟨b,id,by grind,a8,ah⟩
    cases iE
   have dN:(captured.map a.eval).size=ids.length:=by grind
   let bs:=(List.range ids.length).map fun i=>(match (captured.map a.eval)[i]? with | some (.pointer (some p))=>p.block | _=>0)
   refine⟨bs,?_,by simp[bs],fun i id fp=>?_⟩
   ·congr 1
    apply Array.ext
    ·grind
    grind[id,aH,ptrTo]
   grind[e0,ptrTo]
  split at h
  ·rename_i ds dM;simp only[aH,a']at h;obtain⟨rfl,_,_⟩:=h;obtain⟨aR,ag⟩:=Dn dM;refine bA.da _ g ds (captured.map a.eval) (fun j=>(captured.map a.eval).getD j undef) (by grind) (fun j d ay=>?_) (fun j d ay=>?_)
   ·obtain⟨x,ae,_⟩:=ag j d ay;obtain⟨v,a8,_⟩:=oa j x ae;rw[a8];simp only[dF,a8,kh]
   obtain⟨x,ae,iE⟩:=ag j d ay;obtain⟨v,a8,ad⟩:=oa j x ae;have e:(captured.map a.eval).getD j undef=v:=by simp only[dF,a8,kh]
   rw[e];unfold G6 at iE;split at iE
   ·rename_i pb ak;simp only[aH]at iE;subst iE;obtain⟨b,rfl,ar⟩:=az.cW ak ad;exact ar.frame fun b q ah aw=>⟨aw,rfl⟩
   ·rename_i y ak;split at iE
    ·rename_i Qu;simp only[aH]at iE;subst iE;have:v=y:=az.cW ak ad;subst this;exact .v _ _ Qu
    cases iE
   cases iE
  cases h
 cases h
def zh(P:Program)(st:aG)(b:Builtin)(args:List Operand)(ts:List TypeId)(ans:List bI):hR:=
 match b,args,ts with
 | .len,[x],[t]=>DP P t (st.aW x) ans
 | .min,[x,y],_=>Dl (st.aW x) (st.aW y) ans
 | .max,[x,y],_=>Dm (st.aW x) (st.aW y) ans
 | _,_,_=>none
def nE(P:Program)(st:aG)(op:Op)(ans:List bI):hR:=
 match op with
 | .move x | .assign x=>some (st.aW x,ans,[])
 | .pick c a b=>zZ (st.aW c) (st.aW a) (st.aW b) ans
 | .load t x=>yC P st t (st.aW x) ans
 | .nilCheck x=>Ju (st.aW x) ans
 | .binOp op t x y _=>DL P op t x y (st.aW x) (st.aW y) ans
 | .unOp op _ x=>Di op (st.aW x) ans
 | .convert s d x=>Dj P s d (st.aW x) ans
 | .slice t x cp hi gV=>yD P st t (st.aW x) cp hi gV ans
 | .fieldAddr s x f=>DN P s (st.aW x) f ans
 | .field t x f=>Dh P t (st.aW x) f ans
 | .indexAddr t x i=>DO P t (st.aW x) (st.aW i) ans
 | .index t x i=>Dk P t (st.aW x) (st.aW i) ans
 | .extract x i=>Dg (st.aW x) i ans
 | .build t parts=>yE P st t parts.toList ans
 | .call ⟨.builtin b,args,ts⟩=>zh P st b args.toList ts.toList ans
 | .makeFunc fn first captured=>zg st fn first.toList captured.toList ans
 | _=>none
theorem g'{aD:World}{s:Sem Value}{z:Value}(h:s.run P w=.ok z aD):(do pure (.value (<-s)):Sem Next).run P w=.ok (.value z) aD:=by
 simp_all
theorem RV{b:Builtin}{args:Array Operand}{ts:Array TypeId}{ty:TypeId}{consts:Array Bool}
  (aI:b1 w0 st a w ω τ) (h:zh P st b args.toList ts.toList ans=some (r,bN,obs)):
  ∃z,(builtin b ts ty consts (args.map a.eval)).run P w=.ok (.value z) w/\cd (Sat w ω τ) r z:=by
 obtain⟨args⟩:=args;obtain⟨ts⟩:=ts;unfold zh at h;split at h
 ·rename_i x t aK aO;simp only at aK aO;subst aK aO;obtain⟨z,J,U⟩:=RJ (ty:=ty) (aI.aW x) h;refine⟨z,g' (s:=Builtin.len_ #[t] ty (Array.map a.eval #[x])) ?_,U⟩;grind
 ·rename_i x y aK;simp only at aK;subst aK;obtain⟨z,J,U⟩:=RS (P:=P) (ts:=⟨ts⟩) (ty:=ty) (aI.aW x) (aI.aW y) h;refine⟨z,g' (s:=Builtin.min_ ⟨ts⟩ ty (Array.map a.eval #[x,y])) ?_,U⟩;grind
 ·rename_i x y aK;simp only at aK;subst aK;obtain⟨z,J,U⟩:=RT (P:=P) (ts:=⟨ts⟩) (ty:=ty) (aI.aW x) (aI.aW y) h;refine⟨z,g' (s:=Builtin.max_ ⟨ts⟩ ty (Array.map a.eval #[x,y])) ?_,U⟩;grind
 cases h
theorem Dp{o:Oper}
  (aI:b1 w0 st a w ω τ) (h:nE P st o.op ans=some (r,bN,obs)) (aM:cn obs):
  ∃z,(execOp a.eval o).run P w=.ok (.value z) w/\cd (Sat w ω τ) r z:=by
 obtain⟨dst,op,type,pos,after,guard⟩:=o;simp only at h;unfold nE at h;split at h
 ·rename_i x;simp only[aH,a']at h;obtain⟨rfl,_,_⟩:=h;exact⟨a.eval x,rfl,aI.aW x⟩
 ·rename_i x;simp only[aH,a']at h;obtain⟨rfl,_,_⟩:=h;exact⟨a.eval x,rfl,aI.aW x⟩
 ·rename_i c x y;exact RP (aI.aW c) (aI.aW x) (aI.aW y) h aM
 ·rename_i t x;obtain⟨z,J,U⟩:=RI aI (aI.aW x) h aM;exact⟨z,g' J,U⟩
 ·rename_i x;unfold Ju at h;split at h
  ·rename_i id off e;simp only[aH,a']at h;obtain⟨rfl,_,_⟩:=h;have ad:=az.cW e (aI.aW x);obtain⟨b,ah,ae⟩:=ad;exact⟨_,by simp_all[execOp],b,ah,rfl⟩
  ·rename_i t k es i j e;simp only[aH,a']at h;obtain⟨rfl,_,_⟩:=h;have ad:=az.cW e (aI.aW x);have cB:=ad;obtain⟨b,off,cap,ae,J⟩:=ad;refine⟨_,by simp only[execOp,ae];rfl,?_⟩;rw[<-ae];exact cB
  ·rename_i ds off e;simp only[aH,a']at h;obtain⟨rfl,_,_⟩:=h;have ad:=az.cW e (aI.aW x);have cB:=ad;obtain⟨b,ae,J⟩:=ad;refine⟨_,by simp only[execOp,ae];rfl,?_⟩;rw[<-ae];exact cB
  ·rename_i t i j k es aea GJ e;simp only[aH,a']at h;obtain⟨rfl,_,_⟩:=h;have ad:=az.cW e (aI.aW x);have cB:=ad;obtain⟨gC,⟨b,off,cap,_,ae,_⟩,_⟩:=ad;refine⟨_,by simp only[execOp,ae];rfl,?_⟩;rw[<-ae];exact cB
  cases h
 ·rename_i Rm t x y nX;obtain⟨z,J,U⟩:=RE (aI.aW x) (aI.aW y) h aM;exact⟨z,g' J,U⟩
 ·rename_i Rm t x;obtain⟨z,J,U⟩:=RO (aI.aW x) h aM;exact⟨z,g' J,U⟩
 ·rename_i s d x;obtain⟨z,J,U⟩:=RQ (aI.aW x) h aM;exact⟨z,g' J,U⟩
 ·rename_i t x cp hi gV;obtain⟨z,J,U⟩:=RK aI (aI.aW x) h aM;exact⟨z,g' J,U⟩
 ·rename_i s x f;obtain⟨z,J,U⟩:=RF (aI.aW x) h;exact⟨z,g' J,U⟩
 ·rename_i t x f;obtain⟨z,J,U⟩:=RN (aI.aW x) h;exact⟨z,g' J,U⟩
 ·rename_i t x i;obtain⟨z,J,U⟩:=RG (aI.aW x) (aI.aW i) h aM;exact⟨z,g' J,U⟩
 ·rename_i t x i;obtain⟨z,J,U⟩:=RR (aI.aW x) (aI.aW i) h aM;exact⟨z,g' J,U⟩
 ·rename_i x i;obtain⟨z,J,U⟩:=RM (P:=P) (aI.aW x) h;exact⟨z,g' J,U⟩
 ·rename_i t parts;obtain⟨z,J,U⟩:=RL aI h;exact⟨z,g' J,U⟩
 ·rename_i b args ts;obtain⟨z,J,U⟩:=RV (ty:=type) (consts:=args.map fun | .const _=>true | _=>false) aI h;grind[execOp,resolve,Sem.run_bind,Sem.run_pure,Result.andThen_ok,invoke]
 ·rename_i fn first captured
  obtain⟨z,J,U⟩:=RU (P:=P) aI h;exact⟨z,g' J,U⟩
 cases h
