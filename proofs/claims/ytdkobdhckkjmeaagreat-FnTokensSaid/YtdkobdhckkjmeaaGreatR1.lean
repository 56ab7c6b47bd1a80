import Derived.WalkKit
import Derived.WalkSpells
import Derived.WalkLawsBesides
import Derived.KernelRfl
set_option linter.unusedVariables false
set_option linter.unusedSimpArgs false
namespace Go.Sx
open Go.RowKit
universe u v w x
theorem za:type_of% @Option.some.injEq.{u}:=@Option.some.injEq.{u}
theorem zb:type_of% @List.length_map.{u,v}:=@List.length_map.{u,v}
theorem zc:type_of% @Option.map_eq_some_iff.{u,v}:=@Option.map_eq_some_iff.{u,v}
theorem zd:type_of% @Prod.mk.injEq.{u,v}:=@Prod.mk.injEq.{u,v}
theorem ze:type_of% @Bool.eq_false_or_eq_true:=@Bool.eq_false_or_eq_true
theorem zf:type_of% @decide_eq_false_iff_not:=@decide_eq_false_iff_not
theorem zg:type_of% @List.mem_cons_of_mem.{u}:=@List.mem_cons_of_mem.{u}
theorem zh:type_of% @List.length_nil.{u}:=@List.length_nil.{u}
theorem zi:type_of% @decide_eq_true_eq:=@decide_eq_true_eq
theorem zj:type_of% @Bool.and_eq_true:=@Bool.and_eq_true
theorem zk:type_of% @List.getElem?_eq_some_iff.{u}:=@List.getElem?_eq_some_iff.{u}
theorem zl:type_of% @Array.getD_eq_getD_getElem?.{u}:=@Array.getD_eq_getD_getElem?.{u}
theorem zm:type_of% @List.mem_cons_self.{u}:=@List.mem_cons_self.{u}
theorem zn:type_of% @List.length_set.{u}:=@List.length_set.{u}
theorem zo:type_of% @if_neg.{u}:=@if_neg.{u}
theorem zp:type_of% @if_pos.{u}:=@if_pos.{u}
theorem zq:type_of% @List.length_cons.{u}:=@List.length_cons.{u}
theorem zr:type_of% @List.getElem?_map.{u,v}:=@List.getElem?_map.{u,v}
theorem zt:type_of% @decide_eq_false:=@decide_eq_false
theorem zu:type_of% @List.getElem?_eq_getElem.{u}:=@List.getElem?_eq_getElem.{u}
theorem zv:type_of% @Nat.zero_add:=@Nat.zero_add
theorem zw:type_of% @List.mem_of_getElem?.{u}:=@List.mem_of_getElem?.{u}
theorem zx:type_of% @Option.some.inj.{u}:=@Option.some.inj.{u}
theorem zy:type_of% @Bool.or_eq_false_iff:=@Bool.or_eq_false_iff
theorem zz:type_of% @Array.getElem?_eq_some_iff.{u}:=@Array.getElem?_eq_some_iff.{u}
theorem zA:type_of% @List.getElem?_drop.{u}:=@List.getElem?_drop.{u}
theorem zB:type_of% @Nat.mul_le_mul_right:=@Nat.mul_le_mul_right
theorem zC:type_of% @List.take_length.{u}:=@List.take_length.{u}
theorem zD:type_of% @Array.getElem?_eq_getElem.{u}:=@Array.getElem?_eq_getElem.{u}
theorem zE:type_of% @beq_iff_eq.{u}:=@beq_iff_eq.{u}
theorem zF:type_of% @List.getElem?_take.{u}:=@List.getElem?_take.{u}
theorem zG:type_of% @List.cons.inj.{u}:=@List.cons.inj.{u}
theorem zH:type_of% @Array.getElem?_toList.{u}:=@Array.getElem?_toList.{u}
theorem zI:type_of% @List.mem_append_left.{u}:=@List.mem_append_left.{u}
theorem zJ:type_of% @List.mem_append_right.{u}:=@List.mem_append_right.{u}
theorem zK:type_of% @Array.getElem?_append.{u}:=@Array.getElem?_append.{u}
theorem zL:type_of% @List.mem_cons.{u}:=@List.mem_cons.{u}
theorem zM:type_of% @List.all_eq_true.{u}:=@List.all_eq_true.{u}
theorem zN:type_of% @List.getD_eq_getElem?_getD.{u}:=@List.getD_eq_getElem?_getD.{u}
theorem zO:type_of% @Nat.le_refl:=@Nat.le_refl
theorem zP:type_of% @List.any_eq_false.{u}:=@List.any_eq_false.{u}
theorem zQ:type_of% @Bool.eq_false_iff:=@Bool.eq_false_iff
theorem zR:type_of% @Nat.add_mul:=@Nat.add_mul
theorem zS:type_of% @Bool.not_eq_true':=@Bool.not_eq_true'
theorem zT:type_of% @List.getElem?_append.{u}:=@List.getElem?_append.{u}
theorem zU:type_of% @List.map_append.{u,v}:=@List.map_append.{u,v}
theorem zV:type_of% @Option.getD_some.{u}:=@Option.getD_some.{u}
theorem zW:type_of% @List.map_congr_left.{u,v}:=@List.map_congr_left.{u,v}
theorem zX:type_of% @Bool.not_eq_false':=@Bool.not_eq_false'
theorem zY:type_of% @List.getElem?_toArray.{u}:=@List.getElem?_toArray.{u}
theorem zZ:type_of% @Bool.not_true:=@Bool.not_true
theorem zaa:type_of% @List.append_nil.{u}:=@List.append_nil.{u}
theorem zab:type_of% @List.length_append.{u}:=@List.length_append.{u}
theorem zac:type_of% @List.size_toArray.{u}:=@List.size_toArray.{u}
theorem zad:type_of% @List.getElem?_set.{u}:=@List.getElem?_set.{u}
theorem zae:type_of% @Int.toNat_natCast:=@Int.toNat_natCast
theorem zaf:type_of% @List.getElem?_cons_succ.{u}:=@List.getElem?_cons_succ.{u}
theorem zag:type_of% @List.getElem?_cons_zero.{u}:=@List.getElem?_cons_zero.{u}
theorem zah:type_of% @Option.bind_eq_some_iff.{u,v}:=@Option.bind_eq_some_iff.{u,v}
theorem zai:type_of% @List.findIdx?_eq_some_iff_getElem.{u}:=@List.findIdx?_eq_some_iff_getElem.{u}
theorem zaj:type_of% @Option.isSome_iff_exists.{u}:=@Option.isSome_iff_exists.{u}
theorem zak:type_of% @List.mem_iff_getElem?.{u}:=@List.mem_iff_getElem?.{u}
theorem zal:type_of% @Bool.false_or:=@Bool.false_or
theorem zam:type_of% @List.set_set.{u}:=@List.set_set.{u}
theorem zan:type_of% @Option.bind_some.{u,v}:=@Option.bind_some.{u,v}
theorem zao:type_of% @Bool.false_eq_true:=@Bool.false_eq_true
theorem zap:type_of% @decide_eq_true:=@decide_eq_true
theorem zaq:type_of% @Int.le_trans:=@Int.le_trans
theorem zar:type_of% @List.mem_flatMap.{u,v}:=@List.mem_flatMap.{u,v}
theorem zas:type_of% @List.getElem?_append_right.{u}:=@List.getElem?_append_right.{u}
theorem zat:type_of% @List.length_filter_le.{u}:=@List.length_filter_le.{u}
theorem zau:type_of% @List.map_set.{u,v}:=@List.map_set.{u,v}
theorem zav:type_of% @List.map_cons.{u,v}:=@List.map_cons.{u,v}
theorem zaw:type_of% @Option.map_some.{u,v}:=@Option.map_some.{u,v}
theorem zax:type_of% @List.getElem_mem.{u}:=@List.getElem_mem.{u}
theorem zay:type_of% @List.length_take.{u}:=@List.length_take.{u}
theorem zaz:type_of% @List.mem_append.{u}:=@List.mem_append.{u}
theorem zba:type_of% @List.append_assoc.{u}:=@List.append_assoc.{u}
theorem zbb:type_of% @if_true.{u}:=@if_true.{u}
theorem zbc:type_of% @Bool.not_false:=@Bool.not_false
theorem zbd:type_of% @Array.size_append.{u}:=@Array.size_append.{u}
theorem zbe:type_of% @List.take_add_one.{u}:=@List.take_add_one.{u}
theorem zbf:type_of% @List.mem_or_eq_of_mem_set.{u}:=@List.mem_or_eq_of_mem_set.{u}
theorem zbg:type_of% @List.getElem?_append_left.{u}:=@List.getElem?_append_left.{u}
theorem zbh:type_of% @List.mem_of_mem_take.{u}:=@List.mem_of_mem_take.{u}
theorem zbi:type_of% @Bool.or_eq_true:=@Bool.or_eq_true
theorem zbj:type_of% @Nat.add_zero:=@Nat.add_zero
theorem zbk:type_of% @List.take_of_length_le.{u}:=@List.take_of_length_le.{u}
theorem zbl:type_of% @Bool.true_and:=@Bool.true_and
theorem zbm:type_of% @List.mem_map.{u,v}:=@List.mem_map.{u,v}
theorem zbn:type_of% @List.mem_of_mem_drop.{u}:=@List.mem_of_mem_drop.{u}
theorem zbo:type_of% @List.getElem?_replicate.{u}:=@List.getElem?_replicate.{u}
theorem zbp:type_of% @Nat.lt_or_ge:=@Nat.lt_or_ge
theorem zbq:type_of% @beq_eq_false_iff_ne.{u}:=@beq_eq_false_iff_ne.{u}
theorem zbr:type_of% @List.cons.injEq.{u}:=@List.cons.injEq.{u}
theorem zbs:type_of% @List.findIdx?_eq_none_iff.{u}:=@List.findIdx?_eq_none_iff.{u}
theorem zbt:type_of% @Bool.not_eq_true:=@Bool.not_eq_true
theorem zbu:type_of% @List.not_mem_nil.{u}:=@List.not_mem_nil.{u}
theorem zbv:type_of% @List.eq_nil_of_length_eq_zero.{u}:=@List.eq_nil_of_length_eq_zero.{u}
theorem zbw:type_of% @List.take_append_of_le_length.{u}:=@List.take_append_of_le_length.{u}
theorem zbx:type_of% @Array.length_toList.{u}:=@Array.length_toList.{u}
theorem zby:type_of% @beq_self_eq_true.{u}:=@beq_self_eq_true.{u}
theorem zbz:type_of% @Nat.lt_of_lt_of_le:=@Nat.lt_of_lt_of_le
theorem zca:type_of% @Option.isSome_eq_false_iff.{u}:=@Option.isSome_eq_false_iff.{u}
theorem zcb:type_of% @List.take_append_drop.{u}:=@List.take_append_drop.{u}
theorem zcc:type_of% @ne_eq.{u}:=@ne_eq.{u}
theorem zcd:type_of% @Option.isNone_iff_eq_none.{u}:=@Option.isNone_iff_eq_none.{u}
theorem zce:type_of% @Nat.le_trans:=@Nat.le_trans
theorem zcf:type_of% @List.map_id.{u}:=@List.map_id.{u}
theorem zcg:type_of% @List.any_cons.{u}:=@List.any_cons.{u}
theorem zch:type_of% @List.mapM_cons.{u,v,w}:=@List.mapM_cons.{u,v,w}
theorem zci:type_of% @if_false.{u}:=@if_false.{u}
theorem zcj:type_of% @List.any_eq_true.{u}:=@List.any_eq_true.{u}
theorem zck:type_of% @List.drop_zero.{u}:=@List.drop_zero.{u}
theorem zcl:type_of% @Int.natCast_zero:=@Int.natCast_zero
theorem zcm:type_of% @List.flatMap_nil.{u,v}:=@List.flatMap_nil.{u,v}
theorem zcn:type_of% @Array.getElem?_eq_none.{u}:=@Array.getElem?_eq_none.{u}
theorem zco:type_of% @Array.getElem?_map.{u,v}:=@Array.getElem?_map.{u,v}
theorem zcp:type_of% @Option.toList_some.{u}:=@Option.toList_some.{u}
theorem zcq:type_of% @List.range_zero:=@List.range_zero
theorem zcr:type_of% @List.map_take.{u,v}:=@List.map_take.{u,v}
theorem zcs:type_of% @Bool.and_true:=@Bool.and_true
theorem zct:type_of% @List.length_range:=@List.length_range
theorem zcu:type_of% @Nat.mod_eq_of_lt:=@Nat.mod_eq_of_lt
theorem zcv:type_of% @Nat.add_assoc:=@Nat.add_assoc
theorem zcw:type_of% @List.sum_cons.{u}:=@List.sum_cons.{u}
inductive D where
 | v (x:Value)
 | sl (k:Nat) (es:List (List D))
 | ptr (ds:List D)
 | cl (g:FuncId) (caps:List D)
inductive Owner where
 | imm
 | box (id:Nat)
 | tok (t:Nat) (q:List (Nat×Nat))
abbrev Own:=Nat→Owner
def qan(es:List (List D))(i j:Nat):Option D:=(es[i]?).bind (·[j]?)
inductive Rep (w:World) (ω:Own):(List (Nat×Nat)→Owner→Prop)→D→Value→Prop
 | v (R:List (Nat×Nat)→Owner→Prop) (x:Value) (h1:x.oneCell'=true):Rep w ω R (.v x) x
 | nil (R:List (Nat×Nat)→Owner→Prop) (k:Nat) (a:Option Addr):Rep w ω R (.sl k []) (.slice a 0 0)
 | row (R:List (Nat×Nat)→Owner→Prop) (k:Nat) (es:List (List D)) (b off cap:Nat) (arr:Array Value) (ty:TypeId) (fr:Nat×Nat) (us:Nat→Nat→Value)
   (hb:w.heap[b]?=some (.cells arr ty fr)) (hR:R [] (ω b)) (hc:es.length≤cap) (hs:off+cap*k≤arr.size) (hk:∀e∈es,e.length=k)
   (hu:∀i j d,qan es i j=some d→arr[off+i*k+j]?=some (us i j))
   (hd:∀i j d,qan es i j=some d→Rep w ω (fun q=>R ((i,j)::q)) d (us i j)):
   Rep w ω R (.sl k es) (.slice (some ⟨b,off,none⟩) es.length cap)
 | ptr (R:List (Nat×Nat)→Owner→Prop) (ds:List D) (b:Nat) (arr:Array Value) (ty:TypeId) (fr:Nat×Nat) (us:Nat→Value)
   (hb:w.heap[b]?=some (.cells arr ty fr)) (hR:R [] (ω b)) (hs:arr.size=ds.length)
   (hu:∀j d,ds[j]?=some d→arr[j]?=some (us j)) (hd:∀j d,ds[j]?=some d→Rep w ω (fun q=>R ((0,j)::q)) d (us j)):
   Rep w ω R (.ptr ds) (.pointer (some ⟨b,0,none⟩))
 | cl (R:List (Nat×Nat)→Owner→Prop) (g:FuncId) (caps:List D) (cs:Array Value) (us:Nat→Value) (hs:cs.size=caps.length)
   (hu:∀j d,caps[j]?=some d→cs[j]?=some (us j)) (hd:∀j d,caps[j]?=some d→Rep w ω (fun q=>R ((0,j)::q)) d (us j)):
   Rep w ω R (.cl g caps) (.func (.func g) #[] cs)
theorem Rep.frame{w w':World}{ω ω':Own}{R:List (Nat×Nat)→Owner→Prop}{d:D}{v:Value}(h:Rep w ω R d v):
  ∀{R':List (Nat×Nat)→Owner→Prop},(∀b q,b<w.heap.size→R q (ω b)→R' q (ω' b)∧w'.heap[b]?=w.heap[b]?)→Rep w' ω' R' d v:=by
 induction h with
 | v R x h1=>intro R' _;exact .v R' x h1
 | nil R k a=>intro R' _;exact .nil R' k a
 | row R k es b off cap arr ty fr us hb hR hc hs hk hu hd ih=>
  intro R' hf;have hlt:b<w.heap.size:=by
   rcases zbp b w.heap.size with h | h
   ·exact h
   ·simp[zcn h]at hb
  obtain⟨h1,h2⟩:=hf b [] hlt hR;exact .row R' k es b off cap arr ty fr us (h2.trans hb) h1 hc hs hk hu (fun i j d hd'=>ih i j d hd' (fun b q hl hq=>hf b ((i,j)::q) hl hq))
 | ptr R ds b arr ty fr us hb hR hs hu hd ih=>
  intro R' hf;have hlt:b<w.heap.size:=by
   rcases zbp b w.heap.size with h | h
   ·exact h
   ·simp[zcn h]at hb
  obtain⟨h1,h2⟩:=hf b [] hlt hR;exact .ptr R' ds b arr ty fr us (h2.trans hb) h1 hs hu (fun j d hd'=>ih j d hd' (fun b q hl hq=>hf b ((0,j)::q) hl hq))
 | cl R g caps cs us hs hu hd ih=>
  intro R' hf;exact .cl R' g caps cs us hs hu (fun j d hd'=>ih j d hd' (fun b q hl hq=>hf b ((0,j)::q) hl hq))
inductive Tag where
 | free
 | own (t:Nat)
 | ro (t:Nat)
def Tag.R:Tag→List (Nat×Nat)→Owner→Prop
 | .free,_,o=>o=.imm
 | .own t,q,o=>o=.tok t q
 | .ro t,_,o=>o=.imm∨∃q,o=.tok t q
def Tag.hdr(τ:Nat→Nat×Value):Tag→Nat×Value→Prop
 | .own t,y=>τ t=y
 | _,_=>True
def giv:Nat:=1000000000
inductive NC where
 | und
 | v (x:Value)
 | sl (t:Tag) (k:Nat) (es:List (List D))
inductive SM where
 | here
 | away
 | at_ (x y:Nat)
def SM.rel(k n:Nat):SM→Value→Value→Prop
 | .at_ x y,u,v=>∃b off cap,u=.slice (some ⟨b,off,none⟩) n cap∧v=.pointer (some ⟨b,off+x*k+y,none⟩)∧x<n
 | _,u,v=>v=u
def SM.home:SM→Bool
 | .away=>false
 | _=>true
inductive Leaf where
 | und
 | v (x:Value)
 | sb (c:Bool)
 | sl (t:Tag) (k:Nat) (es:List (List D))
 | ptr (id off:Nat)
 | ep (t:Tag) (k:Nat) (es:List (List D)) (i j:Nat)
 | rp (ds:List D) (off:Nat)
 | fd (d:D)
 | clo (g:FuncId) (ids:List Nat)
 | sn (t i j k:Nat) (es:List (List D)) (m:SM)
 | np (t:Nat) (vs:List NC)
 | sv (t k:Nat) (es:List (List D))
def ptrTo(b:Nat):Value:=.pointer (some ⟨b,0,none⟩)
def NCSat(w:World)(ω:Own)(τ:Nat→Nat×Value):NC→Value→Prop
 | .und,_=>True
 | .v x,y=>y=x
 | .sl t k es,y=>Rep w ω t.R (.sl k es) y∧t.hdr τ (k,y)
def qd1(w:World)(ω:Own)(τ:Nat→Nat×Value)(t i j:Nat)(u:Value):Prop:=
 ∃(kT b off len cap:Nat) (arr:Array Value) (ty:TypeId) (fr:Nat×Nat),τ t=(kT,.slice (some ⟨b,off,none⟩) len cap)∧ω b=.tok t []∧w.heap[b]?=some (.cells arr ty fr)∧arr[off+i*kT+j]?=some u
def Sat(w:World)(ω:Own)(τ:Nat→Nat×Value):Leaf→Value→Prop
 | .und,_=>True
 | .v x,y=>y=x
 | .sb c,y=>y=.bool c
 | .sl t k es,y=>Rep w ω t.R (.sl k es) y∧t.hdr τ (k,y)
 | .ptr id off,y=>∃b,ω b=.box id∧y=.pointer (some ⟨b,off,none⟩)
 | .ep t k es i j,y=>∃b off cap,y=.pointer (some ⟨b,off+i*k+j,none⟩)∧i<es.length∧
   Rep w ω t.R (.sl k es) (.slice (some ⟨b,off,none⟩) es.length cap)∧t.hdr τ (k,.slice (some ⟨b,off,none⟩) es.length cap)
 | .rp ds off,y=>∃b,y=.pointer (some ⟨b,off,none⟩)∧Rep w ω Tag.free.R (.ptr ds) (ptrTo b)
 | .fd d,y=>Rep w ω Tag.free.R d y
 | .clo g ids,y=>∃bs:List Nat,y=.func (.func g) #[] (bs.map ptrTo).toArray∧bs.length=ids.length∧∀(i:Nat) (id:Nat),ids[i]?=some id→∃b,bs[i]?=some b∧ω b=.box id
 | .sv t k es,y=>Rep w ω Tag.free.R (.sl k es) y∧(giv≤t→τ t=(k,y))
 | .sn t i j k es m,y=>∃u,m.rel k es.length u y∧Rep w ω (fun q o=>o=.tok t ((i,j)::q)) (.sl k es) u∧(m.home=true→qd1 w ω τ t i j u)
 | .np t vs,y=>∃(b:Nat) (ty:TypeId) (arr:Array Value),y=ptrTo b∧ω b=.tok t []∧w.heap[b]?=some (.cells arr ty (0,0))∧arr.size=vs.length∧∀(j:Nat) (c:NC),vs[j]?=some c→∃u,arr[j]?=some u∧NCSat w ω τ c u
inductive AL where
 | one (l:Leaf)
 | agg (ls:List Leaf)
inductive PV where
 | al (a:AL)
 | tup (as:List AL)
abbrev PV.one(l:Leaf):PV:=.al (.one l)
abbrev PV.agg(ls:List Leaf):PV:=.al (.agg ls)
abbrev PV.und:PV:=.al (.one .und)
def SatL(S:Leaf→Value→Prop)(ls:List Leaf)(vs:Array Value):Prop:=
 vs.size=ls.length∧∀(i:Nat) (l:Leaf),ls[i]?=some l→∃u,vs[i]?=some u∧S l u
def SatA(S:Leaf→Value→Prop):AL→Value→Prop
 | .one l,y=>S l y
 | .agg ls,y=>∃vs,y=.agg vs∧SatL S ls vs
def SatP(S:Leaf→Value→Prop):PV→Value→Prop
 | .al a,y=>SatA S a y
 | .tup as,y=>∃vs:Array Value,y=.tuple vs∧vs.size=as.length∧∀(i:Nat) (a:AL),as[i]?=some a→∃u,vs[i]?=some u∧SatA S a u
structure St where
 env:List PV
 boxes:List (Nat×List Leaf)
def qap(id:Nat):List (Nat×List Leaf)→Option (List Leaf)
 | []=>none
 | (i,ls)::r=>if i=id then some ls else qap id r
def AL.map(f:Leaf→Leaf):AL→AL
 | .one l=>.one (f l)
 | .agg ls=>.agg (ls.map f)
def PV.map(f:Leaf→Leaf):PV→PV
 | .al a=>.al (a.map f)
 | .tup as=>.tup (as.map (AL.map f))
def St.map(f:Leaf→Leaf)(s:St):St:=⟨s.env.map (PV.map f),s.boxes.map fun x=>(x.1,x.2.map f)⟩
theorem SatL.map{S S':Leaf→Value→Prop}{f:Leaf→Leaf}(h:∀l v,S l v→S' (f l) v){ls:List Leaf}{vs:Array Value}(hs:SatL S ls vs):SatL S' (ls.map f) vs:=by
 refine⟨by simpa using hs.1,fun i l hl=>?_⟩;rw[zr,zc]at hl;obtain⟨l0,h0,rfl⟩:=hl;obtain⟨u,h1,h2⟩:=hs.2 i l0 h0;exact⟨u,h1,h _ _ h2⟩
theorem SatA.map{S S':Leaf→Value→Prop}{f:Leaf→Leaf}(h:∀l v,S l v→S' (f l) v):∀{a:AL} {y:Value},SatA S a y→SatA S' (a.map f) y
 | .one l,y,hs=>h _ _ hs
 | .agg ls,y,⟨vs,e,hs⟩=>⟨vs,e,hs.map h⟩
theorem SatP.map{S S':Leaf→Value→Prop}{f:Leaf→Leaf}(h:∀l v,S l v→S' (f l) v):∀{p:PV} {y:Value},SatP S p y→SatP S' (p.map f) y
 | .al a,y,hs=>show SatA S' (a.map f) y from SatA.map h (show SatA S a y from hs)
 | .tup as,y,⟨vs,e,hn,hs⟩=>⟨vs,e,by simpa using hn,fun i a ha=>by
   rw[zr,zc]at ha;obtain⟨a0,h0,rfl⟩:=ha;obtain⟨u,h1,h2⟩:=hs i a0 h0;exact⟨u,h1,SatA.map h h2⟩⟩
theorem qdH(f:Leaf→Leaf)(id:Nat):∀bs:List (Nat×List Leaf),qap id (bs.map fun x=>(x.1,x.2.map f))=(qap id bs).map (·.map f)
 | []=>rfl
 | (i,ls)::r=>by
  simp only[zav,qap];split
  ·rfl
  ·exact qdH f id r
structure Base where
 w:World
 G:Nat→Prop
 H:Nat→Nat×Value
def Base.mine(B:Base)(b:Nat):Prop:=B.w.heap.size≤b∨B.G b
def qkC:Bool:=true
structure Blw (n:Nat) (w w':World):Prop where
 below:Below n w w'
 drawn:qkC=true→w.drawn≤w'.drawn
theorem Blw.size{n:Nat}{w w':World}(h:Blw n w w'):w.heap.size≤w'.heap.size:=h.below.size
theorem Blw.block{n:Nat}{w w':World}(h:Blw n w w'):∀k,k<n→w'.heap[k]?=w.heap[k]?:=h.below.block
theorem Blw.refl(n:Nat)(w:World):Blw n w w:=⟨Below.refl _ _,fun _=>zO _⟩
theorem Blw.drew{n:Nat}{w w':World}(h:Blw n w w'):Blw n w w'.drew:=⟨h.below.drew,fun hs=>Nat.le_succ_of_le (h.drawn hs)⟩
theorem Blw.alloc{n:Nat}{w w':World}(h:Blw n w w')(hn:n≤w'.heap.size)(o:Obj):Blw n w (w'.alloc o):=⟨h.below.alloc hn o,h.drawn⟩
def tabs:List (Nat×List Int):=[]
def Tabs(w:World):Prop:=∀x∈tabs,∃ty fr,w.heap[x.1]?=some (.cells (x.2.map (Value.int .u64)).toArray ty fr)
theorem Tabs.lt{w:World}(h:Tabs w){x:Nat×List Int}(hx:x∈tabs):x.1<w.heap.size:=by
 obtain⟨ty,fr,e⟩:=h x hx;rcases zbp x.1 w.heap.size with h | h
 ·exact h
 ·simp[zcn h]at e
def Tidy(w:World)(ω:Own):Prop:=Tabs w∧∀x∈tabs,ω x.1=.imm
structure Bel (B:Base) (w:World):Prop where
 os:w.os=B.w.os
 tape:w.tape=B.w.tape
 output:w.output=B.w.output
 size:B.w.heap.size≤w.heap.size
 block:∀k,k<B.w.heap.size→¬B.G k→w.heap[k]?=B.w.heap[k]?
 drawn:qkC=true→B.w.drawn≤w.drawn
 laid:Tabs w
 free:∀x∈Go.Sx.tabs,¬B.mine x.1
theorem Tabs.next{w w':World}(h:Tabs w)(k:Blw w.heap.size w w'):Tabs w':=fun x hx=>by
 rw[k.below.block x.1 (h.lt hx)];exact h x hx
theorem Bel.next{B:Base}{w w':World}(h:Bel B w)(k:Blw w.heap.size w w'):Bel B w':=
 ⟨k.below.os.trans h.os,k.below.tape.trans h.tape,k.below.output.trans h.output,zce h.size k.below.size,fun i hi hg=>(k.below.block i (zbz hi h.size)).trans (h.block i hi hg),fun hs=>zce (h.drawn hs) (k.drawn hs),h.laid.next k,h.free⟩
def Base.of(w:World):Base:=⟨w,fun _=>False,fun _=>(0,undef)⟩
theorem Bel.refl(B:Base)(h:Tabs B.w)(hg:∀x∈tabs,¬B.G x.1):Bel B B.w:=⟨rfl,rfl,rfl,zO _,fun _ _ _=>rfl,fun _=>zO _,h,fun x hx hm=>by
 rcases hm with hm | hm
 ·exact absurd (h.lt hx) (by omega)
 ·exact hg x hx hm⟩
theorem Bel.start{w:World}{ω:Own}{H:Nat→Nat×Value}(h:Tidy w ω):Bel ⟨w,fun b=>ω b≠.imm,H⟩ w:=Bel.refl ⟨w,fun b=>ω b≠.imm,H⟩ h.1 fun x hx hm=>hm (h.2 x hx)
theorem Bel.below{w w':World}(h:Bel (Base.of w) w'):Blw w.heap.size w w':=⟨⟨h.os,h.tape,h.output,h.size,fun k hk=>h.block k hk (fun h=>h)⟩,h.drawn⟩
theorem Bel.setRow{B:Base}{w:World}(h:Bel B w){b:Nat}(hb:B.mine b)(arr:Array Value):Bel B (w.setRow b arr):=
 ⟨h.os,h.tape,h.output,by simpa using h.size,fun k hk hg=>by
  have:k≠b:=by
   rintro rfl;rcases hb with hb | hb
   ·omega
   ·exact hg hb
  rw[setRow_other w b k arr this];exact h.block k hk hg,h.drawn,fun x hx=>by
  have:x.1≠b:=fun e=>h.free x hx (e▸hb)
  rw[setRow_other w b x.1 arr this];exact h.laid x hx,h.free⟩
def Owned(w0:Base)(w:World)(ω:Own):Prop:=∀b,ω b≠.imm→w0.mine b∧∃arr ty,w.heap[b]?=some (.cells arr ty (0,0))
def BoxOk(w:World)(ω:Own)(τ:Nat→Nat×Value)(id:Nat)(ls:List Leaf):Prop:=
 ∃b arr ty,ω b=.box id∧(∀b',ω b'=.box id→b'=b)∧w.heap[b]?=some (.cells arr ty (0,0))∧SatL (Sat w ω τ) ls arr
structure RelAt (w0:Base) (st:St) (a:Act) (w:World) (ω:Own) (τ:Nat→Nat×Value):Prop where
 defers:a.defers=[]
 size:a.tmps.size=st.env.length
 below:Bel w0 w
 owned:Owned w0 w ω
 fixed:∀t,giv≤t→τ t=w0.H t
 pinned:∀id b,giv≤id→ω b=.box id→(w0.H id).1=b
 env:∀(i:Nat) (p:PV),st.env[i]?=some p→∃v,a.tmps[i]?=some v∧SatP (Sat w ω τ) p v
 boxes:∀id ls,qap id st.boxes=some ls→BoxOk w ω τ id ls
def Rel(w0:Base)(st:St)(a:Act)(w:World):Prop:=∃ω τ,RelAt w0 st a w ω τ
structure Bel0 (B:Base) (w:World):Prop where
 os:w.os=B.w.os
 tape:w.tape=B.w.tape
 output:w.output=B.w.output
 size:B.w.heap.size≤w.heap.size
 block:∀k,k<B.w.heap.size→¬B.G k→w.heap[k]?=B.w.heap[k]?
 drawn:qkC=true→B.w.drawn≤w.drawn
theorem Bel0.full{w w':World}{ω:Own}{H:Nat→Nat×Value}(h:Bel0 ⟨w,fun b=>ω b≠.imm,H⟩ w')(ht:Tidy w ω):Bel ⟨w,fun b=>ω b≠.imm,H⟩ w':=
 ⟨h.os,h.tape,h.output,h.size,h.block,h.drawn,fun x hx=>by
  rw[h.block x.1 (ht.1.lt hx) fun hn=>hn (ht.2 x hx)];exact ht.1 x hx,(Bel.start (H:=H) ht).free⟩
theorem RelAt.tidy{w0:Base}{st:St}{a:Act}{w:World}{ω ω':Own}{τ:Nat→Nat×Value}(h:RelAt w0 st a w ω τ)(hω:∀b,ω b=.imm→ω' b=.imm):Tidy w ω':=
 ⟨h.below.laid,fun x hx=>hω _ (Classical.byContradiction fun hn=>h.below.free x hx (h.owned _ hn).1)⟩
theorem Owned.lt{w0:Base}{w:World}{ω:Own}(h:Owned w0 w ω){b:Nat}(hb:ω b≠.imm):b<w.heap.size:=by
 obtain⟨_,arr,ty,e⟩:=h b hb;rcases zbp b w.heap.size with h | h
 ·exact h
 ·simp[zcn h]at e
theorem Owned.fresh{w0:Base}{w:World}{ω:Own}(h:Owned w0 w ω){b:Nat}(hb:w.heap.size≤b):ω b=.imm:=by
 cases e:ω b with
 | imm=>rfl
 | box id=>have:=h.lt (b:=b) (by simp[e]);omega
 | tok t q=>have:=h.lt (b:=b) (by simp[e]);omega
end Go.Sx
namespace Go.Sx
open Go.RowKit
def NC.re(g:Tag→Option Tag):NC→NC
 | .sl t k es=>match g t with | some t'=>.sl t' k es | none=>.und
 | c=>c
def Leaf.re(g:Tag→Option Tag)(p:Nat→Bool):Leaf→Leaf
 | .sl t k es=>match g t with | some t'=>.sl t' k es | none=>.und
 | .ep t k es i j=>match g t with | some t'=>.ep t' k es i j | none=>.und
 | .ptr id off=>if p id then .ptr id off else .und
 | .clo f ids=>if ids.all p then .clo f ids else .und
 | .sn t i j k es m=>match g (.own t) with | some (.own t')=>if t'=t then .sn t i j k es m else .und | _=>.und
 | .np t vs=>match g (.own t) with | some (.own t')=>if t'=t then .np t (vs.map (NC.re g)) else .und | _=>.und
 | l=>l
structure Evolve (w:World) (ω:Own) (τ:Nat→Nat×Value) (w':World) (ω':Own) (τ':Nat→Nat×Value) (g:Tag→Option Tag) (p:Nat→Bool):Prop where
 rep:∀t t' b q,g t=some t'→b<w.heap.size→t.R q (ω b)→t'.R q (ω' b)∧w'.heap[b]?=w.heap[b]?
 hdr:∀t t' y,g t=some t'→t.hdr τ y→t'.hdr τ' y
 box:∀id b,p id=true→ω b=.box id→ω' b=.box id
 free:g .free=some .free
 fix:∀t,giv≤t→τ' t=τ t
theorem qiy{w w':World}{ω ω':Own}{τ τ':Nat→Nat×Value}{g:Tag→Option Tag}(h:∀c u,NCSat w ω τ c u→NCSat w' ω' τ' (NC.re g c) u){arr:Array Value}{vs:List NC}
  (hn:arr.size=vs.length) (hv:∀(j:Nat) (c:NC),vs[j]?=some c→∃u,arr[j]?=some u∧NCSat w ω τ c u):
  arr.size=(vs.map (NC.re g)).length∧∀(j:Nat) (c:NC),(vs.map (NC.re g))[j]?=some c→∃u,arr[j]?=some u∧NCSat w' ω' τ' c u:=by
 refine⟨by simpa using hn,fun j c hc=>?_⟩;rw[zr,zc]at hc;obtain⟨c0,h0,rfl⟩:=hc;obtain⟨u,h1,h2⟩:=hv j c0 h0;exact⟨u,h1,h c0 u h2⟩
theorem Evolve.nc{w w':World}{ω ω':Own}{τ τ':Nat→Nat×Value}{g:Tag→Option Tag}{p:Nat→Bool}(h:Evolve w ω τ w' ω' τ' g p)(c:NC)(u:Value)(hs:NCSat w ω τ c u):NCSat w' ω' τ' (NC.re g c) u:=by
 cases c with
 | und=>exact trivial
 | v x=>exact hs
 | sl t k es=>
  simp only[NC.re];cases hg:g t with
  | none=>exact trivial
  | some t'=>exact⟨hs.1.frame fun b q hb hq=>h.rep t t' b q hg hb hq,h.hdr t t' _ hg hs.2⟩
theorem Evolve.sat{w w':World}{ω ω':Own}{τ τ':Nat→Nat×Value}{g:Tag→Option Tag}{p:Nat→Bool}(h:Evolve w ω τ w' ω' τ' g p):
  ∀(l:Leaf) (v:Value),Sat w ω τ l v→Sat w' ω' τ' (l.re g p) v:=by
 intro l v hs;cases l with
 | und=>exact trivial
 | v x=>exact hs
 | sb c=>exact hs
 | sl t k es=>
  simp only[Leaf.re];cases hg:g t with
  | none=>exact trivial
  | some t'=>exact⟨hs.1.frame fun b q hb hq=>h.rep t t' b q hg hb hq,h.hdr t t' _ hg hs.2⟩
 | ptr id off=>
  simp only[Leaf.re];split
  ·obtain⟨b,hb,e⟩:=hs;exact⟨b,h.box id b ‹_› hb,e⟩
  ·exact trivial
 | clo f ids=>
  simp only[Leaf.re];split
  ·rename_i hp;obtain⟨bs,e,hn,hi⟩:=hs;refine⟨bs,e,hn,fun i id hid=>?_⟩;obtain⟨b,h1,h2⟩:=hi i id hid;exact⟨b,h1,h.box id b (zM.1 hp id (zw hid)) h2⟩
  ·exact trivial
 | rp ds off=>
  obtain⟨b,e,hr⟩:=hs;exact⟨b,e,hr.frame fun b q hb hq=>h.rep .free .free b q h.free hb hq⟩
 | fd d=>exact Rep.frame hs fun b q hb hq=>h.rep .free .free b q h.free hb hq
 | sv t k es=>exact⟨hs.1.frame fun b q hb hq=>h.rep .free .free b q h.free hb hq,fun ht=>(h.fix t ht).trans (hs.2 ht)⟩
 | sn t i j k es m=>
  simp only[Leaf.re];split
  ·rename_i t' hg;split
   ·rename_i ht;subst ht;obtain⟨u,hu,h1,hm⟩:=hs;refine⟨u,hu,h1.frame fun c q hc hq=>h.rep _ _ c _ hg hc hq,fun hh=>?_⟩;obtain⟨kT,b,off,len,cap,arr,ty,fr,h2,h5,h3,h4⟩:=hm hh;have hlt:b<w.heap.size:=(zz.1 h3).1;have hk:=h.rep _ _ b [] hg hlt h5;exact⟨kT,b,off,len,cap,arr,ty,fr,h.hdr _ _ _ hg h2,hk.1,hk.2.trans h3,h4⟩
   ·exact trivial
  ·exact trivial
 | np t vs=>
  simp only[Leaf.re];split
  ·rename_i t' hg;split
   ·rename_i ht;subst ht;obtain⟨b,ty,arr,e,h5,h3,hn,hv⟩:=hs;have hlt:b<w.heap.size:=(zz.1 h3).1;have hk:=h.rep _ _ b [] hg hlt h5;exact⟨b,ty,arr,e,hk.1,hk.2.trans h3,qiy (h.nc) hn hv⟩
   ·exact trivial
  ·exact trivial
 | ep t k es i j=>
  simp only[Leaf.re];cases hg:g t with
  | none=>exact trivial
  | some t'=>
   obtain⟨b,off,cap,e,hi,hr,hh⟩:=hs;exact⟨b,off,cap,e,hi,hr.frame fun b q hb hq=>h.rep t t' b q hg hb hq,h.hdr t t' _ hg hh⟩
theorem getElem?_put{a:Act}{d:Nat}{v:Value}{i:Nat}:(a.put (some d) v).tmps[i]?=if d=i∧i<a.tmps.size then some v else a.tmps[i]?:=by
 simp only[Act.put,Array.getElem?_setIfInBounds];by_cases h:d=i
 ·subst h;by_cases h2:d<a.tmps.size
  ·simp[h2]
  ·simp[h2]
 ·simp[h]
theorem RelAt.put{w0:Base}{st:St}{a:Act}{w:World}{ω:Own}{τ:Nat→Nat×Value}(h:RelAt w0 st a w ω τ){d:Nat}{p:PV}{v:Value}(hs:SatP (Sat w ω τ) p v):
  RelAt w0 ⟨st.env.set d p,st.boxes⟩ (a.put (some d) v) w ω τ where
 defers:=h.defers
 size:=by simp[Act.put,h.size]
 below:=h.below
 owned:=h.owned
 fixed:=h.fixed
 pinned:=h.pinned
 boxes:=h.boxes
 env:=by
  intro i q hq;rw[zad]at hq;rw[getElem?_put];by_cases hd:d=i
  ·subst hd;simp only[zbb]at hq;split at hq
   ·rename_i hlt;have e:=zx hq;subst e;exact⟨v,by rw[zp ⟨rfl,by rw[h.size];exact hlt⟩],hs⟩
   ·cases hq
  ·rw[zo hd]at hq;rw[zo (by simp[hd])];exact h.env i q hq
theorem RelAt.evolve{w0:Base}{st:St}{a:Act}{w w':World}{ω ω':Own}{τ τ':Nat→Nat×Value}{g:Tag→Option Tag}{p:Nat→Bool}
  (h:RelAt w0 st a w ω τ) (e:Evolve w ω τ w' ω' τ' g p) (hbelow:Bel w0 w') (howned:Owned w0 w' ω') {bs:List (Nat×List Leaf)}
  (hbox:∀id ls,qap id bs=some ls→BoxOk w' ω' τ' id ls) (hpin:∀id b,giv≤id→ω' b=.box id→ω b=.box id) (hfix:∀t,giv≤t→τ' t=τ t:=by intros;rfl):RelAt w0 ⟨st.env.map (PV.map (Leaf.re g p)),bs⟩ a w' ω' τ' where
 defers:=h.defers
 size:=by simp[h.size]
 below:=hbelow
 owned:=howned
 fixed:=fun t ht=>(hfix t ht).trans (h.fixed t ht)
 pinned:=fun id b hi hb=>h.pinned id b hi (hpin id b hi hb)
 boxes:=hbox
 env:=by
  intro i q hq;rw[zr,zc]at hq;obtain⟨q0,h0,rfl⟩:=hq;obtain⟨v,h1,h2⟩:=h.env i q0 h0;exact⟨v,h1,SatP.map e.sat h2⟩
theorem qcr(w:World)(o:Obj):(w.alloc o).heap[w.heap.size]?=some o:=by
 show (w.heap.push o)[_]?=_;simp
theorem qeI(w:World)(o:Obj){i:Nat}(h:i<w.heap.size):(w.alloc o).heap[i]?=w.heap[i]?:=Below.heap_alloc w o i h
def qcN(id:Nat):List (Nat×List Leaf)→List (Nat×List Leaf)
 | []=>[]
 | (i,ls)::r=>if i=id then qcN id r else (i,ls)::qcN id r
theorem qkD(id:Nat):∀bs,qap id (qcN id bs)=none
 | []=>rfl
 | (i,ls)::r=>by
  simp only[qcN];split
  ·exact qkD id r
  ·simp only[qap];rw[zo ‹_›];exact qkD id r
theorem qfT{id id':Nat}(h:id'≠id):∀bs,qap id' (qcN id bs)=qap id' bs
 | []=>rfl
 | (i,ls)::r=>by
  simp only[qcN,qap];by_cases h1:i=id
  ·rw[zp h1,zo (by omega)];exact qfT h r
  ·rw[zo h1];simp only[qap];split
   ·rfl
   ·exact qfT h r
def keepT:Tag→Option Tag:=some
def qbB(id:Nat):Nat→Bool:=fun i=>decide (i≠id)
def St.newBox(st:St)(id:Nat)(ls:List Leaf):St:=
 let f:=Leaf.re keepT (qbB id)
 ⟨st.env.map (PV.map f),(id,ls.map f)::(qcN id st.boxes).map fun x=>(x.1,x.2.map f)⟩
theorem RelAt.newBox{w0:Base}{st:St}{a:Act}{w:World}{ω:Own}{τ:Nat→Nat×Value}(h:RelAt w0 st a w ω τ)(id:Nat)(hid:id<giv){ls:List Leaf}{arr:Array Value}(ty:TypeId)
  (hs:SatL (Sat w ω τ) ls arr):
  ∃ω',RelAt w0 (st.newBox id ls) a (w.alloc (.cells arr ty)) ω' τ∧ω' w.heap.size=.box id:=by
 let ω':Own:=fun b=>if b=w.heap.size then .box id else match ω b with | .box i=>if i=id then .imm else .box i | o=>o
 have hnew:ω' w.heap.size=.box id:=by simp[ω']
 have hold:∀b,b<w.heap.size→ω' b=(match ω b with | .box i=>if i=id then .imm else .box i | o=>o):=by
  intro b hb;simp only[ω'];rw[zo (by omega)]
 have hother:∀b,b≠w.heap.size→ω' b=(match ω b with | .box i=>if i=id then .imm else .box i | o=>o):=by
  intro b hb;simp only[ω'];rw[zo hb]
 have ev:Evolve w ω τ (w.alloc (.cells arr ty)) ω' τ keepT (qbB id):=by
  refine⟨?_,?_,?_,rfl,fun _ _=>rfl⟩
  ·intro t t' b q hg hb hq;simp only[keepT,za]at hg;subst hg;refine⟨?_,qeI _ _ hb⟩;rw[hold b hb];cases t with
   | free=>simp only[Tag.R]at hq ⊢;rw[hq]
   | own s=>simp only[Tag.R]at hq ⊢;rw[hq]
   | ro s=>
    simp only[Tag.R]at hq ⊢;rcases hq with hq | ⟨q',hq⟩
    ·rw[hq];exact .inl rfl
    ·rw[hq];exact .inr ⟨q',rfl⟩
  ·intro t t' y hg hy;simp only[keepT,za]at hg;subst hg;exact hy
  ·intro i b hp hb;have hlt:=h.owned.lt (b:=b) (by simp[hb]);rw[hold b hlt,hb];simp only[qbB,zi]at hp;simp[hp]
 have hbelow:Bel w0 (w.alloc (.cells arr ty)):=h.below.next ((Blw.refl _ _).alloc (zO _) _);have howned:Owned w0 (w.alloc (.cells arr ty)) ω':=by
  intro b hb;by_cases hn:b=w.heap.size
  ·subst hn;exact⟨.inl h.below.size,arr,ty,qcr _ _⟩
  ·rw[hother b hn]at hb;have h2:ω b≠.imm:=by intro e;rw[e]at hb;exact hb rfl
   obtain⟨h3,arr',ty',e⟩:=h.owned b h2;exact⟨h3,arr',ty',(qeI _ _ (h.owned.lt h2)).trans e⟩
 refine⟨ω',?_,hnew⟩;refine h.evolve ev hbelow howned ?_ (fun i b hi hb=>?_)
 case refine_2=>
  by_cases hn:b=w.heap.size
  ·subst hn;rw[hnew]at hb;simp only[Owner.box.injEq]at hb;omega
  ·rw[hother b hn]at hb;cases e:ω b with
   | imm=>simp[e]at hb
   | tok t q=>simp[e]at hb
   | box j=>
    simp only[e]at hb;split at hb
    ·cases hb
    ·exact hb
 intro i ls' hl;simp only[qap]at hl;split at hl
 ·rename_i hi;subst hi;have e:=zx hl;subst e;refine⟨w.heap.size,arr,ty,hnew,?_,qcr _ _,hs.map ev.sat⟩;intro b' hb';by_cases hn:b'=w.heap.size
  ·exact hn
  ·rw[hother b' hn]at hb';cases e:ω b' with
   | imm=>simp[e]at hb'
   | tok t q=>simp[e]at hb'
   | box j=>
    simp only[e]at hb';split at hb'
    ·cases hb'
    ·rename_i hne;simp only[Owner.box.injEq]at hb';exact absurd hb' hne
 ·rename_i hi;rw[qdH,zc]at hl;obtain⟨ls0,h0,rfl⟩:=hl;have hne:i≠id:=fun e=>hi e.symm
  rw[qfT hne]at h0;obtain⟨b,arr',ty',hb,hu,hh,hsat⟩:=h.boxes i ls0 h0;have hlt:=h.owned.lt (b:=b) (by simp[hb]);refine⟨b,arr',ty',ev.box i b (by simp[qbB,hne]) hb,?_,(qeI _ _ hlt).trans hh,hsat.map ev.sat⟩;intro b' hb';by_cases hn:b'=w.heap.size
  ·subst hn;rw[hnew]at hb';simp only[Owner.box.injEq]at hb';exact absurd hb'.symm hne
  ·rw[hother b' hn]at hb';refine hu b' ?_;cases e:ω b' with
   | imm=>simp[e]at hb'
   | tok t q=>simp[e]at hb'
   | box j=>
    simp only[e]at hb';split at hb'
    ·cases hb'
    ·exact hb'
end Go.Sx
namespace Go.Sx
open Go.RowKit
inductive AD where
 | one (d:D)
 | agg (ds:List D)
inductive RR where
 | vals (rs:List AD)
 | newp (src:List (Option Nat)) (ds:List D)
abbrev RR.new (ds : List D) : RR := .newp [] ds
inductive Ex where
 | normal
 | exit (id:Nat)
 | ret
inductive Ans where
 | own
 | sub
 | resG (pat:List (List (Option (Option (List (List D)))))) (src:Nat) (ds:List D) (rs:List AD)
 | res (rs:List AD)
 | resR (pat:List (Option (List D))) (r:RR)
 | loop (nils:List (Nat×Nat×Nat)) (keep boxes:List Nat) (e:Ex) (st:St)
 | br (b:Bool)
 | el (ds:List D)
 | wr
 | eq (c:Bool)
 | num (n:Int)
 | pv (p:PV)
 | reg (st:St)
def Obs:List Prop→Prop
 | []=>True
 | p::r=>p∧Obs r
theorem Obs.append:∀{a b:List Prop},Obs (a++b)→Obs a∧Obs b
 | [],_,h=>⟨trivial,h⟩
 | _::_,_,h=>⟨⟨h.1,(Obs.append h.2).1⟩,(Obs.append h.2).2⟩
abbrev Got:=Option (PV×List Ans×List Prop)
def cval:Value→PV
 | .agg cs=>.agg (cs.toList.map .v)
 | v=>.one (.v v)
def St.ev(st:St):Operand→PV
 | .tmp t=>st.env.getD t .und
 | .const v=>cval v
 | .func f=>.one (.fd (.cl f []))
 | _=>.und
theorem quC(w:World)(ω:Own)(τ:Nat→Nat×Value)(v:Value):SatP (Sat w ω τ) (cval v) v:=by
 unfold cval;split
 ·rename_i cs;refine⟨cs,rfl,by simp,fun i l hl=>?_⟩;rw[zr,zc]at hl;obtain⟨u,hu,rfl⟩:=hl;exact⟨u,by simpa using hu,rfl⟩
 ·exact rfl
theorem RelAt.ev{w0:Base}{st:St}{a:Act}{w:World}{ω:Own}{τ:Nat→Nat×Value}(h:RelAt w0 st a w ω τ)(x:Operand):SatP (Sat w ω τ) (st.ev x) (a.eval x):=by
 cases x with
 | tmp t=>
  simp only[St.ev,Act.eval];cases e:st.env[t]? with
  | none=>
   rw[zN,e];exact trivial
  | some p=>
   obtain⟨v,hv,hs⟩:=h.env t p e;rw[zN,e];simpa[zl,hv]using hs
 | const v=>exact quC w ω τ v
 | global g=>exact trivial
 | func f=>exact Rep.cl _ f [] #[] (fun _=>undef) rfl (fun j d hd=>by simp at hd) (fun j d hd=>by simp at hd)
def Leaf.val:Leaf→Option Value
 | .v x=>some x
 | .sb c=>some (.bool c)
 | _=>none
theorem Leaf.val_sat{w:World}{ω:Own}{τ:Nat→Nat×Value}{l:Leaf}{x y:Value}(h:l.val=some x)(hs:Sat w ω τ l y):y=x:=by
 cases l<;>simp[Leaf.val]at h
 ·subst h;exact hs
 ·subst h;exact hs
def PV.leaf:PV→Option Leaf
 | .al (.one l)=>some l
 | _=>none
theorem PV.leaf_sat{S:Leaf→Value→Prop}{p:PV}{l:Leaf}{y:Value}(h:p.leaf=some l)(hs:SatP S p y):S l y:=by
 cases p with
 | tup as=>cases h
 | al a=>
  cases a with
  | agg ls=>cases h
  | one l'=>simp only[PV.leaf,za]at h;subst h;exact hs
def PV.int(p:PV):Option (IntKind×Int):=
 match p.leaf with
 | some (.v (.int k n))=>some (k,n)
 | _=>none
theorem PV.int_sat{w:World}{ω:Own}{τ:Nat→Nat×Value}{p:PV}{k:IntKind}{n:Int}{y:Value}(h:p.int=some (k,n))(hs:SatP (Sat w ω τ) p y):y=.int k n:=by
 unfold PV.int at h;split at h
 ·rename_i k' n' e;simp only[za,zd]at h;obtain⟨rfl,rfl⟩:=h;exact PV.leaf_sat e hs
 ·cases h
def PV.vals:PV→Option (List Value)
 | .al (.agg ls)=>ls.mapM Leaf.val
 | _=>none
theorem qn0{w:World}{ω:Own}{τ:Nat→Nat×Value}:∀{ls:List Leaf} {xs:List Value},ls.mapM Leaf.val=some xs→∀{vs:List Value},vs.length=ls.length→(∀(i:Nat) (l:Leaf),ls[i]?=some l→∃u,vs[i]?=some u∧Sat w ω τ l u)→vs=xs
 | [],xs,h,vs,hn,_=>by
  simp at h;subst h;exact zbv hn
 | l::ls,xs,h,vs,hn,hs=>by
  rw[zch]at h;cases e:l.val with
  | none=>simp[e]at h
  | some x=>
   cases e2:ls.mapM Leaf.val with
   | none=>simp[e,e2]at h
   | some ys=>
    simp[e,e2]at h;subst h;cases vs with
    | nil=>simp at hn
    | cons v vs=>
     obtain⟨u,hu,hsat⟩:=hs 0 l rfl;simp at hu;subst hu;rw[Leaf.val_sat e hsat]
     congr 1
     exact qn0 e2 (by simpa using hn) (fun i l' hl=>by have:=hs (i+1) l' (by simpa using hl);simpa using this)
theorem PV.vals_sat{w:World}{ω:Own}{τ:Nat→Nat×Value}{p:PV}{xs:List Value}{y:Value}(h:p.vals=some xs)(hs:SatP (Sat w ω τ) p y):y=.agg xs.toArray:=by
 cases p with
 | tup as=>cases h
 | al a=>
  cases a with
  | one l=>cases h
  | agg ls=>
   obtain⟨vs,rfl,hn,hv⟩:=hs;have:=qn0 (w:=w) (ω:=ω) (τ:=τ) h (vs:=vs.toList) (by simpa using hn) (fun i l hl=>by obtain⟨u,h1,h2⟩:=hv i l hl;exact⟨u,by simpa using h1,h2⟩);rw[←this]
def inInt(k:IntKind)(e:Int):Prop:=
 match k with
 | .i64=>-9223372036854775808≤e∧e≤9223372036854775807
 | k=>k.wrap e=e
theorem inInt.wrap{k:IntKind}{e:Int}(h:inInt k e):k.wrap e=e:=by
 cases k<;>first | exact h | (simp only[inInt]at h;rw[IntKind.wrap_i64];omega)
def arith(k:IntKind)(e:Int)(ans:List Ans):Got:=
 match ans with
 | .wr::r=>some (.one (.v (.int k (k.wrap e))),r,[])
 | _=>some (.one (.v (.int k e)),ans,[inInt k e])
theorem qfU{w:World}{ω:Own}{τ:Nat→Nat×Value}{k:IntKind}{e:Int}{ans ans':List Ans}{p:PV}{obs:List Prop}(h:arith k e ans=some (p,ans',obs))(ho:Obs obs):SatP (Sat w ω τ) p (.int k (k.wrap e)):=by
 unfold arith at h;split at h
 ·simp only[za,zd]at h;obtain⟨rfl,_,_⟩:=h;exact rfl
 ·simp only[za,zd]at h;obtain⟨rfl,_,rfl⟩:=h;rw[ho.1.wrap];exact rfl
def qbJ(P:Program)(op:BinOp)(t:TypeId)(x y:Operand)(u v c:Value):Prop:=
 ∀w:World,((do eqGuard op t x y u v;binOp op t u v:Sem Value)).run P w=.ok c w
def qkE(op:BinOp)(k:IntKind)(x y:Int)(ans:List Ans):Got:=
 match op with
 | .add=>arith k (x+y) ans
 | .sub=>arith k (x-y) ans
 | .mul=>arith k (x*y) ans
 | .quo=>(arith k (x.tdiv y) ans).map fun r=>(r.1,r.2.1,(y≠0)::r.2.2)
 | .rem=>some (.one (.v (.int k (x.tmod y))),ans,[y≠0])
 | .eql=>some (.one (.sb (x==y)),ans,[])
 | .neq=>some (.one (.sb (x != y)),ans,[])
 | .lss=>some (.one (.sb (decide (x<y))),ans,[])
 | .leq=>some (.one (.sb (decide (x≤y))),ans,[])
 | .gtr=>some (.one (.sb (decide (x>y))),ans,[])
 | .geq=>some (.one (.sb (decide (x≥y))),ans,[])
 | _=>none
theorem quD{P:Program}{w:World}{ω:Own}{τ:Nat→Nat×Value}{op:BinOp}{k:IntKind}{x y:Int}{ans ans':List Ans}{p:PV}{obs:List Prop}(t:TypeId)(ox oy:Operand)
  (h:qkE op k x y ans=some (p,ans',obs)) (ho:Obs obs):
  ∃v,((do eqGuard op t ox oy (.int k x) (.int k y);binOp op t (.int k x) (.int k y):Sem Value)).run P w=.ok v w∧SatP (Sat w ω τ) p v:=by
 rw[eqGuard_at_int];simp only[Sem.run_bind,Sem.run_pure,Result.andThen_ok];cases op<;>simp only[qkE,za,zd,reduceCtorEq]at h
 case add=>exact⟨_,by rw[binOp_add];rfl,qfU h ho⟩
 case sub=>exact⟨_,by rw[binOp_sub];rfl,qfU h ho⟩
 case mul=>exact⟨_,by rw[binOp_mul];rfl,qfU h ho⟩
 case quo=>
  rw[zc]at h;obtain⟨⟨p',a',o'⟩,h1,h2⟩:=h;simp only[zd]at h2;obtain⟨rfl,rfl,rfl⟩:=h2;refine⟨_,?_,qfU h1 ho.2⟩;rw[binOp_quo];simp[Op.intDiv,ho.1]
 case rem=>
  obtain⟨rfl,_,rfl⟩:=h;refine⟨_,?_,rfl⟩;rw[binOp_rem];simp[Op.intDiv,ho.1]
 case eql=>obtain⟨rfl,_,rfl⟩:=h;exact⟨_,by rw[binOp_eql];rfl,rfl⟩
 case neq=>obtain⟨rfl,_,rfl⟩:=h;exact⟨_,by rw[binOp_neq];rfl,rfl⟩
 case lss=>obtain⟨rfl,_,rfl⟩:=h;exact⟨_,by rw[binOp_lss];rfl,rfl⟩
 case leq=>obtain⟨rfl,_,rfl⟩:=h;exact⟨_,by rw[binOp_leq];rfl,rfl⟩
 case gtr=>obtain⟨rfl,_,rfl⟩:=h;exact⟨_,by rw[binOp_gtr];rfl,rfl⟩
 case geq=>obtain⟨rfl,_,rfl⟩:=h;exact⟨_,by rw[binOp_geq];rfl,rfl⟩
def PV.value(p:PV):Option Value:=
 match p with
 | .al (.one l)=>l.val
 | p=>p.vals.map fun xs=>.agg xs.toArray
theorem PV.value_sat{w:World}{ω:Own}{τ:Nat→Nat×Value}{p:PV}{x y:Value}(h:p.value=some x)(hs:SatP (Sat w ω τ) p y):y=x:=by
 unfold PV.value at h;split at h
 ·exact Leaf.val_sat h hs
 ·rw[zc]at h;obtain⟨xs,h1,rfl⟩:=h;exact PV.vals_sat h1 hs
def qeJ(P:Program)(t:TypeId):Option Bool:=
 match P.underlying t with
 | some (.struct _) | some (.array _ _)=>some true
 | some _=>some false
 | none=>none
theorem qfV{P:Program}{t:TypeId}{b:Bool}(h:qeJ P t=some b)(w:World):(isAgg t).run P w=.ok b w:=by
 unfold qeJ at h;unfold isAgg;split at h
 ·rename_i hu;simp only[za]at h;subst h;simp[run_underlying hu]
 ·rename_i hu;simp only[za]at h;subst h;simp[run_underlying hu]
 ·rename_i d h1 h2 hu;simp only[za]at h;subst h;rw[Sem.run_bind,run_underlying hu];cases d<;>first | rfl | (exact absurd rfl (h1 _)) | (exact absurd rfl (h2 _ _))
 ·cases h
def partP(P:Program)(t:TypeId)(cs:Array Value)(off:Nat):Option Value:=
 match qeJ P t,P.info? t with
 | some true,some i=>some (.agg (cs.extract off (off+i.size)))
 | some false,_=>cs[off]?
 | _,_=>none
theorem qn1{P:Program}{t:TypeId}{cs:Array Value}{off:Nat}{v:Value}(h:partP P t cs off=some v)(w:World):(part t cs off).run P w=.ok v w:=by
 unfold partP at h;split at h
 ·rename_i i e1 e2;simp only[za]at h;subst h;simp[part,qfV e1,sizeOf,typeInfo,e2]
 ·rename_i e1;simp[part,qfV e1,h]
 ·cases h
def eqFs(P:Program)(f:TypeId→Value→Value→Option Bool)(xs ys:Array Value):List Field→Option Bool
 | []=>some true
 | fd::r=>
  if fd.name = "_" then none else
  match partP P fd.type xs fd.offset,partP P fd.type ys fd.offset with
  | some a,some b=>
   match f fd.type a b with
   | some c=>
    match r with
    | []=>some c
    | r=>(eqFs P f xs ys r).map fun c'=>c&&c'
   | none=>none
  | _,_=>none
def eqP(P:Program):Nat→TypeId→Value→Value→Option Bool
 | 0,_,_,_=>none
 | m+1,t,x,y=>
  match P.underlying t,x,y with
  | some .bool,.bool a,.bool b=>some (a==b)
  | some (.int _),.int k a,.int k' b=>if k=k' then some (a==b) else none
  | some .string,.string a,.string b=>some (a.toList==b.toList)
  | some (.struct fs),.agg xs,.agg ys=>if P.stoodInHeld t then none else eqFs P (eqP P m) xs ys fs.toList
  | _,_,_=>none
theorem qn2{P:Program}{d:Nat}{f:TypeId→Value→Value→Option Bool}(hf:∀t x y c,f t x y=some c→∀w,(Op.equalIn d t x y).run P w=.ok c w){xs ys:Array Value}:
  ∀{fs:List Field} {c:Bool},eqFs P f xs ys fs=some c→∀w,(Op.eqFields d xs ys fs).run P w=.ok c w
 | [],c,h,w=>by simp only[eqFs,za]at h;subst h;simp[Op.eqFields]
 | fd::r,c,h,w=>by
  simp only[eqFs]at h;split at h
  ·cases h
  ·rename_i hn;split at h
   ·rename_i a b e1 e2;split at h
    ·rename_i c1 e3;simp only [Op.eqFields, zp (show fd.name ≠ "_" from hn), Sem.run_bind, qn1 e1, qn1 e2, Result.andThen_ok, hf _ _ _ _ e3, Sem.run_ite];split at h
     ·simp only[za]at h;subst h;cases c1<;>simp[Op.eqFields]
     ·rw[zc]at h;obtain⟨c2,h1,rfl⟩:=h;have:=qn2 hf h1 w;cases c1<;>simp[this]
    ·cases h
   ·cases h
theorem qn3{P:Program}:∀{m:Nat} {t:TypeId} {x y:Value} {c:Bool},eqP P m t x y=some c→∀(d:Nat) (w:World),(Op.equalIn (d+m) t x y).run P w=.ok c w
 | 0,_,_,_,_,h,_,_=>by cases h
 | m+1,t,x,y,c,h,d,w=>by
  rw[show d+(m+1)=(d+m)+1 from rfl];simp only[eqP]at h;split at h
  ·rename_i a b e;simp only[za]at h;subst h;exact run_equalIn_bool w _ t a b e
  ·rename_i k' k a k2 b e;split at h
   ·rename_i hk;subst hk;simp only[za]at h;subst h;exact run_equalIn_int w _ t k k' a b e
   ·cases h
  ·rename_i a b e;simp only[za]at h;subst h;exact run_equalIn_string w _ t a b e
  ·rename_i fs xs ys e;split at h
   ·cases h
   ·rename_i hs;have hfs:P.fieldsOf t=fs:=by simp[Program.fieldsOf,e]
    rw[run_equalIn_struct w _ t xs ys (by rw[hfs];exact e) (by simpa using hs),hfs];exact qn2 (fun t x y c h w=>qn3 h d w) h w
  ·cases h
def eqBin(P:Program)(op:BinOp)(t:TypeId)(u v:Value):Option Bool:=
 match op,u,v with
 | .eql,.agg xs,.agg ys=>if P.eqGuardType P.depth t then none else eqP P 20 t (.agg xs) (.agg ys)
 | .neq,.agg xs,.agg ys=>if P.eqGuardType P.depth t then none else (eqP P 20 t (.agg xs) (.agg ys)).map fun c=>!c
 | .eql,.bool a,.bool b=>match P.underlying t with | some .bool=>some (a==b) | _=>none
 | .neq,.bool a,.bool b=>match P.underlying t with | some .bool=>some (!(a==b)) | _=>none
 | .eql,.string a,.string b=>match P.underlying t with | some .string=>some (a.toList==b.toList) | _=>none
 | .neq,.string a,.string b=>match P.underlying t with | some .string=>some (!(a.toList==b.toList)) | _=>none
 | _,_,_=>none
theorem quE{P:Program}{op:BinOp}{t:TypeId}{x y:Operand}{u v:Value}{c:Bool}(h:eqBin P op t u v=some c):qbJ P op t x y u v (.bool c):=by
 intro w;have h20:∀{x y:Value} {c:Bool},eqP P 20 t x y=some c→(Op.equalIn 10000 t x y).run P w=.ok c w:=fun h=>qn3 h 9980 w
 unfold eqBin at h;split at h
 ·rename_i xs ys;split at h
  ·cases h
  ·rename_i hg;simp[run_eqGuard_agg w .eql t x y xs ys (by simpa using hg),run_eql_struct,h20 h]
 ·rename_i xs ys;split at h
  ·cases h
  ·rename_i hg;rw[zc]at h;obtain⟨c',h1,rfl⟩:=h;simp[run_eqGuard_agg w .neq t x y xs ys (by simpa using hg),run_neq_struct,h20 h1]
 ·rename_i a b;split at h
  ·rename_i e;simp only[za]at h;subst h;simp[eqGuard,binOp,run_equal_bool w t a b e]
  ·cases h
 ·rename_i a b;split at h
  ·rename_i e;simp only[za]at h;subst h;simp[eqGuard,binOp,run_equal_bool w t a b e]
  ·cases h
 ·rename_i a b;split at h
  ·simp only[za]at h;subst h;simp[eqGuard,binOp,Op.stringOp,beq_toListBytes]
  ·cases h
 ·rename_i a b;split at h
  ·simp only[za]at h;subst h;simp[eqGuard,binOp,Op.stringOp,beq_toListBytes]
  ·cases h
 ·cases h
def qkF(P:Program)(op:BinOp)(t:TypeId)(x y:Operand)(p q:PV)(ans:List Ans):Got:=
 match p.int,q.int with
 | some (k,a),some (k',b)=>
  match (if k=k' then qkE op k a b ans else none) with
  | some r=>some r
  | none=>
   match ans with
   | .pv (.al (.one (.v c)))::r=>some (.one (.v c),r,[qbJ P op t x y (.int k a) (.int k' b) c])
   | _=>none
 | _,_=>
  match (match p.value,q.value with | some u,some v=>eqBin P op t u v | _,_=>none) with
  | some c=>some (.one (.sb c),ans,[])
  | none=>
  match p.value,q.value,ans with
  | some u,some v,.eq c::r=>some (.one (.sb c),r,[qbJ P op t x y u v (.bool c)])
  | some u,some v,.pv (.al (.one (.v c)))::r=>some (.one (.v c),r,[qbJ P op t x y u v c])
  | _,_,_=>none
theorem quF{P:Program}{w:World}{ω:Own}{τ:Nat→Nat×Value}{op:BinOp}{t:TypeId}{x y:Operand}{p q r:PV}{u v:Value}{ans ans':List Ans}{obs:List Prop}
  (hp:SatP (Sat w ω τ) p u) (hq:SatP (Sat w ω τ) q v) (h:qkF P op t x y p q ans=some (r,ans',obs)) (ho:Obs obs):
  ∃z,((do eqGuard op t x y u v;binOp op t u v:Sem Value)).run P w=.ok z w∧SatP (Sat w ω τ) r z:=by
 unfold qkF at h;split at h
 ·rename_i k a k' b e1 e2;rw[PV.int_sat e1 hp,PV.int_sat e2 hq];split at h
  ·rename_i r' e3;simp only[za]at h;subst h;split at e3
   ·rename_i hk;subst hk;exact quD t x y e3 ho
   ·cases e3
  ·split at h
   ·rename_i c r' _;simp only[za,zd]at h;obtain⟨rfl,_,rfl⟩:=h;exact⟨_,ho.1 w,rfl⟩
   ·cases h
 ·split at h
  ·rename_i c e0;simp only[za,zd]at h;obtain⟨rfl,_,_⟩:=h;split at e0
   ·rename_i u' v' e1 e2;rw[PV.value_sat e1 hp,PV.value_sat e2 hq];exact⟨_,quE e0 w,rfl⟩
   ·cases e0
  ·split at h
   ·rename_i u' v' c r' e1 e2;simp only[za,zd]at h;obtain⟨rfl,_,rfl⟩:=h;rw[PV.value_sat e1 hp,PV.value_sat e2 hq];exact⟨_,ho.1 w,rfl⟩
   ·rename_i u' v' c r' e1 e2;simp only[za,zd]at h;obtain⟨rfl,_,rfl⟩:=h;rw[PV.value_sat e1 hp,PV.value_sat e2 hq];exact⟨_,ho.1 w,rfl⟩
   ·cases h
end Go.Sx
namespace Go.Sx
open Go.RowKit
def Tag.ro':Tag→Tag
 | .free=>.free
 | .own t=>.ro t
 | .ro t=>.ro t
theorem Tag.ro'_R{t:Tag}{q q':List (Nat×Nat)}{o:Owner}(h:t.R q o):t.ro'.R q' o:=by
 cases t with
 | free=>exact h
 | own s=>exact .inr ⟨q,h⟩
 | ro s=>exact h
theorem Tag.ro'_hdr{t:Tag}{τ:Nat→Nat×Value}{y:Nat×Value}:t.ro'.hdr τ y:=by cases t<;>exact trivial
def D.leaf(t:Tag):D→Leaf
 | .v (.bool c)=>.sb c
 | .v x=>.v x
 | .sl k es=>.sl t.ro' k es
 | .ptr ds=>match t with | .free=>.rp ds 0 | _=>.und
 | .cl g caps=>match t with | .free=>.fd (.cl g caps) | _=>.und
theorem D.leaf_sat{w:World}{ω:Own}{τ:Nat→Nat×Value}{t:Tag}{p:Nat×Nat}{d:D}{u:Value}(h:Rep w ω (fun q=>t.R (p::q)) d u):Sat w ω τ (d.leaf t) u:=by
 cases d with
 | v x=>
  have e:u=x:=by cases h;rfl
  subst e;unfold D.leaf;split
  ·rename_i h;cases h;exact rfl
  ·rename_i h;cases h;exact rfl
  ·rename_i h;cases h
  ·rename_i h;cases h
  ·rename_i h;cases h
 | sl k es=>exact⟨h.frame fun b q hb hq=>⟨Tag.ro'_R hq,rfl⟩,Tag.ro'_hdr⟩
 | ptr ds=>
  cases t with
  | free=>
   have h2:Rep w ω Tag.free.R (.ptr ds) u:=h;have h3:=h2;cases h3 with
   | ptr R ds b arr ty fr us hb hR hs hu hd=>exact⟨b,rfl,h2⟩
  | own s=>exact trivial
  | ro s=>exact trivial
 | cl g caps=>
  cases t with
  | free=>exact h
  | own s=>exact trivial
  | ro s=>exact trivial
def D.leafSub(t i j:Nat):D→Leaf
 | .sl k es=>.sn t i j k es .here
 | d=>d.leaf (.own t)
def qd2(t i:Nat):Nat→List D→List Leaf
 | _,[]=>[]
 | j,d::ds=>d.leafSub t i j::qd2 t i (j+1) ds
theorem qn4(t i:Nat):∀(ds:List D) (j x:Nat),(qd2 t i j ds)[x]?=(ds[x]?).map (D.leafSub t i (j+x))
 | [],_,_=>by simp[qd2]
 | d::ds,j,0=>by simp[qd2]
 | d::ds,j,x+1=>by
  simp only[qd2,zaf,qn4 t i ds (j+1) x];rw[show j+1+x=j+(x+1) by omega]
theorem qn5(t i:Nat):∀(ds:List D) (j:Nat),(qd2 t i j ds).length=ds.length
 | [],_=>rfl
 | d::ds,j=>by simp[qd2,qn5 t i ds (j+1)]
def qkG(P:Program)(s:TypeId)(f:Nat):Option Nat:=
 match P.underlying s with
 | some (.struct fs)=>
  match fs[f]? with
  | some fd=>
   match P.info? fd.type with
   | some i=>if i.size=0 then none else some fd.offset
   | none=>none
  | none=>none
 | _=>none
theorem qcZ(b off n:Nat):(⟨b,off,none⟩:Addr).add n=⟨b,off+n,none⟩:=by
 unfold Addr.add;split
 ·rename_i h;simp[h]
 ·rfl
theorem qiz{P:Program}{s:TypeId}{f off:Nat}(h:qkG P s f=some off)(w:World)(b o:Nat):
  (Instr.fieldAt s (.pointer (some ⟨b,o,none⟩)) f).run P w=.ok (.pointer (some ⟨b,o+off,none⟩)) w:=by
 unfold qkG at h;split at h
 ·rename_i fs hu;split at h
  ·rename_i fd hf;split at h
   ·rename_i i hi;split at h
    ·cases h
    ·rename_i hz;simp only[za]at h;subst h;simp[Instr.fieldAt,run_underlying hu,hf,Instr.sureAddr,fieldPlace,sizeOf,typeInfo,hi,hz,qcZ]
   ·cases h
  ·cases h
 ·cases h
def qkH(P:Program)(s:TypeId)(p:PV)(f:Nat)(ans:List Ans):Got:=
 match qkG P s f,p.leaf with
 | some off,some (.ptr id o)=>some (.one (.ptr id (o+off)),ans,[])
 | some off,some (.ep t k es i j)=>some (.one (.ep t k es i (j+off)),ans,[])
 | some off,some (.rp ds o)=>some (.one (.rp ds (o+off)),ans,[])
 | some off,some (.sn t i j k es (.at_ x y))=>some (.one (.sn t i j k es (.at_ x (y+off))),ans,[])
 | _,_=>none
theorem quG{P:Program}{w:World}{ω:Own}{τ:Nat→Nat×Value}{s:TypeId}{p r:PV}{f:Nat}{v:Value}{ans ans':List Ans}{obs:List Prop}
  (hp:SatP (Sat w ω τ) p v) (h:qkH P s p f ans=some (r,ans',obs)):
  ∃z,(Instr.fieldAt s v f).run P w=.ok z w∧SatP (Sat w ω τ) r z:=by
 unfold qkH at h;split at h
 ·rename_i off id o e1 e2;simp only[za,zd]at h;obtain⟨rfl,_,rfl⟩:=h;obtain⟨b,hb,rfl⟩:=PV.leaf_sat e2 hp;exact⟨_,qiz e1 w b o,b,hb,rfl⟩
 ·rename_i off t k es i j e1 e2;simp only[za,zd]at h;obtain⟨rfl,_,rfl⟩:=h;obtain⟨b,o,cap,rfl,hi,hr,hh⟩:=PV.leaf_sat e2 hp;exact⟨_,qiz e1 w b _,b,o,cap,by rw[zcv],hi,hr,hh⟩
 ·rename_i off ds o e1 e2;simp only[za,zd]at h;obtain⟨rfl,_,rfl⟩:=h;obtain⟨b,rfl,hr⟩:=PV.leaf_sat e2 hp;exact⟨_,qiz e1 w b o,b,rfl,hr⟩
 ·rename_i off t i j k es x y e1 e2;simp only[za,zd]at h;obtain⟨rfl,_,rfl⟩:=h;obtain⟨u,⟨b,o,cap,rfl,rfl,hx⟩,hr,hm⟩:=PV.leaf_sat e2 hp;exact⟨_,qiz e1 w b _,_,⟨b,o,cap,rfl,by rw[zcv],hx⟩,hr,fun _=>hm rfl⟩
 ·cases h
def qc0(P:Program)(t:TypeId):Option (TypeId×Nat):=
 match P.underlying t with
 | some (.slice e)=>(P.info? e).map fun i=>(e,i.size)
 | _=>none
theorem qeK{P:Program}{t e:TypeId}{k:Nat}(h:qc0 P t=some (e,k)):P.underlying t=some (.slice e)∧∃i,P.info? e=some i∧i.size=k:=by
 unfold qc0 at h;split at h
 ·rename_i e' hu;rw[zc]at h;obtain⟨i,hi,h⟩:=h;simp only[zd]at h;obtain⟨rfl,rfl⟩:=h;exact⟨hu,i,hi,rfl⟩
 ·cases h
def Leaf.flat:Leaf→Leaf
 | .sv _ k es=>.sl .free k es
 | l=>l
def PV.lf(p:PV):Option Leaf:=p.leaf.map Leaf.flat
theorem PV.lf_sat{w:World}{ω:Own}{τ:Nat→Nat×Value}{p:PV}{l:Leaf}{y:Value}(h:p.lf=some l)(hs:SatP (Sat w ω τ) p y):Sat w ω τ l y:=by
 unfold PV.lf at h;rw[zc]at h;obtain⟨l0,h0,rfl⟩:=h;have:=PV.leaf_sat h0 hs;unfold Leaf.flat;split
 ·exact⟨this.1,trivial⟩
 ·exact this
def qkI(P:Program)(t:TypeId)(p q:PV)(ans:List Ans):Got:=
 match qc0 P t,p.lf,q.int with
 | some (_,k),some (.sl tag k' es),some (_,n)=>if k=k' then some (.one (.ep tag k' es n.toNat 0),ans,[0≤n,n<(es.length:Int)]) else none
 | some (_,k),some (.sn s i j k' es .here),some (_,n)=>if k=k' then some (.one (.sn s i j k' es (.at_ n.toNat 0)),ans,[0≤n,n<(es.length:Int)]) else none
 | _,_,_=>none
theorem quH{P:Program}{w:World}{ω:Own}{τ:Nat→Nat×Value}{t:TypeId}{p q r:PV}{u v:Value}{ans ans':List Ans}{obs:List Prop}
  (hp:SatP (Sat w ω τ) p u) (hq:SatP (Sat w ω τ) q v) (h:qkI P t p q ans=some (r,ans',obs)) (ho:Obs obs):
  ∃z,(Instr.indexAt t u v).run P w=.ok z w∧SatP (Sat w ω τ) r z:=by
 unfold qkI at h;split at h
 ·rename_i e k tag k' es kk n e1 e2 e3;split at h
  ·rename_i hk;subst hk;simp only[za,zd]at h;obtain⟨rfl,_,rfl⟩:=h;obtain⟨hu,i,hi,hz⟩:=qeK e1;obtain⟨hr,hh⟩:=PV.lf_sat e2 hp;rw[PV.int_sat e3 hq];have h0:0≤n:=ho.1;have h1:n<(es.length:Int):=ho.2.1;cases hr with
   | nil=>simp at h1;omega
   | row R k es b off cap arr ty fr us hb hR hc hs hk hu' hd=>
    refine⟨.pointer (some ⟨b,off+n.toNat*k+0,none⟩),?_,b,off,cap,rfl,by omega,.row _ k es b off cap arr ty fr us hb hR hc hs hk hu' hd,hh⟩;simp[Instr.indexAt,run_underlying hu,asIntOf,h0,h1,sizeOf,typeInfo,hi,hz,qcZ]
  ·cases h
 ·rename_i e k s si sj k' es kk n e1 e2 e3;split at h
  ·rename_i hk;subst hk;simp only[za,zd]at h;obtain⟨rfl,_,rfl⟩:=h;obtain⟨hu,i,hi,hz⟩:=qeK e1;obtain⟨u0,rfl,hr,hm⟩:=PV.lf_sat e2 hp;rw[PV.int_sat e3 hq];have h0:0≤n:=ho.1;have h1:n<(es.length:Int):=ho.2.1;cases hr with
   | nil=>simp at h1;omega
   | row R k es b off cap arr ty fr us hb hR hc hs hk hu' hd=>
    refine⟨.pointer (some ⟨b,off+n.toNat*k+0,none⟩),?_,_,⟨b,off,cap,rfl,rfl,by omega⟩,.row _ k es b off cap arr ty fr us hb hR hc hs hk hu' hd,hm⟩;simp[Instr.indexAt,run_underlying hu,asIntOf,h0,h1,sizeOf,typeInfo,hi,hz,qcZ]
  ·cases h
 ·cases h
theorem quI{P:Program}{w:World}{b off n:Nat}{arr:Array Value}{ty:TypeId}{fr:Nat×Nat}(hb:w.heap[b]?=some (.cells arr ty fr))(hn:off+n≤arr.size):
  (loadCells ⟨b,off,none⟩ n).run P w=.ok (arr.extract off (off+n)) w:=by
 have hl:((arr.extract off (off+n)).toList).length=n:=by simp;omega
 have:=run_loadCells_list (P:=P) w ⟨b,off,none⟩ (arr.extract off (off+n)).toList (fun j v hv=>by
  rw[qcZ,cell_of_row w b (off+j) arr ty fr hb];rw[zH,Array.getElem?_extract]at hv;split at hv
  ·exact hv
  ·cases hv)
 rw[hl,Array.toArray_toList]at this;exact this
def qdh(agg:Bool)(n:Nat)(ls:List Leaf)(off:Nat):Option PV:=
 if agg then (if off+n≤ls.length then some (.agg ((ls.drop off).take n)) else none)
 else (ls[off]?).map fun l=>.one l
theorem qfW{P:Program}{w:World}{ω:Own}{τ:Nat→Nat×Value}{t:TypeId}{agg:Bool}{i:TypeInfo}{ls:List Leaf}{off:Nat}{p:PV}(ha:qeJ P t=some agg)(hi:P.info? t=some i)
  (h:qdh agg i.size ls off=some p) {b base:Nat} {arr:Array Value} {ty:TypeId} {fr:Nat×Nat} (hb:w.heap[b]?=some (.cells arr ty fr)) (hsz:base+ls.length≤arr.size)
  (hs:∀(j:Nat) (l:Leaf),ls[j]?=some l→∃u,arr[base+j]?=some u∧Sat w ω τ l u):
  ∃z,(loadVar t ⟨b,base+off,none⟩).run P w=.ok z w∧SatP (Sat w ω τ) p z:=by
 unfold qdh at h;cases agg with
 | true=>
  simp only[zbb]at h;split at h
  ·rename_i hle;simp only[za]at h;subst h;refine⟨.agg (arr.extract (base+off) (base+off+i.size)),?_,?_⟩
   ·simp[loadVar,qfV ha,sizeOf,typeInfo,hi,quI (P:=P) hb (show base+off+i.size≤arr.size by omega)]
   ·refine⟨_,rfl,by simp;omega,fun j l hl=>?_⟩;rw[zF]at hl;split at hl
    ·rw[zA]at hl;obtain⟨u,h1,h2⟩:=hs _ l hl;refine⟨u,?_,h2⟩;rw[Array.getElem?_extract,zp (by omega),←h1]
     congr 1
     omega
    ·cases hl
  ·cases h
 | false=>
  simp only[zao,zci,zc]at h;obtain⟨l,hl,rfl⟩:=h;obtain⟨u,h1,h2⟩:=hs _ l hl;refine⟨u,?_,h2⟩;simp[loadVar,qfV ha,cell_of_row w b (base+off) arr ty fr hb,h1]
def qiA(P:Program)(st:St)(t:TypeId)(p:PV)(ans:List Ans):Got:=
 match qeJ P t,P.info? t,p.leaf with
 | some agg,some i,some (.ptr id off)=>
  match qap id st.boxes with
  | some ls=>(qdh agg i.size ls off).map fun r=>(r,ans,[])
  | none=>none
 | some agg,some i,some (.ep tag k es x j)=>
  match ans with
  | .el ds::r=>if ds.length=k then (qdh agg i.size (ds.map (D.leaf tag)) j).map fun v=>(v,r,[es[x]?=some ds]) else none
  | .sub::.el ds::r=>
   match tag with
   | .own t=>if ds.length=k then (qdh agg i.size (qd2 t x 0 ds) j).map fun v=>(v,r,[es[x]?=some ds]) else none
   | _=>none
  | _=>none
 | some agg,some i,some (.rp ds off)=>(qdh agg i.size (ds.map (D.leaf .free)) off).map fun r=>(r,ans,[])
 | some agg,some i,some (.sn s _ _ k es (.at_ x y))=>
  match ans with
  | .el ds::r=>if ds.length=k then (qdh agg i.size (ds.map (D.leaf (.ro s))) y).map fun v=>(v,r,[es[x]?=some ds]) else none
  | _=>none
 | _,_,_=>none
theorem quJ{P:Program}{w0:Base}{w:World}{a:Act}{st:St}{ω:Own}{τ:Nat→Nat×Value}{t:TypeId}{p r:PV}{v:Value}{ans ans':List Ans}{obs:List Prop}
  (hrel:RelAt w0 st a w ω τ) (hp:SatP (Sat w ω τ) p v) (h:qiA P st t p ans=some (r,ans',obs)) (ho:Obs obs):
  ∃z,(Instr.loadAt t v).run P w=.ok z w∧SatP (Sat w ω τ) r z:=by
 unfold qiA at h;split at h
 ·rename_i agg i id off e1 e2 e3;split at h
  ·rename_i ls hbx;rw[zc]at h;obtain⟨r',h1,h⟩:=h;simp only[zd]at h;obtain⟨rfl,rfl,rfl⟩:=h;obtain⟨b,hb,rfl⟩:=PV.leaf_sat e3 hp;obtain⟨b',arr,ty,hb',huniq,hheap,hsz,hsat⟩:=hrel.boxes id ls hbx;have:=huniq b hb;subst this;have:=qfW (P:=P) e1 e2 h1 hheap (base:=0) (by omega) (fun j l hl=>by simpa using hsat j l hl);simpa[Instr.loadAt,Instr.sureAddr]using this
  ·cases h
 ·rename_i agg i tag k es x j e1 e2 e3;split at h
  ·rename_i ds rr;split at h
   ·rename_i hlen;rw[zc]at h;obtain⟨r',h1,h⟩:=h;simp only[zd]at h;obtain⟨rfl,rfl,rfl⟩:=h;have hds:es[x]?=some ds:=ho.1;obtain⟨b,off,cap,rfl,hi,hr,hh⟩:=PV.leaf_sat e3 hp;cases hr with
    | nil=>simp at hi
    | row R k es b off cap arr ty fr us hb hR hc hs hk hu hd=>
     have hkx:x*k+k≤cap*k:=by
      have:(x+1)*k≤cap*k:=zB k (by omega);rw[zR]at this;omega
     have:=qfW (P:=P) (τ:=τ) (ω:=ω) e1 e2 h1 hb (base:=off+x*k) (by simp[hlen];omega) (fun jj l hl=>by
      rw[zr,zc]at hl;obtain⟨d,h2,rfl⟩:=hl;have hc:qan es x jj=some d:=by simp[qan,hds,h2]
      exact⟨us x jj,hu x jj d hc,D.leaf_sat (hd x jj d hc)⟩)
     simpa[Instr.loadAt,Instr.sureAddr]using this
   ·cases h
  ·rename_i ds rr;split at h
   ·rename_i t;split at h
    ·rename_i hlen;rw[zc]at h;obtain⟨r',h1,h⟩:=h;simp only[zd]at h;obtain⟨rfl,rfl,rfl⟩:=h;have hds:es[x]?=some ds:=ho.1;obtain⟨b,off,cap,rfl,hi,hr,hh⟩:=PV.leaf_sat e3 hp;cases hr with
     | nil=>simp at hi
     | row R k es b off cap arr ty fr us hb hR hc hs hk hu hd=>
      have hkx:x*k+k≤cap*k:=by
       have:(x+1)*k≤cap*k:=zB k (by omega);rw[zR]at this;omega
      have:=qfW (P:=P) (τ:=τ) (ω:=ω) e1 e2 h1 hb (base:=off+x*k) (by simp[qn5,hlen];omega) (fun jj l hl=>by
       rw[qn4,zc]at hl;obtain⟨d,h2,rfl⟩:=hl;rw[zv];have hc:qan es x jj=some d:=by simp[qan,hds,h2]
       have hdd:=hd x jj d hc;refine⟨us x jj,hu x jj d hc,?_⟩;cases d with
       | sl k2 es2=>exact⟨_,rfl,hdd,fun _=>⟨k,b,off,es.length,cap,arr,ty,fr,hh,hR,hb,hu x jj _ hc⟩⟩
       | v z=>exact D.leaf_sat (t:=.own t) (p:=(x,jj)) hdd
       | ptr ds=>exact D.leaf_sat (t:=.own t) (p:=(x,jj)) hdd
       | cl g cs=>exact D.leaf_sat (t:=.own t) (p:=(x,jj)) hdd)
      simpa[Instr.loadAt,Instr.sureAddr]using this
    ·cases h
   ·cases h
  ·cases h
 ·rename_i agg i ds off e1 e2 e3;rw[zc]at h;obtain⟨r',h1,h⟩:=h;simp only[zd]at h;obtain⟨rfl,rfl,rfl⟩:=h;obtain⟨b,rfl,hr⟩:=PV.leaf_sat e3 hp;have hr':Rep w ω Tag.free.R (.ptr ds) (.pointer (some ⟨b,0,none⟩)):=hr;cases hr' with
  | ptr R ds b arr ty fr us hb hR hs hu hd=>
   have:=qfW (P:=P) (τ:=τ) (ω:=ω) e1 e2 h1 hb (base:=0) (by simp;omega) (fun jj l hl=>by
    rw[zr,zc]at hl;obtain⟨d,h2,rfl⟩:=hl;exact⟨us jj,by simpa using hu jj d h2,D.leaf_sat (p:=(0,jj)) (hd jj d h2)⟩)
   simpa[Instr.loadAt,Instr.sureAddr]using this
 ·rename_i agg i s si sj k es x y e1 e2 e3;split at h
  ·rename_i ds rr;split at h
   ·rename_i hlen;rw[zc]at h;obtain⟨r',h1,h⟩:=h;simp only[zd]at h;obtain⟨rfl,rfl,rfl⟩:=h;have hds:es[x]?=some ds:=ho.1;obtain⟨u0,⟨b,off,cap,rfl,rfl,hi⟩,hr,hm⟩:=PV.leaf_sat e3 hp;cases hr with
    | nil=>simp at hi
    | row R k es b off cap arr ty fr us hb hR hc hs hk hu hd=>
     have hkx:x*k+k≤cap*k:=by
      have:(x+1)*k≤cap*k:=zB k (by omega);rw[zR]at this;omega
     have:=qfW (P:=P) (τ:=τ) (ω:=ω) e1 e2 h1 hb (base:=off+x*k) (by simp[hlen];omega) (fun jj l hl=>by
      rw[zr,zc]at hl;obtain⟨d,h2,rfl⟩:=hl;have hc:qan es x jj=some d:=by simp[qan,hds,h2]
      refine⟨us x jj,hu x jj d hc,D.leaf_sat (t:=.ro s) (p:=(x,jj)) ((hd x jj d hc).frame fun b q _ hq=>⟨.inr ⟨_,hq⟩,rfl⟩)⟩)
     simpa[Instr.loadAt,Instr.sureAddr]using this
   ·cases h
  ·cases h
 ·cases h
def qkJ(P:Program)(t:TypeId)(p:PV)(ans:List Ans):Got:=
 match P.underlying t,p.lf with
 | some (.slice _),some (.sl _ _ es)=>some (.one (.v (.int .i64 es.length)),ans,[])
 | some (.slice _),some (.v (.slice _ n _))=>some (.one (.v (.int .i64 n)),ans,[])
 | some (.slice _),some (.sn _ _ _ _ es .here)=>some (.one (.v (.int .i64 es.length)),ans,[])
 | some (.slice _),some (.sn _ _ _ _ es .away)=>some (.one (.v (.int .i64 es.length)),ans,[])
 | some .string,some (.v (.string s))=>some (.one (.v (.int .i64 s.size)),ans,[])
 | _,_=>none
theorem Rep.len{w:World}{ω:Own}{R:List (Nat×Nat)→Owner→Prop}{k:Nat}{es:List (List D)}{y:Value}(h:Rep w ω R (.sl k es) y):∃b c,y=.slice b es.length c:=by
 cases h with
 | nil=>exact⟨_,_,rfl⟩
 | row R k es b off cap arr ty fr us hb hR hc hs hk hu hd=>exact⟨_,_,rfl⟩
theorem quK{P:Program}{w:World}{ω:Own}{τ:Nat→Nat×Value}{t ty:TypeId}{p r:PV}{v:Value}{ans ans':List Ans}{obs:List Prop}
  (hp:SatP (Sat w ω τ) p v) (h:qkJ P t p ans=some (r,ans',obs)):
  ∃z,(Builtin.len_ #[t] ty #[v]).run P w=.ok z w∧SatP (Sat w ω τ) r z:=by
 unfold qkJ at h;split at h
 ·rename_i e tg k es e1 e2;simp only[za,zd]at h;obtain⟨rfl,_,rfl⟩:=h;obtain⟨hr,_⟩:=PV.lf_sat e2 hp;obtain⟨b,c,rfl⟩:=hr.len;exact⟨_,by simp[Builtin.len_,run_underlying e1];rfl,rfl⟩
 ·rename_i e b n c e1 e2;simp only[za,zd]at h;obtain⟨rfl,_,rfl⟩:=h;have:v=.slice b n c:=PV.lf_sat e2 hp;subst this;exact⟨_,by simp[Builtin.len_,run_underlying e1];rfl,rfl⟩
 ·rename_i e s si sj k es e1 e2;simp only[za,zd]at h;obtain⟨rfl,_,rfl⟩:=h;obtain⟨u0,rfl,hr,_⟩:=PV.lf_sat e2 hp;obtain⟨b,c,rfl⟩:=hr.len;exact⟨_,by simp[Builtin.len_,run_underlying e1];rfl,rfl⟩
 ·rename_i e s si sj k es e1 e2;simp only[za,zd]at h;obtain⟨rfl,_,rfl⟩:=h;obtain⟨u0,rfl,hr,_⟩:=PV.lf_sat e2 hp;obtain⟨b,c,rfl⟩:=hr.len;exact⟨_,by simp[Builtin.len_,run_underlying e1];rfl,rfl⟩
 ·rename_i s e1 e2;simp only[za,zd]at h;obtain⟨rfl,_,rfl⟩:=h;have:v=.string s:=PV.lf_sat e2 hp;subst this;exact⟨_,by simp[Builtin.len_,run_underlying e1];rfl,rfl⟩
 ·cases h
theorem qn6{es:List (List D)}{l n i j:Nat}{d:D}(h:qan ((es.drop l).take n) i j=some d):i<n∧qan es (l+i) j=some d:=by
 unfold qan at h ⊢;rw[zF]at h;split at h
 ·rw[zA]at h;exact⟨by omega,h⟩
 ·simp at h
theorem Rep.sub{w:World}{ω:Own}{R R':List (Nat×Nat)→Owner→Prop}{k:Nat}{es:List (List D)}{b off cap:Nat}(h:Rep w ω R (.sl k es) (.slice (some ⟨b,off,none⟩) es.length cap))
  {l m:Nat} (hl:l≤m) (hm:m≤es.length) (hR0:∀o,R [] o→R' [] o) (hR1:∀i j q o,l≤i→R ((i,j)::q) o→R' ((i-l,j)::q) o):
  Rep w ω R' (.sl k ((es.drop l).take (m-l))) (sliced (some ⟨b,off,none⟩) l m cap k):=by
 cases h with
 | nil=>
  have e1:l=0:=by simp at hm;omega
  have e2:m=0:=by simp at hm;omega
  subst e1 e2;simpa[sliced]using Rep.nil R' k _
 | row R k es b off cap arr ty fr us hb hR hc hs hk hu hd=>
  have hlen:((es.drop l).take (m-l)).length=m-l:=by simp;omega
  have hmul:l*k+(cap-l)*k=cap*k:=by rw[←zR];congr 1;omega
  have key:∀o':Nat,(cap=l∨o'=off+l*k)→o'+(cap-l)*k≤arr.size→
    Rep w ω R' (.sl k ((es.drop l).take (m-l))) (.slice (some ⟨b,o',none⟩) (m-l) (cap-l)):=by
   intro o' ho hsz;have hz:cap=l→m-l=0:=fun e=>by omega
   have hr:=Rep.row (w:=w) (ω:=ω) R' k ((es.drop l).take (m-l)) b o' (cap-l) arr ty fr (fun i j=>us (l+i) j) hb (hR0 _ hR) (by omega) hsz
    (fun e he=>hk e (zbn (zbh he)))
    (fun i j d hc'=>by
     obtain⟨hi,hc''⟩:=qn6 hc';rcases ho with ho | rfl
     ·have:=hz ho;omega
     ·rw[←hu (l+i) j d hc'']
      congr 1
      rw[zR];omega)
    (fun i j d hc'=>by
     obtain⟨hi,hc''⟩:=qn6 hc';refine (hd (l+i) j d hc'').frame fun b q _ hq=>⟨?_,rfl⟩
     have:=hR1 _ _ _ _ (Nat.le_add_right l i) hq;rwa[show l+i-l=i by omega]at this)
   rw[hlen]at hr;exact hr
  unfold sliced;split
  ·rename_i hcl;exact key off (.inl hcl) (by have:cap-l=0:=(by omega);rw[this];simp;omega)
  ·simp only[zaw,qcZ];exact key _ (.inr rfl) (by omega)
def Leaf.view:Leaf→Leaf
 | .sn t _ _ k es .here=>.sl (.ro t) k es
 | .sn t _ _ k es .away=>.sl (.ro t) k es
 | .sv _ k es=>.sl .free k es
 | l=>l
theorem Leaf.view_sat{w:World}{ω:Own}{τ:Nat→Nat×Value}{l:Leaf}{y:Value}(hs:Sat w ω τ l y):Sat w ω τ l.view y:=by
 unfold Leaf.view;split
 ·obtain⟨u0,rfl,hr,_⟩:=hs;exact⟨hr.frame fun b q _ hq=>⟨.inr ⟨_,hq⟩,rfl⟩,trivial⟩
 ·obtain⟨u0,rfl,hr,_⟩:=hs;exact⟨hr.frame fun b q _ hq=>⟨.inr ⟨_,hq⟩,rfl⟩,trivial⟩
 ·exact⟨hs.1,trivial⟩
 ·exact hs
theorem PV.view_sat{w:World}{ω:Own}{τ:Nat→Nat×Value}{p:PV}{l:Leaf}{y:Value}(h:p.leaf.map Leaf.view=some l)(hs:SatP (Sat w ω τ) p y):Sat w ω τ l y:=by
 rw[zc]at h;obtain⟨l0,h0,rfl⟩:=h;exact Leaf.view_sat (PV.leaf_sat h0 hs)
def qb3(st:St):Option Operand→Option (Option Int)
 | none=>some none
 | some x=>((st.ev x).int).map fun p=>some p.2
def qiB(P:Program)(st:St)(t:TypeId)(p:PV)(lo hi mx:Option Operand)(ans:List Ans):Got:=
 match qc0 P t,p.leaf.map Leaf.view,mx with
 | some (_,k),some (.sl tag k' es),none=>
  if k=k' then
   match qb3 st lo,qb3 st hi with
   | some l,some h=>some (.one (.sl tag.ro' k ((es.drop (l.getD 0).toNat).take ((h.getD es.length).toNat-(l.getD 0).toNat))),ans,[0≤l.getD 0,l.getD 0≤h.getD es.length,h.getD es.length≤es.length])
   | _,_=>none
  else none
 | _,_,_=>none
theorem qg2{P:Program}{w:World}{len cap:Nat}{lo hi:Option Value}{l h:Int}(hl:lo=none∧l=0∨∃k,lo=some (.int k l))(hh:hi=none∧h=len∨∃k,hi=some (.int k h))
  (h0:0≤l) (h1:l≤h) (h2:h≤cap):(Instr.sliceBounds true len cap lo hi none).run P w=.ok (l.toNat,h.toNat,cap) w:=by
 have eh:(h.toNat:Int)=h:=Int.toNat_of_nonneg (by omega);have h3:0≤h:=by omega
 rcases hl with⟨rfl,rfl⟩ | ⟨k,rfl⟩<;>rcases hh with⟨rfl,rfl⟩ | ⟨k',rfl⟩<;>
  simp_all[Instr.sliceBounds,run_sliceBound]
theorem qg3{w0:Base}{w:World}{a:Act}{st:St}{ω:Own}{τ:Nat→Nat×Value}(hrel:RelAt w0 st a w ω τ){x:Option Operand}{r:Option Int}(h:qb3 st x=some r):
  (x.map a.eval=none∧r=none)∨∃k n,x.map a.eval=some (.int k n)∧r=some n:=by
 cases x with
 | none=>simp[qb3]at h;exact .inl ⟨rfl,h.symm⟩
 | some x=>
  simp only[qb3,zc]at h;obtain⟨⟨k,n⟩,h1,h2⟩:=h;exact .inr ⟨k,n,by simp[PV.int_sat h1 (hrel.ev x)],h2.symm⟩
theorem quL{P:Program}{w0:Base}{w:World}{a:Act}{st:St}{ω:Own}{τ:Nat→Nat×Value}{t:TypeId}{p r:PV}{v:Value}{lo hi mx:Option Operand}{ans ans':List Ans}{obs:List Prop}
  (hrel:RelAt w0 st a w ω τ) (hp:SatP (Sat w ω τ) p v) (h:qiB P st t p lo hi mx ans=some (r,ans',obs)) (ho:Obs obs):
  ∃z,(Instr.sliceAt t v (lo.map a.eval) (hi.map a.eval) (mx.map a.eval)).run P w=.ok z w∧SatP (Sat w ω τ) r z:=by
 unfold qiB at h;split at h
 ·rename_i e k tag k' es e1 e2;split at h
  ·rename_i hk;subst hk;split at h
   ·rename_i l hh e3 e4;simp only[za,zd]at h;obtain⟨rfl,_,rfl⟩:=h;obtain⟨hu,i,hi',hz⟩:=qeK e1;obtain⟨hr,_⟩:=PV.view_sat e2 hp;obtain⟨o1,o2,o3,_⟩:=ho;have h3:=qg3 hrel e3;have h4:=qg3 hrel e4;have hl':(lo.map a.eval=none∧l.getD 0=0)∨∃k,lo.map a.eval=some (.int k (l.getD 0)):=by
     rcases h3 with⟨h,rfl⟩ | ⟨k,n,h,rfl⟩
     ·exact .inl ⟨h,rfl⟩
     ·exact .inr ⟨k,h⟩
    have hh':(hi.map a.eval=none∧hh.getD es.length=es.length)∨∃k,hi.map a.eval=some (.int k (hh.getD es.length)):=by
     rcases h4 with⟨h,rfl⟩ | ⟨k,n,h,rfl⟩
     ·exact .inl ⟨h,rfl⟩
     ·exact .inr ⟨k,h⟩
    cases hr with
    | nil _ _ a0=>
     simp only[zh] at*;have e0:l.getD 0=0:=by omega
     have e0':hh.getD ((0:Nat):Int)=0:=by omega
     refine⟨.slice a0 0 0,?_,?_⟩
     ·simp only[Instr.sliceAt,Sem.run_bind,run_underlying hu,Result.andThen_ok,Instr.slice,Option.map_none];rw[qg2 hl' hh' o1 o2 o3];have e0'':hh.getD 0=0:=by simpa using e0'
      simp[sizeOf,typeInfo,hi',e0,e0'']
     ·refine⟨?_,Tag.ro'_hdr⟩;simp only[List.drop_nil,List.take_nil];exact .nil _ _ _
    | row R k es b off cap arr ty fr us hb hR hc hs hk hu' hd=>
     refine⟨sliced (some ⟨b,off,none⟩) (l.getD 0).toNat (hh.getD es.length).toNat cap k,?_,?_,Tag.ro'_hdr⟩
     ·simp only[Instr.sliceAt,Sem.run_bind,run_underlying hu,Result.andThen_ok,Instr.slice,Option.map_none];rw[qg2 hl' hh' o1 o2 (by omega)];simp[sizeOf,typeInfo,hi',hz,sliced]
     ·exact Rep.sub (.row _ k es b off cap arr ty fr us hb hR hc hs hk hu' hd) (by omega) (by omega) (fun o h=>Tag.ro'_R h) (fun i j q o _ h=>Tag.ro'_R h)
   ·cases h
  ·cases h
 ·cases h
end Go.Sx
namespace Go.Sx
open Go.RowKit
def Leaf.ok:Leaf→Bool
 | .und=>false
 | .v x=>x.oneCell'
 | _=>true
theorem Rep.oneCell{w:World}{ω:Own}{R:List (Nat×Nat)→Owner→Prop}{d:D}{y:Value}(h:Rep w ω R d y):y.oneCell'=true:=by
 cases h with
 | v R x h1=>exact h1
 | nil=>rfl
 | row=>rfl
 | ptr=>rfl
 | cl=>rfl
theorem Leaf.ok_cell{w:World}{ω:Own}{τ:Nat→Nat×Value}{l:Leaf}{y:Value}(h:l.ok=true)(hs:Sat w ω τ l y):y.oneCell'=true:=by
 cases l with
 | und=>cases h
 | v x=>have:y=x:=hs;subst this;exact h
 | sb c=>have:y=.bool c:=hs;subst this;rfl
 | sl t k es=>exact hs.1.oneCell
 | ptr id off=>obtain⟨b,_,rfl⟩:=hs;rfl
 | ep t k es i j=>obtain⟨b,off,cap,rfl,_⟩:=hs;rfl
 | rp ds off=>obtain⟨b,rfl,_⟩:=hs;rfl
 | fd d=>exact Rep.oneCell hs
 | sv t k es=>exact hs.1.oneCell
 | clo g ids=>obtain⟨bs,rfl,_⟩:=hs;rfl
 | sn t i j k es m=>
  obtain⟨u,hu,hr,_⟩:=hs;cases m with
  | at_ x y=>obtain⟨b,off,cap,_,rfl,_⟩:=hu;rfl
  | here=>have:y=u:=hu;subst this;exact hr.oneCell
  | away=>have:y=u:=hu;subst this;exact hr.oneCell
 | np t vs=>obtain⟨b,ty,arr,rfl,_⟩:=hs;rfl
theorem qg4{y:Value}(h:y.oneCell'=true):y.cells=#[y]:=by
 cases y<;>first | rfl | (simp[Value.oneCell']at h)
def PV.leaves:PV→Option (List Leaf)
 | .al (.one l)=>if l.ok then some [l] else none
 | .al (.agg ls)=>if ls.all Leaf.ok then some ls else none
 | _=>none
theorem PV.leaves_sat{w:World}{ω:Own}{τ:Nat→Nat×Value}{p:PV}{ls:List Leaf}{y:Value}(h:p.leaves=some ls)(hs:SatP (Sat w ω τ) p y):
  SatL (Sat w ω τ) ls y.cells∧∀u∈y.cells.toList,u.oneCell'=true:=by
 unfold PV.leaves at h;split at h
 ·rename_i l;split at h
  ·rename_i hok;simp only[za]at h;subst h;have h1:=Leaf.ok_cell hok hs;rw[qg4 h1];refine⟨⟨rfl,fun i l' hl=>?_⟩,by simpa using h1⟩;cases i with
   | zero=>simp at hl;subst hl;exact⟨y,rfl,hs⟩
   | succ i=>simp at hl
  ·cases h
 ·rename_i ls';split at h
  ·rename_i hok;simp only[za]at h;subst h;obtain⟨vs,rfl,hn,hv⟩:=hs;refine⟨⟨hn,hv⟩,fun u hu=>?_⟩;obtain⟨i,hi⟩:=zak.1 hu;have hlt:i<ls'.length:=by
    have:=(zk.1 hi).1;simp[Value.cells]at this;omega
   obtain⟨u',h1,h2⟩:=hv i ls'[i] (by simp);have e:u=u':=by
    have:(Value.agg vs).cells.toList[i]?=vs[i]?:=by simp[Value.cells]
    rw[this,h1]at hi;exact (zx hi).symm
   subst e;exact Leaf.ok_cell (zM.1 hok _ (zax hlt)) h2
  ·cases h
 ·cases h
theorem qn7(off:Nat):∀(vs:List Value) (k:Nat) (cells:Array Value) (i:Nat),off+k+vs.length≤cells.size→
  ((vs.zipIdx k).foldl (fun cs (x:Value×Nat)=>cs.setIfInBounds (off+x.2) x.1) cells)[i]?=if off+k≤i∧i<off+k+vs.length then vs[i-(off+k)]? else cells[i]?
 | [],k,cells,i,_=>by simp;intro h1 h2;omega
 | v::vs,k,cells,i,h=>by
  simp only[List.zipIdx_cons,List.foldl_cons,zq]at h ⊢;rw[qn7 off vs (k+1) _ i (by simp;omega),Array.getElem?_setIfInBounds];by_cases h1:off+k=i
  ·subst h1;rw[zo (by omega),zp rfl,zp (by omega),zp (by omega)];simp
  ·by_cases h2:off+(k+1)≤i∧i<off+(k+1)+vs.length
   ·rw[zp h2,zp (by omega)];obtain⟨j,hj⟩:∃j,i-(off+k)=j+1:=⟨i-(off+k)-1,by omega⟩
    rw[hj,zaf]
    congr 1
    omega
   ·rw[zo h2,zo h1,zo (by omega)]
theorem qn8(off:Nat):∀(l:List (Value×Nat)) (cells:Array Value),(l.foldl (fun cs (x:Value×Nat)=>cs.setIfInBounds (off+x.2) x.1) cells).size=cells.size
 | [],_=>rfl
 | x::l,cells=>by simp only[List.foldl_cons];rw[qn8 off l];simp
def blit(ls:List Leaf)(off:Nat)(xs:List Leaf):List Leaf:=ls.take off++(xs++ls.drop (off+xs.length))
theorem qn9{ls xs:List Leaf}{off i:Nat}(h:off+xs.length≤ls.length):(blit ls off xs)[i]?=if off≤i∧i<off+xs.length then xs[i-off]? else ls[i]?:=by
 unfold blit;rw[zT,zay,Nat.min_eq_left (by omega)];by_cases h1:i<off
 ·rw[zp h1,zo (by omega),zF,zp h1]
 ·rw[zo h1,zT];by_cases h2:i-off<xs.length
  ·rw[zp h2,zp (by omega)]
  ·rw[zo h2,zo (by omega),zA]
   congr 1
   omega
theorem qkK{ls xs:List Leaf}{off:Nat}(h:off+xs.length≤ls.length):(blit ls off xs).length=ls.length:=by
 simp[blit];omega
def fillL(place:Nat→Option (Nat×Nat))(ls:List Leaf):List (Nat×PV)→Option (List Leaf)
 | []=>some ls
 | (i,p)::rest=>
  match place i,p.leaves with
  | some (off,size),some xs=>if xs.length=size∧off+size≤ls.length then fillL place (blit ls off xs) rest else none
  | _,_=>none
theorem qkL{w:World}{ω:Own}{τ:Nat→Nat×Value}{place:Nat→Option (Nat×Nat)}:∀{parts:List (Nat×PV)} {vals:List (Nat×Value)} {ls r:List Leaf} {cells:Array Value},
  parts.length=vals.length→(∀(j:Nat) i p,parts[j]?=some (i,p)→∃v,vals[j]?=some (i,v)∧SatP (Sat w ω τ) p v)→fillL place ls parts=some r→SatL (Sat w ω τ) ls cells→
  ∃out,Instr.fill place cells vals=some out∧SatL (Sat w ω τ) r out
 | [],vals,ls,r,cells,hn,_,h,hs=>by
  have:vals=[]:=zbv (by simpa using hn.symm);subst this;simp only[fillL,za]at h;subst h;exact⟨cells,rfl,hs⟩
 | (i,p)::parts,vals,ls,r,cells,hn,hp,h,hs=>by
  obtain⟨v,hv,hsat⟩:=hp 0 i p rfl;cases vals with
  | nil=>simp at hv
  | cons x vals=>
   simp only[zag,za]at hv;subst hv;simp only[fillL]at h;split at h
   ·rename_i off size xs e1 e2;split at h
    ·rename_i hc;obtain⟨hc1,hc2⟩:=hc;obtain⟨⟨hsz,hxs⟩,_⟩:=PV.leaves_sat e2 hsat;have hsz':v.cells.size=size:=by omega
     have hcs:off+v.cells.size≤cells.size:=by have:=hs.1;omega
     have hnew:SatL (Sat w ω τ) (blit ls off xs) (v.cells.zipIdx.foldl (fun cs (c,j)=>cs.setIfInBounds (off+j) c) cells):=by
      have e:v.cells.zipIdx.foldl (fun cs (c,j)=>cs.setIfInBounds (off+j) c) cells=(v.cells.toList.zipIdx 0).foldl (fun cs (x:Value×Nat)=>cs.setIfInBounds (off+x.2) x.1) cells:=by
       rw[←Array.foldl_toList];simp
      rw[e];refine⟨by rw[qn8,qkK (by omega)];exact hs.1,fun j l hl=>?_⟩;rw[qn9 (by omega)]at hl;rw[qn7 off _ 0 _ _ (by simp;omega)];simp only[zbx,zbj];by_cases hj:off≤j∧j<off+xs.length
      ·rw[zp hj]at hl;rw[zp (by omega)];obtain⟨u,h1,h2⟩:=hxs _ _ hl;exact⟨u,by simpa using h1,h2⟩
      ·rw[zo hj]at hl;rw[zo (by omega)];exact hs.2 _ _ hl
     obtain⟨out,h1,h2⟩:=qkL (parts:=parts) (vals:=vals) (by simpa using hn) (fun j i' p' hj=>by have:=hp (j+1) i' p' (by simpa using hj);simpa using this) h hnew;refine⟨out,?_,h2⟩;simp only[Instr.fill,e1];rw[zo (by simp;omega)];exact h1
    ·cases h
   ·cases h
def qkM(P:Program)(t:TypeId)(f:Nat):Option (Nat×Nat):=
 match P.underlying t with
 | some (.struct fs)=>
  match fs[f]? with
  | some fd=>(P.info? fd.type).map fun i=>(fd.offset,i.size)
  | none=>none
 | _=>none
def qiC(P:Program)(st:St)(t:TypeId)(parts:List (Nat×Operand))(ans:List Ans):Got:=
 match P.underlying t,P.info? t with
 | some (.struct fs),some i=>
  match i.zero with
  | some z=>
   if fs.toList.all fun f=>(P.info? f.type).isSome then
    (fillL (qkM P t) (z.cells.toList.map .v) (parts.map fun x=>(x.1,st.ev x.2))).map fun ls=>(.agg ls,ans,[])
   else none
  | none=>none
 | _,_=>none
theorem qoa{P:Program}(w:World):∀(fs:List Field),(∀f∈fs,(P.info? f.type).isSome=true)→
  (fs.mapM fun f=>(do pure (f.offset,←sizeOf f.type):Sem (Nat×Nat))).run P w=.ok (fs.map fun f=>(f.offset,((P.info? f.type).map (·.size)).getD 0)) w
 | [],_=>by simp
 | f::fs,h=>by
  obtain⟨i,hi⟩:=zaj.1 (h f (by simp));have ih:=qoa (P:=P) w fs (fun g hg=>h g (by simp[hg]));simp only[zch,Sem.run_bind,sizeOf,typeInfo,run_program,Result.andThen_ok,hi,Sem.run_pure,zav,zaw,zV];simp only[Sem.run_bind,sizeOf,typeInfo,Sem.run_pure]at ih;rw[ih];simp
theorem qiD{P:Program}{α β:Type}(f:α→Sem β)(xs:Array α)(w:World)(r:List β)(h:(xs.toList.mapM f).run P w=.ok r w):(xs.mapM f).run P w=.ok r.toArray w:=by
 rw[←Array.toArray_toList (xs:=xs),List.mapM_toArray];rw[←bind_pure_comp,Sem.run_bind,h];rfl
theorem quM{P:Program}{w0:Base}{w:World}{a:Act}{st:St}{ω:Own}{τ:Nat→Nat×Value}{t:TypeId}{parts:Array (Nat×Operand)}{r:PV}{ans ans':List Ans}{obs:List Prop}
  (hrel:RelAt w0 st a w ω τ) (h:qiC P st t parts.toList ans=some (r,ans',obs)):
  ∃z,(Instr.build t (parts.map fun (i,x)=>(i,a.eval x))).run P w=.ok z w∧SatP (Sat w ω τ) r z:=by
 unfold qiC at h;split at h
 ·rename_i fs i hu hi;split at h
  ·rename_i z hz;split at h
   ·rename_i hall;rw[zc]at h;obtain⟨ls,h1,h⟩:=h;simp only[zd]at h;obtain⟨rfl,_,_⟩:=h;have hzs:SatL (Sat w ω τ) (z.cells.toList.map .v) z.cells:=by
     refine⟨by simp,fun j l hl=>?_⟩;rw[zr,zc]at hl;obtain⟨u,hu,rfl⟩:=hl;exact⟨u,by simpa using hu,rfl⟩
    obtain⟨out,h2,h3⟩:=qkL (vals:=parts.toList.map fun x=>(x.1,a.eval x.2)) (by simp) (fun j i' p hj=>by
     rw[zr,zc]at hj;obtain⟨⟨i2,x⟩,hx,e⟩:=hj;simp only[zd]at e;obtain⟨rfl,rfl⟩:=e;exact⟨a.eval x,by simp only[zr,hx,zaw],hrel.ev x⟩) h1 hzs
    have hm:=qiD (P:=P) (fun f:Field=>(do pure (f.offset,←sizeOf f.type):Sem (Nat×Nat))) fs w _ (qoa (P:=P) w fs.toList (fun f hf=>zM.1 hall f hf));have hplace:(fun x=>(fs.toList.map fun f=>(f.offset,((P.info? f.type).map (·.size)).getD 0)).toArray[x]?)=qkM P t:=by
     funext x;simp only[zY,zr,zH,qkM,hu];cases hx:fs[x]? with
     | none=>rfl
     | some fd=>
      have:(P.info? fd.type).isSome=true:=zM.1 hall fd (by simpa using Array.mem_of_getElem? hx);obtain⟨i',hi'⟩:=zaj.1 this;simp[hi']
    refine⟨.agg out,?_,out,rfl,h3⟩;simp only[Instr.build,Sem.run_bind,zeroValue,typeInfo,run_program,Result.andThen_ok,hi,Sem.run_pure,hz,run_underlying hu,hm,hplace];have e:(Array.map (fun (x:Nat×Operand)=>(x.1,a.eval x.2)) parts).toList=parts.toList.map fun x=>(x.1,a.eval x.2):=by simp
    simp only[e,h2,Sem.run_pure]
   ·cases h
  ·cases h
 ·cases h
def qkN(p:PV)(ix:Nat)(ans:List Ans):Got:=
 match p with
 | .tup as=>(as[ix]?).map fun a=>(.al a,ans,[])
 | _=>none
theorem quN{P:Program}{w:World}{ω:Own}{τ:Nat→Nat×Value}{p r:PV}{ix:Nat}{v:Value}{ans ans':List Ans}{obs:List Prop}
  (hp:SatP (Sat w ω τ) p v) (h:qkN p ix ans=some (r,ans',obs)):∃z,(Instr.extract v ix).run P w=.ok z w∧SatP (Sat w ω τ) r z:=by
 unfold qkN at h;split at h
 ·rename_i as;rw[zc]at h;obtain⟨al,h1,h⟩:=h;simp only[zd]at h;obtain⟨rfl,_,_⟩:=h;obtain⟨vs,rfl,hn,hv⟩:=hp;obtain⟨u,h2,h3⟩:=hv _ _ h1;exact⟨u,by simp[Instr.extract,h2],h3⟩
 ·cases h
def qkO(P:Program)(t:TypeId)(p:PV)(f:Nat)(ans:List Ans):Got:=
 match P.underlying t with
 | some (.struct fs)=>
  match fs[f]? with
  | some fd=>
   match qeJ P fd.type,P.info? fd.type,p with
   | some agg,some i,.al (.agg ls)=>(qdh agg i.size ls fd.offset).map fun r=>(r,ans,[])
   | _,_,_=>none
  | none=>none
 | _=>none
theorem quO{P:Program}{w:World}{ω:Own}{τ:Nat→Nat×Value}{t:TypeId}{p r:PV}{f:Nat}{v:Value}{ans ans':List Ans}{obs:List Prop}
  (hp:SatP (Sat w ω τ) p v) (h:qkO P t p f ans=some (r,ans',obs)):∃z,(Instr.field t v f).run P w=.ok z w∧SatP (Sat w ω τ) r z:=by
 unfold qkO at h;split at h
 ·rename_i fs hu;split at h
  ·rename_i fd hf;split at h
   ·rename_i agg i ls e1 e2;rw[zc]at h;obtain⟨r',h1,h⟩:=h;simp only[zd]at h;obtain⟨rfl,_,_⟩:=h;obtain⟨vs,rfl,hn,hv⟩:=hp;unfold qdh at h1;cases agg with
    | true=>
     simp only[zbb]at h1;split at h1
     ·rename_i hle;simp only[za]at h1;subst h1;refine⟨.agg (vs.extract fd.offset (fd.offset+i.size)),by simp[Instr.field,run_underlying hu,hf,asAgg,part,qfV e1,sizeOf,typeInfo,e2],_,rfl,by simp;omega,fun j l hl=>?_⟩;rw[zF]at hl;split at hl
      ·rw[zA]at hl;obtain⟨u,h1,h2⟩:=hv _ l hl;refine⟨u,?_,h2⟩;rw[Array.getElem?_extract,zp (by omega),←h1]
      ·cases hl
     ·cases h1
    | false=>
     simp only[zao,zci,zc]at h1;obtain⟨l,hl,rfl⟩:=h1;obtain⟨u,h1,h2⟩:=hv _ l hl;exact⟨u,by simp[Instr.field,run_underlying hu,hf,asAgg,part,qfV e1,h1],h2⟩
   ·cases h
  ·cases h
 ·cases h
def qkP(op:UnOp)(p:PV)(ans:List Ans):Got:=
 match op,p.leaf with
 | .not,some (.sb c)=>some (.one (.sb (!c)),ans,[])
 | .not,some (.v (.bool c))=>some (.one (.v (.bool (!c))),ans,[])
 | .neg,some (.v (.int k n))=>arith k (0-n) ans
 | _,_=>none
theorem quP{P:Program}{w:World}{ω:Own}{τ:Nat→Nat×Value}{op:UnOp}{p r:PV}{v:Value}{ans ans':List Ans}{obs:List Prop}
  (hp:SatP (Sat w ω τ) p v) (h:qkP op p ans=some (r,ans',obs)) (ho:Obs obs):∃z,(Op.unary op v).run P w=.ok z w∧SatP (Sat w ω τ) r z:=by
 unfold qkP at h;split at h
 ·rename_i c e;simp only[za,zd]at h;obtain⟨rfl,_,_⟩:=h;have:v=.bool c:=PV.leaf_sat e hp;subst this;exact⟨_,rfl,rfl⟩
 ·rename_i c e;simp only[za,zd]at h;obtain⟨rfl,_,_⟩:=h;have:v=.bool c:=PV.leaf_sat e hp;subst this;exact⟨_,rfl,rfl⟩
 ·rename_i k n e;have:v=.int k n:=PV.leaf_sat e hp;subst this;exact⟨_,rfl,qfU h ho⟩
 ·cases h
def stepPick(c a b:PV)(ans:List Ans):Got:=
 match c.leaf with
 | some (.v (.bool true))=>some (a,ans,[])
 | some (.v (.bool false))=>some (b,ans,[])
 | some (.sb c)=>
  match ans with
  | .br true::r=>some (a,r,[c=true])
  | .br false::r=>some (b,r,[c=false])
  | _=>none
 | _=>none
theorem quQ{P:Program}{w:World}{ω:Own}{τ:Nat→Nat×Value}{c a b r:PV}{u x y:Value}{ans ans':List Ans}{obs:List Prop}
  (hc:SatP (Sat w ω τ) c u) (ha:SatP (Sat w ω τ) a x) (hb:SatP (Sat w ω τ) b y) (h:stepPick c a b ans=some (r,ans',obs)) (ho:Obs obs):
  ∃z,(do pure (.value (if ←asBool u then x else y)):Sem Next).run P w=.ok (.value z) w∧SatP (Sat w ω τ) r z:=by
 unfold stepPick at h;split at h
 ·rename_i e;simp only[za,zd]at h;obtain⟨rfl,_,_⟩:=h;have:u=.bool true:=PV.leaf_sat e hc;subst this;exact⟨x,rfl,ha⟩
 ·rename_i e;simp only[za,zd]at h;obtain⟨rfl,_,_⟩:=h;have:u=.bool false:=PV.leaf_sat e hc;subst this;exact⟨y,rfl,hb⟩
 ·rename_i c' e;have:u=.bool c':=PV.leaf_sat e hc;subst this;split at h
  ·simp only[za,zd]at h;obtain⟨rfl,_,rfl⟩:=h;have hc':c'=true:=ho.1;subst hc';exact⟨x,rfl,ha⟩
  ·simp only[za,zd]at h;obtain⟨rfl,_,rfl⟩:=h;have hc':c'=false:=ho.1;subst hc';exact⟨y,rfl,hb⟩
  ·cases h
 ·cases h
def qfX:List (List D)→Option (List Int)
 | []=>some []
 | [.v (.int .u8 n)]::r=>(qfX r).map (n::·)
 | _=>none
theorem qob:∀{es:List (List D)} {xs:List Int},qfX es=some xs→xs.length=es.length∧∀i,i<xs.length→qan es i 0=some (.v (.int .u8 (xs.getD i 0)))∧∀e,es[i]?=some e→e.length=1
 | [],xs,h=>by
  simp only[qfX,za]at h;subst h;exact⟨rfl,fun i hi=>by simp at hi⟩
 | e::r,xs,h=>by
  unfold qfX at h;split at h
  ·rename_i he;cases he
  ·rename_i n r' he;obtain⟨rfl,rfl⟩:=zG he;rw[zc]at h;obtain⟨ys,h1,rfl⟩:=h;obtain⟨h2,h3⟩:=qob h1;refine⟨by simp[h2],fun i hi=>?_⟩;cases i with
   | zero=>exact⟨rfl,fun e he=>by simp at he;subst he;rfl⟩
   | succ i=>
    simp only[zq,Nat.add_lt_add_iff_right]at hi;obtain⟨h4,h5⟩:=h3 i hi;exact⟨by simpa[qan]using h4,fun e he=>h5 e (by simpa using he)⟩
  ·cases h
theorem cell_of_heap{w:World}{b off:Nat}{arr:Array Value}{ty:TypeId}{fr:Nat×Nat}{v:Value}(hb:w.heap[b]?=some (.cells arr ty fr))(h:arr[off]?=some v):w.cell? ⟨b,off,none⟩=some v:=by
 unfold World.cell?;simp[hb,h]
def Leaf.row1:Leaf→Option (List (List D))
 | .sl _ 1 es=>some es
 | _=>none
def qkQ(P:Program)(src dst:TypeId)(p:PV)(ans:List Ans):Got:=
 match P.underlying src,P.underlying dst,p.int with
 | some _,some (.int k),some (_,n)=>arith k n ans
 | some (.slice e),some .string,none=>
  match P.underlying e,p.leaf.bind Leaf.row1,ans with
  | some (.int .u8),some es,.pv (.al (.one (.v (.string s))))::r=>some (.one (.v (.string s)),r,[(qfX es).map strOfNums=some s])
  | _,_,_=>none
 | _,_,_=>none
theorem quR{P:Program}{w:World}{ω:Own}{τ:Nat→Nat×Value}{src dst:TypeId}{p r:PV}{v:Value}{ans ans':List Ans}{obs:List Prop}
  (hp:SatP (Sat w ω τ) p v) (h:qkQ P src dst p ans=some (r,ans',obs)) (ho:Obs obs):∃z,(convert src dst v).run P w=.ok z w∧SatP (Sat w ω τ) r z:=by
 unfold qkQ at h;split at h
 ·rename_i d k kk n e1 e2 e3;rw[PV.int_sat e3 hp];exact⟨_,by simp[convert,run_underlying e1,run_underlying e2,Conv.intToInt],qfU h ho⟩
 ·rename_i e e1 e2 e3;split at h
  ·rename_i es s r' e4 e5;simp only[za,zd]at h;obtain⟨rfl,_,rfl⟩:=h;have ho':(qfX es).map strOfNums=some s:=ho.1;rw[zc]at ho';obtain⟨xs,h1,rfl⟩:=ho';obtain⟨h2,h3⟩:=qob h1;rw[zah]at e5;obtain⟨l,e6,e7⟩:=e5;have hl:=PV.leaf_sat e6 hp;unfold Leaf.row1 at e7;split at e7
   ·rename_i t es';simp only[za]at e7;subst e7;obtain⟨hr,_⟩:=hl;refine⟨.string (strOfNums xs),?_,rfl⟩;cases hr with
    | nil R k a=>
     have:xs=[]:=List.length_eq_zero_iff.1 (by simpa using h2);subst this;cases a with
     | none=>exact run_convert_bytes_nil w src e e1 e4 0 0 dst e2
     | some a=>
      rw[run_convert_bytes_string w src dst e _ 0 0 e1 e4 e2];exact run_bytesToString w a 0 0 [] (run_loadCells_list w a [] (fun j v hj=>by simp at hj))
    | row R k _ b off cap arr ty fr us hb hR hc hs hk hu hd=>
     refine run_convert_bytes_arg w src e e1 e4 b off es'.length cap xs h2 (fun i hi=>?_) dst e2;obtain⟨h4,_⟩:=h3 i (by omega);have h5:=hu i 0 _ h4;have h6:=hd i 0 _ h4;generalize us i 0=u at h5 h6;cases h6;rw[Nat.mul_one,zbj]at h5;exact (cell_of_heap hb (by simpa using h5))
   ·cases e7
  ·cases h
 ·cases h
def qkR(P:Program)(t:TypeId)(p q:PV)(ans:List Ans):Got:=
 match P.underlying t,p.leaf,q.int with
 | some .string,some (.v (.string s)),some (_,n)=>
  match ans with
  | .num m::r=>some (.one (.v (.int .u8 m)),r,[0≤n,(s[n.toNat]?).map (fun b=>((b.toNat:Nat):Int))=some m])
  | _=>none
 | _,_,_=>none
theorem quS{P:Program}{w:World}{ω:Own}{τ:Nat→Nat×Value}{t:TypeId}{p q r:PV}{u v:Value}{ans ans':List Ans}{obs:List Prop}
  (hp:SatP (Sat w ω τ) p u) (hq:SatP (Sat w ω τ) q v) (h:qkR P t p q ans=some (r,ans',obs)) (ho:Obs obs):∃z,(Instr.index t u v).run P w=.ok z w∧SatP (Sat w ω τ) r z:=by
 unfold qkR at h;split at h
 ·rename_i s kk n e1 e2 e3;split at h
  ·rename_i m rr;simp only[za,zd]at h;obtain⟨rfl,_,rfl⟩:=h;obtain⟨h0,h1,_⟩:=ho;have:u=.string s:=PV.leaf_sat e2 hp;subst this;rw[PV.int_sat e3 hq];rw[zc]at h1;obtain⟨b,hb,hm⟩:=h1;exact⟨.int .u8 m,by simp[Instr.index,asIntOf,run_underlying e1,h0,hb,hm],rfl⟩
  ·cases h
 ·cases h
def qkS(p q:PV)(ans:List Ans):Got:=
 match p.int,q.int with
 | some (k,a),some (_,b)=>some (.one (.v (.int k (if b<a then b else a))),ans,[])
 | _,_=>none
def qkT(p q:PV)(ans:List Ans):Got:=
 match p.int,q.int with
 | some (k,a),some (_,b)=>some (.one (.v (.int k (if b>a then b else a))),ans,[])
 | _,_=>none
theorem quT{P:Program}{w:World}{ω:Own}{τ:Nat→Nat×Value}{ts:Array TypeId}{ty:TypeId}{p q r:PV}{u v:Value}{ans ans':List Ans}{obs:List Prop}
  (hp:SatP (Sat w ω τ) p u) (hq:SatP (Sat w ω τ) q v) (h:qkS p q ans=some (r,ans',obs)):∃z,(Builtin.min_ ts ty #[u,v]).run P w=.ok z w∧SatP (Sat w ω τ) r z:=by
 unfold qkS at h;split at h
 ·rename_i k a kk b e1 e2;simp only[za,zd]at h;obtain⟨rfl,_,_⟩:=h;rw[PV.int_sat e1 hp,PV.int_sat e2 hq];exact⟨_,by simp[Builtin.min_,Builtin.min2],rfl⟩
 ·cases h
theorem quU{P:Program}{w:World}{ω:Own}{τ:Nat→Nat×Value}{ts:Array TypeId}{ty:TypeId}{p q r:PV}{u v:Value}{ans ans':List Ans}{obs:List Prop}
  (hp:SatP (Sat w ω τ) p u) (hq:SatP (Sat w ω τ) q v) (h:qkT p q ans=some (r,ans',obs)):∃z,(Builtin.max_ ts ty #[u,v]).run P w=.ok z w∧SatP (Sat w ω τ) r z:=by
 unfold qkT at h;split at h
 ·rename_i k a kk b e1 e2;simp only[za,zd]at h;obtain⟨rfl,_,_⟩:=h;rw[PV.int_sat e1 hp,PV.int_sat e2 hq];exact⟨_,by simp[Builtin.max_,Builtin.max2],rfl⟩
 ·cases h
def qoc(p:PV)(ans:List Ans):Got:=
 match p.leaf with
 | some (.ptr id off)=>some (.one (.ptr id off),ans,[])
 | some (.ep t k es i j)=>some (.one (.ep t k es i j),ans,[])
 | some (.rp ds off)=>some (.one (.rp ds off),ans,[])
 | some (.sn t i j k es (.at_ x y))=>some (.one (.sn t i j k es (.at_ x y)),ans,[])
 | _=>none
def ptrId(p:PV):Option Nat:=
 match p.leaf with
 | some (.ptr id 0)=>some id
 | _=>none
def capD(p:PV):Option D:=
 match p.leaf with
 | some (.rp ds 0)=>some (.ptr ds)
 | some (.v x)=>if x.oneCell' then some (.v x) else none
 | _=>none
def qiE(st:St)(fn:Fn)(first captured:List Operand)(ans:List Ans):Got:=
 match fn,first with
 | .func g,[]=>
  match (captured.map st.ev).mapM ptrId with
  | some ids=>some (.one (.clo g ids),ans,[])
  | none=>
   match (captured.map st.ev).mapM capD with
   | some ds=>some (.one (.fd (.cl g ds)),ans,[])
   | none=>none
 | _,_=>none
theorem qkU{α β:Type}{f:α→Option β}:∀{xs:List α} {ys:List β},xs.mapM f=some ys→ys.length=xs.length∧∀(i:Nat) (y:β),ys[i]?=some y→∃x,xs[i]?=some x∧f x=some y
 | [],ys,h=>by simp at h;subst h;simp
 | x::xs,ys,h=>by
  rw[zch]at h;cases e:f x with
  | none=>simp[e]at h
  | some y=>
   cases e2:xs.mapM f with
   | none=>simp[e,e2]at h
   | some zs=>
    simp[e,e2]at h;subst h;obtain⟨h1,h2⟩:=qkU e2;refine⟨by simp[h1],fun i y' hi=>?_⟩;cases i with
    | zero=>simp at hi;subst hi;exact⟨x,rfl,e⟩
    | succ i=>simpa using h2 i y' (by simpa using hi)
theorem quV{P:Program}{w0:Base}{w:World}{a:Act}{st:St}{ω:Own}{τ:Nat→Nat×Value}{fn:Fn}{first captured:Array Operand}{r:PV}{ans ans':List Ans}{obs:List Prop}
  (hrel:RelAt w0 st a w ω τ) (h:qiE st fn first.toList captured.toList ans=some (r,ans',obs)):
  ∃z,(Instr.makeFunc fn (first.map a.eval) (captured.map a.eval)).run P w=.ok z w∧SatP (Sat w ω τ) r z:=by
 unfold qiE at h;split at h
 ·rename_i g hfirst;have hf:first=#[]:=by
   rcases first with⟨l⟩
   simpa using hfirst
  subst hf;refine⟨.func (.func g) #[] (captured.map a.eval),by simp[Instr.makeFunc],?_⟩;have hev:∀(i:Nat) (x:PV),(captured.toList.map st.ev)[i]?=some x→∃v,(captured.map a.eval)[i]?=some v∧SatP (Sat w ω τ) x v:=by
   intro i x hx;rw[zr,zc]at hx;obtain⟨o,ho,rfl⟩:=hx;refine⟨a.eval o,?_,hrel.ev o⟩;rw[zco];rw[zH]at ho;rw[ho];rfl
  split at h
  ·rename_i ids hids;simp only[za,zd]at h;obtain⟨rfl,_,_⟩:=h;obtain⟨hn,hg⟩:=qkU hids;have hex:∀i,i<ids.length→∃b id,ids[i]?=some id∧(captured.map a.eval)[i]?=some (ptrTo b)∧ω b=.box id:=by
    intro i hi;obtain⟨x,hx,hx2⟩:=hg i ids[i] (by simp[hi]);obtain⟨v,hv,hs⟩:=hev i x hx;unfold ptrId at hx2;split at hx2
    ·rename_i id hl;simp only[za]at hx2;obtain⟨b,hb,rfl⟩:=PV.leaf_sat hl hs;exact⟨b,id,by simp[hi,hx2],hv,hb⟩
    ·cases hx2
   have hsz:(captured.map a.eval).size=ids.length:=by simp at hn;simp[hn]
   let bs:=(List.range ids.length).map fun i=>(match (captured.map a.eval)[i]? with | some (.pointer (some p))=>p.block | _=>0)
   refine⟨bs,?_,by simp[bs],fun i id hid=>?_⟩
   ·congr 1
    apply Array.ext
    ·simp[bs,hsz]
    ·intro i h1 h2;obtain⟨b,id,_,hv,_⟩:=hex i (by rw[←hsz];exact h1);have hv':=hv;rw[zD h1,za]at hv';rw[hv'];have e:bs[i]'(by simpa using h2)=b:=by simp only[bs,List.getElem_map,List.getElem_range,hv,ptrTo]
     simp[e]
   ·have hi:=(zk.1 hid).1;obtain⟨b,id',hid',hv,hb⟩:=hex i hi;rw[hid]at hid';have:=zx hid';subst this;refine⟨b,?_,hb⟩;simp only[bs,zr,List.getElem?_range hi,zaw,hv,ptrTo]
  ·split at h
   ·rename_i ds hds;simp only[za,zd]at h;obtain⟨rfl,_,_⟩:=h;obtain⟨hn,hg⟩:=qkU hds;refine Rep.cl _ g ds (captured.map a.eval) (fun j=>(captured.map a.eval).getD j undef) (by simp at hn;simp[hn]) (fun j d hd=>?_) (fun j d hd=>?_)
    ·obtain⟨x,hx,_⟩:=hg j d hd;obtain⟨v,hv,_⟩:=hev j x hx;rw[hv];simp only[zl,hv,zV]
    ·obtain⟨x,hx,hx2⟩:=hg j d hd;obtain⟨v,hv,hs⟩:=hev j x hx;have e:(captured.map a.eval).getD j undef=v:=by simp only[zl,hv,zV]
     rw[e];unfold capD at hx2;split at hx2
     ·rename_i ds' hl;simp only[za]at hx2;subst hx2;obtain⟨b,rfl,hr⟩:=PV.leaf_sat hl hs;exact hr.frame fun b q hb hq=>⟨hq,rfl⟩
     ·rename_i y hl;split at hx2
      ·rename_i hoc;simp only[za]at hx2;subst hx2;have:v=y:=PV.leaf_sat hl hs;subst this;exact .v _ _ hoc
      ·cases hx2
     ·cases hx2
   ·cases h
 ·cases h
def qiF(P:Program)(st:St)(b:Builtin)(args:List Operand)(ts:List TypeId)(ans:List Ans):Got:=
 match b,args,ts with
 | .len,[x],[t]=>qkJ P t (st.ev x) ans
 | .min,[x,y],_=>qkS (st.ev x) (st.ev y) ans
 | .max,[x,y],_=>qkT (st.ev x) (st.ev y) ans
 | _,_,_=>none
def qcO(P:Program)(st:St)(op:Op)(ans:List Ans):Got:=
 match op with
 | .move x | .assign x=>some (st.ev x,ans,[])
 | .pick c a b=>stepPick (st.ev c) (st.ev a) (st.ev b) ans
 | .load t x=>qiA P st t (st.ev x) ans
 | .nilCheck x=>qoc (st.ev x) ans
 | .binOp op t x y _=>qkF P op t x y (st.ev x) (st.ev y) ans
 | .unOp op _ x=>qkP op (st.ev x) ans
 | .convert s d x=>qkQ P s d (st.ev x) ans
 | .slice t x lo hi mx=>qiB P st t (st.ev x) lo hi mx ans
 | .fieldAddr s x f=>qkH P s (st.ev x) f ans
 | .field t x f=>qkO P t (st.ev x) f ans
 | .indexAddr t x i=>qkI P t (st.ev x) (st.ev i) ans
 | .index t x i=>qkR P t (st.ev x) (st.ev i) ans
 | .extract x i=>qkN (st.ev x) i ans
 | .build t parts=>qiC P st t parts.toList ans
 | .call ⟨.builtin b,args,ts⟩=>qiF P st b args.toList ts.toList ans
 | .makeFunc fn first captured=>qiE st fn first.toList captured.toList ans
 | _=>none
theorem run_v{P:Program}{w w':World}{s:Sem Value}{z:Value}(h:s.run P w=.ok z w'):(do pure (.value (←s)):Sem Next).run P w=.ok (.value z) w':=by
 rw[Sem.run_bind,h];rfl
theorem quW{P:Program}{w0:Base}{w:World}{a:Act}{st:St}{ω:Own}{τ:Nat→Nat×Value}{b:Builtin}{args:Array Operand}{ts:Array TypeId}{ty:TypeId}{consts:Array Bool}{r:PV}{ans ans':List Ans}{obs:List Prop}
  (hrel:RelAt w0 st a w ω τ) (h:qiF P st b args.toList ts.toList ans=some (r,ans',obs)):
  ∃z,(builtin b ts ty consts (args.map a.eval)).run P w=.ok (.value z) w∧SatP (Sat w ω τ) r z:=by
 obtain⟨args⟩:=args;obtain⟨ts⟩:=ts;unfold qiF at h;split at h
 ·rename_i x t e1 e2;simp only at e1 e2;subst e1 e2;obtain⟨z,h1,h2⟩:=quK (ty:=ty) (hrel.ev x) h;refine⟨z,run_v (s:=Builtin.len_ #[t] ty (Array.map a.eval #[x])) ?_,h2⟩;simpa using h1
 ·rename_i x y e1;simp only at e1;subst e1;obtain⟨z,h1,h2⟩:=quT (P:=P) (ts:=⟨ts⟩) (ty:=ty) (hrel.ev x) (hrel.ev y) h;refine⟨z,run_v (s:=Builtin.min_ ⟨ts⟩ ty (Array.map a.eval #[x,y])) ?_,h2⟩;simpa using h1
 ·rename_i x y e1;simp only at e1;subst e1;obtain⟨z,h1,h2⟩:=quU (P:=P) (ts:=⟨ts⟩) (ty:=ty) (hrel.ev x) (hrel.ev y) h;refine⟨z,run_v (s:=Builtin.max_ ⟨ts⟩ ty (Array.map a.eval #[x,y])) ?_,h2⟩;simpa using h1
 ·cases h
theorem qkV{P:Program}{w0:Base}{w:World}{a:Act}{st:St}{ω:Own}{τ:Nat→Nat×Value}{o:Oper}{r:PV}{ans ans':List Ans}{obs:List Prop}
  (hrel:RelAt w0 st a w ω τ) (h:qcO P st o.op ans=some (r,ans',obs)) (ho:Obs obs):
  ∃z,(execOp a.eval o).run P w=.ok (.value z) w∧SatP (Sat w ω τ) r z:=by
 obtain⟨dst,op,type,pos,after,guard⟩:=o;simp only at h;unfold qcO at h;split at h
 ·rename_i x;simp only[za,zd]at h;obtain⟨rfl,_,_⟩:=h;exact⟨a.eval x,rfl,hrel.ev x⟩
 ·rename_i x;simp only[za,zd]at h;obtain⟨rfl,_,_⟩:=h;exact⟨a.eval x,rfl,hrel.ev x⟩
 ·rename_i c x y;exact quQ (hrel.ev c) (hrel.ev x) (hrel.ev y) h ho
 ·rename_i t x;obtain⟨z,h1,h2⟩:=quJ hrel (hrel.ev x) h ho;exact⟨z,run_v h1,h2⟩
 ·rename_i x;unfold qoc at h;split at h
  ·rename_i id off e;simp only[za,zd]at h;obtain⟨rfl,_,_⟩:=h;have hs:=PV.leaf_sat e (hrel.ev x);obtain⟨b,hb,hx⟩:=hs;exact⟨_,by simp only[execOp,hx];rfl,b,hb,rfl⟩
  ·rename_i t k es i j e;simp only[za,zd]at h;obtain⟨rfl,_,_⟩:=h;have hs:=PV.leaf_sat e (hrel.ev x);have hs':=hs;obtain⟨b,off,cap,hx,h1⟩:=hs;refine⟨_,by simp only[execOp,hx];rfl,?_⟩;rw[←hx];exact hs'
  ·rename_i ds off e;simp only[za,zd]at h;obtain⟨rfl,_,_⟩:=h;have hs:=PV.leaf_sat e (hrel.ev x);have hs':=hs;obtain⟨b,hx,h1⟩:=hs;refine⟨_,by simp only[execOp,hx];rfl,?_⟩;rw[←hx];exact hs'
  ·rename_i t i j k es xx yy e;simp only[za,zd]at h;obtain⟨rfl,_,_⟩:=h;have hs:=PV.leaf_sat e (hrel.ev x);have hs':=hs;obtain⟨u0,⟨b,off,cap,_,hx,_⟩,_⟩:=hs;refine⟨_,by simp only[execOp,hx];rfl,?_⟩;rw[←hx];exact hs'
  ·cases h
 ·rename_i op' t x y ty';obtain⟨z,h1,h2⟩:=quF (hrel.ev x) (hrel.ev y) h ho;exact⟨z,run_v h1,h2⟩
 ·rename_i op' t x;obtain⟨z,h1,h2⟩:=quP (hrel.ev x) h ho;exact⟨z,run_v h1,h2⟩
 ·rename_i s d x;obtain⟨z,h1,h2⟩:=quR (hrel.ev x) h ho;exact⟨z,run_v h1,h2⟩
 ·rename_i t x lo hi mx;obtain⟨z,h1,h2⟩:=quL hrel (hrel.ev x) h ho;exact⟨z,run_v h1,h2⟩
 ·rename_i s x f;obtain⟨z,h1,h2⟩:=quG (hrel.ev x) h;exact⟨z,run_v h1,h2⟩
 ·rename_i t x f;obtain⟨z,h1,h2⟩:=quO (hrel.ev x) h;exact⟨z,run_v h1,h2⟩
 ·rename_i t x i;obtain⟨z,h1,h2⟩:=quH (hrel.ev x) (hrel.ev i) h ho;exact⟨z,run_v h1,h2⟩
 ·rename_i t x i;obtain⟨z,h1,h2⟩:=quS (hrel.ev x) (hrel.ev i) h ho;exact⟨z,run_v h1,h2⟩
 ·rename_i x i;obtain⟨z,h1,h2⟩:=quN (P:=P) (hrel.ev x) h;exact⟨z,run_v h1,h2⟩
 ·rename_i t parts;obtain⟨z,h1,h2⟩:=quM hrel h;exact⟨z,run_v h1,h2⟩
 ·rename_i b args ts;obtain⟨z,h1,h2⟩:=quW (ty:=type) (consts:=args.map fun | .const _=>true | _=>false) hrel h;exact⟨z,by simp only[execOp,resolve,Sem.run_bind,Sem.run_pure,Result.andThen_ok,invoke];exact h1,h2⟩
 ·rename_i fn first captured
  obtain⟨z,h1,h2⟩:=quV (P:=P) hrel h;exact⟨z,run_v h1,h2⟩
 ·cases h
