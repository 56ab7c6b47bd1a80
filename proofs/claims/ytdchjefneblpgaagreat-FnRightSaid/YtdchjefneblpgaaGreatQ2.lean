import Derived.WalkKit
import Derived.Deep.RegionLaw
import Derived.Shelf.RegionOpenPlain
import Derived.Lib.SliceRun
import Derived.Lib.JoinLaws
import Derived.Lib.Overlaps
import Derived.Lib.AppendZerosOnto
import Derived.Laws.Externs
import Derived.Deep.LoopGhost
import Derived.Lib.Walk
import Derived.Test.YtdchjefneblpgaaGreatC0
set_option linter.unusedVariables false
set_option linter.unusedSimpArgs false
namespace Go.Proofs.YtdchjefneblpgaaGreat
open Go.Sx Go.RowKit Go.Shelf Go.Lib Go.Proofs.Tryz
variable{P:Program}{w:World}{ops:Array Oper}{o:Oper}{a:Act}{Q:Exit->Act->World->Prop}
theorem Ww{rest:List Oper}(KC:o.guard=none)(d s:Operand)(t du:TypeId)
  (aW:o.op=.call { callee:=.builtin .copy,args:=#[d,s],argTypes:=#[t,du] }) (v u:Value) (aF:a.eval d=v) (ai:a.eval s=u) {la:Value} {aM:World}
  (aB:(Builtin.copy_ #[t,du] o.type #[v,u]).run P w=.ok la aM) (h:wpList P ops Q rest (a.put o.dst la) aM):wpList P ops Q (o::rest) a w:=
 wpList_plain KC fun _ im=>by
  unfold Oper.wp execOp;simp only[aW,resolve,invoke,builtin,Sem.run_bind,Sem.run_pure,Result.andThen_ok,List.map_toArray,iM,List.map_nil,aF,ai,aB];exact im _ _ h
theorem Wx{K:Act->World->Prop}{E:Prop}
  (ar:o.guard=none) (d x:Operand) (dc ba:TypeId) (ps:o.op=Op.call { callee:=Callee.builtin Builtin.copy,args:=#[d,x],argTypes:=#[dc,ba] })
  (v u:Value) (aF:a.eval d=v) (aa:a.eval x=u) {la:Value} {aM:World} (aB:(Builtin.copy_ #[dc,ba] o.type #[v,u]).run P w=.ok la aM) (im:K (a.put o.dst la) aM):
  if Region.wanted o (yielded ops a.tmps)=true then Oper.wp P o a w K Q else E:=by
 have hw:Region.wanted o (yielded ops a.tmps)=true:=by simp[Region.wanted,ar]
 rw[bh hw];unfold Oper.wp;simp[execOp,ps,resolve,invoke,builtin,aF,aa,aB,Result.andThen];exact im
theorem NK{rest:List Oper}(KC:o.guard=none)(d s:Operand)(t du:TypeId)
  (aW:o.op=.call { callee:=.builtin .append,args:=#[d,s],argTypes:=#[t,du] }) (v u:Value) (aF:a.eval d=v) (ai:a.eval s=u) {la:Value} {aM:World}
  (aB:(Builtin.append_ #[t,du] o.type #[v,u]).run P w=.ok la aM) (h:wpList P ops Q rest (a.put o.dst la) aM):wpList P ops Q (o::rest) a w:=
 wpList_plain KC fun _ im=>by
  unfold Oper.wp execOp;simp only[aW,resolve,invoke,builtin,Sem.run_bind,Sem.run_pure,Result.andThen_ok,List.map_toArray,iM,List.map_nil,aF,ai,aB];exact im _ _ h
set_option maxHeartbeats 4000000 in
set_option maxRecDepth 1000000 in
theorem NL(base:Option Addr)(n cap gC h5 vc:Nat)(w w1:World)(v:Value)(aP:n<=cap)
  (fG:∀ty,(Builtin.append_ #[48,48] ty #[.slice base n cap,.slice (some ⟨gC,h5,none⟩) 1 vc]).run prog w=.ok v w1):
  Calls prog 305 #[.slice base n cap,.int .i64 n,.slice (some ⟨gC,h5,none⟩) 1 vc] w fun e aM=>e=.returned v/\aM=w1:=by
 have mixed:prog.follows .mixedOrders=true:=by kernel_rfl
 go_enter func305,Tryz.ntmps305
 cases base with
 | none=>
  go_wp2_with (at_builtin;refine NK rfl _ _ _ _ rfl _ _ rfl rfl (fG _) ?_)
  all_goals (go_ret;exact⟨rfl,rfl⟩)
 | some a=>
  obtain⟨ab,aB7,aCa⟩:=a
  go_wp2_with (at_builtin;refine NK rfl _ _ _ _ rfl _ _ rfl rfl (fG _) ?_)
  all_goals (go_ret;exact⟨rfl,rfl⟩)
set_option maxHeartbeats 4000000 in
set_option maxRecDepth 1000000 in
theorem afE(b off n cap i gC h5 vc:Nat)(arr:Array Value)(tb:TypeId)(pa:Array Value)(tx:TypeId)(x:List Value)(w:World)(aq:w.heap[b]?=some (.cells arr tb (0,0)))(bD:w.heap[gC]?=some (.cells pa tx (0,0)))(SI:gC≠b)
  (hi:i<n) (aP:n+1<=cap) (eh:off+cap*4<=arr.size) (gk:x.length=4) (uj:∀j v,x[j]?=some v->pa[h5+j]?=some v) (BM:∀v∈x,v.oneCell'=true)
  (h1:∀x v,off<=x->x<off+n*4->arr[x]?=some v->v.oneCell'=true) (FM:n<8388609):
  Calls prog 305 #[.slice (some ⟨b,off,none⟩) n cap,.int .i64 i,.slice (some ⟨gC,h5,none⟩) 1 vc] w fun e aM=>e=.returned (.slice (some ⟨b,off,none⟩) (n+1) cap)/\
   aM=(w.drew.setRow b (laid arr (off+(i+1)*4) ((arr.toList.drop (off+i*4)).take ((n-i)*4)))).setRow b (laid (laid arr (off+(i+1)*4) ((arr.toList.drop (off+i*4)).take ((n-i)*4))) (off+i*4) x):=by
 obtain⟨mid,rv⟩:∃mid,mid=(arr.toList.drop (off+i*4)).take ((n-i)*4):=⟨_,rfl⟩
 have sD:mid.length=(n-i)*4:=by rw[rv];simp;omega
 have mf:∀u∈mid,u.oneCell'=true:=by
  intro u hu;obtain⟨y,bk⟩:=p4.1 hu;rw[rv,kK]at bk;split at bk
  ·rw[lY,mT]at bk;exact h1 _ u (by omega) (by omega) bk
  cases bk
 rw[<-rv];obtain⟨dH,rj⟩:∃dH,dH=laid arr (off+(i+1)*4) mid:=⟨_,rfl⟩
 have mG:dH.size=arr.size:=by rw[rj];exact rT (by omega)
 obtain⟨iR,nh⟩:∃iR,iR=w.drew.setRow b dH:=⟨_,rfl⟩
 have ht:iR.heap[b]?=some (.cells dH tb (0,0)):=by rw[nh];exact setRow_heap w.drew b arr dH tb (0,0) aq
 have uh:iR.heap[gC]?=some (.cells pa tx (0,0)):=by rw[nh,setRow_other _ b gC _ SI];exact bD
 have dN:(prog.info? 141).map (·.size)=some 4:=by kernel_rfl
 have gS:prog.underlying 48=some (.slice 141):=by kernel_rfl
 have ac4:∀ty nc lW,(Builtin.copy_ #[48,48] ty #[.slice (some ⟨b,off+(i+1)*4,none⟩) (n-i) nc,.slice (some ⟨b,off+i*4,none⟩) (n+1-i) lW]).run prog w.drew=.ok (goInt (Nat.min (n+1-i) (n-i))) iR:=by
  intro ty nc lW;have xo:Nat.min (n+1-i) (n-i)=n-i:=by simp only[Nat.min_def];split<;>omega
  rw[nh,rj];refine HA w.drew _ _ ty _ 4 b (off+(i+1)*4) _ nc arr tb ⟨b,off+i*4,none⟩ _ lW mid gS dN aq (by rw[xo,sD]) (fun j v a8=>?_) (by omega) mf;rw[rv,kK]at a8;split at a8
  ·rw[lY,mT]at a8;rw[Addr.add_lit];have er:w.drew.heap[b]?=some (.cells arr tb (0,0)):=aq;simp[World.cell?,er,a8]
  cases a8
 obtain⟨o9,rk⟩:∃o9,o9=iR.setRow b (laid dH (off+i*4) x):=⟨_,rfl⟩
 have ac5:∀ty nc,(Builtin.copy_ #[48,48] ty #[.slice (some ⟨b,off+i*4,none⟩) (n+1-i) nc,.slice (some ⟨gC,h5,none⟩) 1 vc]).run prog iR=.ok (goInt (Nat.min 1 (n+1-i))) o9:=by
  intro ty nc;have xo:Nat.min 1 (n+1-i)=1:=by simp only[Nat.min_def];split<;>omega
  rw[rk];refine HA iR _ _ ty _ 4 b (off+i*4) _ nc dH tb ⟨gC,h5,none⟩ _ vc x gS dN ht (by rw[xo,gk]) (fun j v a8=>?_) (by omega) BM;rw[Addr.add_lit];simp[World.cell?,uh,uj j v a8]
 have adZ:∀LL JQ,(callFunc 337 #[.slice (some ⟨gC,h5,none⟩) 1 vc,.slice (some ⟨b,off+(i+1)*4,none⟩) LL JQ]).run prog w=.ok (.value (.bool false)) w:=fun LL JQ=>by
  rw[run_callFunc_extern (P:=prog) func337 (by kernel_rfl) (by kernel_rfl) (by kernel_rfl) (e:=Extern.SlicesOverlaps.overlaps #[48,48] #[4]) (by kernel_rfl),
   Lib.run_overlaps_apart w 48 4 141 gS 4 (fun w=>by simp[sizeOf,typeInfo];kernel_rfl) ⟨gC,h5,none⟩ ⟨b,off+(i+1)*4,none⟩ 1 vc LL JQ SI tx tb pa.size arr.size (by simp[World.shape?,bD]) (by simp[World.shape?,aq]) (by omega) (by simp[World.frozen?,bD]) (by simp[World.frozen?,bD])]
  rfl
 have X:Aside (o9=(w.drew.setRow b dH).setRow b (laid dH (off+i*4) x)):=by rw[rk,nh];trivial
 have iu:i<=n:=by omega
 have aeu:IntKind.i64.wrap ((i:Int)+1)=(i:Int)+1:=by rw[IntKind.wrap_i64];omega
 have aev:IntKind.i64.wrap ((n:Int)+1)=(n:Int)+1:=by rw[IntKind.wrap_i64];omega
 have iq:(0:Int)<=(i:Int)+1:=by omega
 have aek:((i:Int)+1).toNat=i+1:=by omega
 have aDr:((n:Int)+1).toNat=n+1:=by omega
 have gj:¬(cap=i+1):=by omega
 have xh:(i:Int)+1<=(n:Int)+1:=by omega
 have tX:¬(cap=i):=by omega
 have acS:(i:Int)<=(n:Int)+1:=by omega
 have nV:¬((i:Int)=(n:Int)):=by omega
 have mixed:prog.follows .mixedOrders=true:=by kernel_rfl
 clear nh rk ht uh aq bD rv sD mf mG dN gS h1 BM uj gk
 go_enter func305,Tryz.ntmps305
 go_wp2_with (simp only[adZ])
 go_region_law_o (refine Wx rfl _ _ 48 48 rfl _ _ (by simp[Act.eval,Act.put]) (by simp[Act.eval,Act.put]) (ac4 _ _ _) ?_)
 go_wp2_with (at_builtin;refine Ww rfl _ _ 48 48 rfl _ _ rfl rfl (ac5 _ _) ?_)
 go_ret
 exact⟨rfl,by rw[<-rj];exact X⟩
set_option maxHeartbeats 4000000 in
set_option maxRecDepth 1000000 in
theorem ae5(b off n cap i gC h5 vc:Nat)(arr:Array Value)(tb:TypeId)(pa:Array Value)(tx:TypeId)(x:List Value)(w:World)(aq:w.heap[b]?=some (.cells arr tb (0,0)))(bD:w.heap[gC]?=some (.cells pa tx (0,0)))
  (hi:i<n) (aP:n<=cap) (ar:cap<n+1) (eh:off+cap*4<=arr.size) (gk:x.length=4) (uj:∀j v,x[j]?=some v->pa[h5+j]?=some v) (BM:∀v∈x,v.oneCell'=true)
  (h1:∀x v,off<=x->x<off+n*4->arr[x]?=some v->v.oneCell'=true) (FM:n<8388609):
  Calls prog 305 #[.slice (some ⟨b,off,none⟩) n cap,.int .i64 i,.slice (some ⟨gC,h5,none⟩) 1 vc] w fun e aM=>∃(G:Nat) (j6:Array Value),n+1<=G/\j6.size=G*4/\(∀y,y<i*4->j6[y]?=arr[off+y]?)/\e=.returned (.slice (some ⟨w.heap.size,0,none⟩) (n+1) G)/\
   aM=(((w.drew.alloc (.cells j6 141)).setRow w.heap.size (laid j6 (i*4) x)).drew).setRow w.heap.size (laid (laid j6 (i*4) x) ((i+1)*4) ((arr.toList.drop (off+i*4)).take ((n-i)*4))):=by
 obtain⟨mid,rv⟩:∃mid,mid=(arr.toList.drop (off+i*4)).take ((n-i)*4):=⟨_,rfl⟩
 have sD:mid.length=(n-i)*4:=by rw[rv];simp;omega
 have mf:∀u∈mid,u.oneCell'=true:=by
  intro u hu;obtain⟨y,bk⟩:=p4.1 hu;rw[rv,kK]at bk;split at bk
  ·rw[lY,mT]at bk;exact h1 _ u (by omega) (by omega) bk
  cases bk
 rw[<-rv];have gS:prog.underlying 48=some (.slice 141):=by kernel_rfl
 have SF:prog.underlying 3=some (.int .i64):=by kernel_rfl
 have dN:(prog.info? 141).map (·.size)=some 4:=by kernel_rfl
 have Kl:(prog.info? 141).map (fun x=>(x.bytes,x.zero))=some (32,some (.agg #[.int .i64 0,.int .i64 0,.int .i64 0,.int .i64 0])):=by kernel_rfl
 obtain⟨pE,holds⟩:∃pE,pE=(arr.toList.drop off).take (i*4):=⟨_,rfl⟩
 have ry:pE.length=i*4:=by rw[holds];simp;omega
 obtain⟨G,hB⟩:∃G,G=grownCap w (n+1) cap 141:=⟨_,rfl⟩
 have B1:n+1<=G:=by rw[hB];exact grownCap_ge w _ _ _
 have aCB:G<=9223372036854775807:=by
  have:=grownCap_le_maxLen w (n+1) cap 141 (by unfold maxLen;omega);rw[<-hB]at this;unfold maxLen at this;omega
 obtain⟨j6,FI⟩:∃j6:Array Value,j6=pE.toArray++Builtin.zeroCells (Value.agg #[.int .i64 0,.int .i64 0,.int .i64 0,.int .i64 0]).cells (n+1-i)++Builtin.zeroCells (Value.agg #[.int .i64 0,.int .i64 0,.int .i64 0,.int .i64 0]).cells (G-(n+1)):=⟨_,rfl⟩
 have FK:j6.size=G*4:=by
  rw[FI];simp only[u9,p2,size_zeroCells,ry];show i*4+(n+1-i)*4+(G-(n+1))*4=G*4;omega
 have FJ:∀y,y<i*4->j6[y]?=arr[off+y]?:=by
  intro y bk;rw[FI,kr,bh (by simp[size_zeroCells];omega),kr,bh (by simp;omega)];simp only[p1];rw[holds,kK,bh bk,lY,mT]
 obtain⟨nO,zm⟩:∃nO,nO=w.drew.alloc (.cells j6 141):=⟨_,rfl⟩
 have Kg:nO.heap[w.heap.size]?=some (.cells j6 141 (0,0)):=by rw[zm];exact oX w.drew _
 have tY:b<w.heap.size:=(kt.1 aq).1;have K6:gC<w.heap.size:=(kt.1 bD).1;have iq:nO.heap[b]?=some (.cells arr tb (0,0)):=by rw[zm,xF w.drew _ tY];exact aq
 have F':nO.heap[gC]?=some (.cells pa tx (0,0)):=by rw[zm,xF w.drew _ K6];exact bD
 have aeb:∀ty,(Builtin.append_ #[48,3] ty #[.slice (some ⟨b,off,none⟩) i cap,.int .i64 ((n:Int)+1-(i:Int))]).run prog w=.ok (.slice (some ⟨w.heap.size,0,none⟩) (n+1) G) nO:=by
  intro ty;cases lM:prog.info? 141 with
  | none=>rw[lM]at dN;cases dN
  | some i0=>
   rw[lM]at dN Kl;have a':i0.size=4:=by simpa using dN
   obtain⟨bu,bU⟩:i0.bytes=32/\i0.zero=some (.agg #[.int .i64 0,.int .i64 0,.int .i64 0,.int .i64 0]):=by simpa using Kl
   have hold:(Builtin.firstCells i0.size i (.slice (some ⟨b,off,none⟩) i cap)).run prog w.drew=.ok pE.toArray w.drew:=by
    rw[a'];refine run_firstCells_some w.drew 4 i ⟨b,off,none⟩ i cap pE ry (fun j v a8=>?_);rw[Addr.add_lit];rw[holds,kK]at a8;split at a8
    ·rw[lY,mT]at a8;have er:w.drew.heap[b]?=some (.cells arr tb (0,0)):=aq;simp[World.cell?,er,a8]
    cases a8
   have Si:i+(n+1-i)=n+1:=by omega
   have h:=Lib.run_append_grow_zeros w 48 3 ty 141 i0 _ .i64 .i64 gS SF lM bU (some ⟨b,off,none⟩) i cap pE hold (n+1-i) (by omega) (by omega) (by omega) (by omega) (by rw[bu];omega) (by rw[bu,Si];exact growslice_fits ar (by omega));rw[Si,<-hB,<-FI,<-zm]at h;rw[show (n:Int)+1-(i:Int)=((n+1-i:Nat):Int) by omega];exact h
 obtain⟨dH,rj⟩:∃dH,dH=laid j6 (i*4) x:=⟨_,rfl⟩
 have mG:dH.size=j6.size:=by rw[rj];exact rT (by omega)
 obtain⟨iR,nh⟩:∃iR,iR=nO.setRow w.heap.size dH:=⟨_,rfl⟩
 have RZ:iR.heap[w.heap.size]?=some (.cells dH 141 (0,0)):=by rw[nh];exact setRow_heap nO _ j6 dH _ (0,0) Kg
 have ht:iR.heap[b]?=some (.cells arr tb (0,0)):=by rw[nh,setRow_other _ _ b _ (by omega)];exact iq
 have ac6:∀ty nc,(Builtin.copy_ #[48,48] ty #[.slice (some ⟨w.heap.size,i*4,none⟩) (n+1-i) nc,.slice (some ⟨gC,h5,none⟩) 1 vc]).run prog nO=.ok (goInt (Nat.min 1 (n+1-i))) iR:=by
  intro ty nc;have xo:Nat.min 1 (n+1-i)=1:=by simp only[Nat.min_def];split<;>omega
  rw[nh,rj];refine HA nO _ _ ty _ 4 _ (i*4) _ nc j6 _ ⟨gC,h5,none⟩ _ vc x gS dN Kg (by rw[xo,gk]) (fun j v a8=>?_) (by omega) BM;rw[Addr.add_lit];simp[World.cell?,F',uj j v a8]
 obtain⟨o9,rk⟩:∃o9,o9=iR.drew.setRow w.heap.size (laid dH ((i+1)*4) mid):=⟨_,rfl⟩
 have ac7:∀ty nc lW,(Builtin.copy_ #[48,48] ty #[.slice (some ⟨w.heap.size,(i+1)*4,none⟩) (n-i) nc,.slice (some ⟨b,off+i*4,none⟩) (n-i) lW]).run prog iR.drew=.ok (goInt (Nat.min (n-i) (n-i))) o9:=by
  intro ty nc lW;have xo:Nat.min (n-i) (n-i)=n-i:=Nat.min_self _;rw[rk];refine HA iR.drew _ _ ty _ 4 _ ((i+1)*4) _ nc dH _ ⟨b,off+i*4,none⟩ _ lW mid gS dN RZ (by rw[xo,sD]) (fun j v a8=>?_) (by omega) mf;rw[Addr.add_lit];rw[rv,kK]at a8;split at a8
  ·rw[lY,mT]at a8;have er:iR.drew.heap[b]?=some (.cells arr tb (0,0)):=ht;simp[World.cell?,er,a8]
  cases a8
 have X:Aside (o9=(((w.drew.alloc (.cells j6 141)).setRow w.heap.size dH).drew).setRow w.heap.size (laid dH ((i+1)*4) mid)):=by rw[rk,nh,zm];trivial
 have Y:Aside (n+1<=G/\j6.size=G*4/\∀y,y<i*4->j6[y]?=arr[off+y]?):=⟨B1,FK,FJ⟩
 have nV:¬((i:Int)=(n:Int)):=by omega
 have Ge:(cap:Int)<(n:Int)+1:=by omega
 have aeu:IntKind.i64.wrap ((i:Int)+1)=(i:Int)+1:=by rw[IntKind.wrap_i64];omega
 have aev:IntKind.i64.wrap ((n:Int)+1)=(n:Int)+1:=by rw[IntKind.wrap_i64];omega
 have aDv:IntKind.i64.wrap ((n:Int)+1-(i:Int))=(n:Int)+1-(i:Int):=by rw[IntKind.wrap_i64];omega
 have aCI:(0:Int)<=(i:Int)+1:=by omega
 have iu:i<=n:=by omega
 have aek:((i:Int)+1).toNat=i+1:=by omega
 have xh:(i:Int)<=(n:Int):=by omega
 have acS:(i:Int)<=(n:Int)+1:=by omega
 have aCK:(i:Int)+1<=(n:Int)+1:=by omega
 have aCC:¬(G=i):=by omega
 have aCD:¬(G=i+1):=by omega
 have aCN:¬(cap=i):=by omega
 have aC3:i<=G:=by omega
 have adr:i<=cap:=by omega
 have mixed:prog.follows .mixedOrders=true:=by kernel_rfl
 clear nh rk ht aq bD rv sD mf mG dN gS h1 BM uj gk FJ FK Kg RZ iq F' zm FI holds ry SF Kl hB
 go_enter func305,Tryz.ntmps305
 go_wp2_with (first
  | (at_builtin;refine NK rfl _ _ _ _ rfl _ _ rfl rfl (aeb _) ?_)
  | (at_builtin;refine Ww rfl _ _ 48 48 rfl _ _ rfl rfl (ac6 _ _) ?_))
 go_region_law_o (refine Wx rfl _ _ 48 48 rfl _ _ (by simp[Act.eval,Act.put]) (by simp[Act.eval,Act.put]) (ac7 _ _ _) ?_)
 go_wp2
 go_ret
 exact⟨G,j6,Y.1,Y.2.1,Y.2.2,rfl,by rw[<-rj];exact X⟩
variable{b:Nat}
theorem CQ{aM:World}{off cap:Nat}{arr:Array Value}{tb:TypeId}{es:List (List Value)}(aB:Row w b off 4 cap arr tb es){x:List Value}{i:Nat}(hi:i<=es.length)(gk:x.length=4)(qv:∀v∈x,v.oneCell'=true)
  {dA o na:Nat} {A:Array Value} {ty:TypeId} (bK:aM.heap[dA]?=some (.cells A ty (0,0))) (al:es.length+1<=na) (eh:o+na*4<=A.size)
  (BZ:∀p,p<i*4->A[o+p]?=arr[off+p]?) (B0:∀p,p<4->A[o+i*4+p]?=x[p]?) (hC:∀p,p<(es.length-i)*4->A[o+(i+1)*4+p]?=arr[off+i*4+p]?):
  Row aM dA o 4 na A ty (es.take i++x::es.drop i):=by
 have aj:(es.take i++x::es.drop i).length=es.length+1:=by simp;omega
 have K4:(es.take i).length=i:=by simp;omega
 refine⟨bK,by rw[aj];exact al,eh,?_,?_,?_⟩
 ·intro e he;rcases gg.1 he with h | h
  ·exact aB.len e (tB h)
  rcases dQ.1 h with rfl | h
  ·exact gk
  exact aB.len e (wW h)
 ·intro e he;rcases gg.1 he with h | h
  ·exact aB.one e (tB h)
  rcases dQ.1 h with rfl | h
  ·exact qv
  exact aB.one e (wW h)
 intro k j e v hk a8;have zx:=(gh.1 hk).1;rw[aj]at zx;by_cases h1:k<i
 ·rw[EZ (by omega),kK,bh h1]at hk;have kY:j<4:=by
   have:=(gh.1 a8).1;have:=aB.len e (f' hk);omega
  rw[E3,BZ _ (by omega),<-E3];exact aB.cell k j e v hk a8
 rw[EY (by omega),K4]at hk;by_cases U:k=i
 ·subst U;rw[Nat.sub_self,mV,aX]at hk;subst hk;have kY:=(gh.1 a8).1;rw[B0 j (by omega)];exact a8
 obtain⟨m,rfl⟩:∃m,k=i+1+m:=⟨k-(i+1),by omega⟩
 rw[show i+1+m-i=m+1 by omega,p3,lY]at hk;have kY:j<4:=by
  have:=(gh.1 a8).1;have:=aB.len e (f' hk);omega
 have:=aB.cell (i+m) j e v hk a8;rw[<-this,show o+(i+1+m)*4+j=o+(i+1)*4+(m*4+j) by omega,hC _ (by omega)]
 congr 1
 omega
theorem ae6{off cap:Nat}{arr:Array Value}{tb:TypeId}{es:List (List Value)}(aB:Row w b off 4 cap arr tb es):∀x v,off<=x->x<off+es.length*4->arr[x]?=some v->v.oneCell'=true:=by
 intro x v qv kB bD;have bM:(x-off) / 4<es.length:=by omega
 have he:=jA bM;have hlen:=aB.len _ (p5 bM);have kx:(x-off) % 4<(es[(x-off) / 4]).length:=by omega
 have:=aB.cell _ _ _ _ he (jA kx);rw[show off+(x-off) / 4*4+(x-off) % 4=x by omega,bD]at this;rw[gX this];exact aB.one _ (p5 bM) _ (p5 kx)
variable{own:Nat->Prop}
theorem ae7(aq:own b)(dH:Array Value):w3 ⟨w,own,fun _=>(0,undef)⟩ (w.setRow b dH):=by
 refine⟨rfl,rfl,rfl,by simp,fun k hk ar=>?_,fun _=>fl _⟩;have:k≠b:=fun e=>ar (by rw[e];exact aq)
 rw[setRow_other _ b k _ this]
theorem Wy{o:Obj}:w3 ⟨w,own,fun _=>(0,undef)⟩ (w.drew.alloc o):=by
 refine⟨rfl,rfl,rfl,by simp[World.alloc],fun k hk _=>?_,fun _=>?_⟩
 ·rw[xF w.drew o hk];rfl
 show w.drawn<=w.drawn+1;omega
theorem ae8{o:Obj}{dH JA:Array Value}:w3 ⟨w,own,fun _=>(0,undef)⟩ ((((w.drew.alloc o).setRow w.heap.size dH).drew).setRow w.heap.size JA):=by
 refine⟨rfl,rfl,rfl,by simp[World.alloc],fun k hk _=>?_,fun _=>?_⟩
 ·rw[setRow_other _ _ k _ (by simp only at hk;omega)];show ((w.drew.alloc o).setRow w.heap.size dH).heap[k]?=w.heap[k]?;rw[setRow_other _ _ k _ (by simp only at hk;omega),xF w.drew o hk];rfl
 show w.drawn<=w.drawn+1+1;omega
theorem ae9:∃i0,prog.info? 141=some i0/\i0.size=4/\i0.bytes=32/\i0.zero=some (.agg #[.int .i64 0,.int .i64 0,.int .i64 0,.int .i64 0]):=by
 have dN:(prog.info? 141).map (fun x=>(x.size,x.bytes,x.zero))=some (4,32,some (.agg #[.int .i64 0,.int .i64 0,.int .i64 0,.int .i64 0])):=by kernel_rfl
 cases h:prog.info? 141 with
 | none=>rw[h]at dN;cases dN
 | some i0=>
  rw[h]at dN;simp only[si,aX,bH]at dN;exact⟨i0,rfl,dN.1,dN.2.1,dN.2.2⟩
theorem afa(es:List (List Value))(x:List Value)(i:Nat)(hi:i<=es.length)(aj:es.length<=8388608):lk prog 305 [.one (.fh 4 (gI es) none),.one (.ro (I i)),.one (.fh 4 (gI [x]) none)] [.one (.J 4 (gI (es.take i++x::es.drop i)))]:=by
 rintro w vs ω ⟨ar,aP,ae⟩ pw;obtain⟨y,bk,lP⟩:=ae 0 _ rfl;obtain⟨gV,ha,K5⟩:=ae 1 _ rfl;obtain⟨z,aL,nV⟩:=ae 2 _ rfl;have e1:gV=.int .i64 i:=bZ.JX K5;subst e1;have sJ:=RD aP bk ha aL;subst sJ;have gS:prog.underlying 48=some (.slice 141):=by kernel_rfl
 obtain⟨i0,lM,a',bu,bU⟩:=ae9;rcases ar.row nV with⟨h,_⟩ | ⟨gC,h5,vc,pa,tx,SS,rfl,xu⟩
 ·cases h
 have gk:x.length=4:=xu.len x (by simp);have qv:∀v∈x,v.oneCell'=true:=xu.one x (by simp);have uj:∀j v,x[j]?=some v->pa[h5+j]?=some v:=fun j v a8=>by simpa using xu.cell 0 j x v rfl a8
 have Gc:∀j v,x[j]?=some v->w.cell? ((⟨gC,h5,none⟩:Addr).add j)=some v:=fun j v a8=>by
  rw[Addr.add_lit];simp[World.cell?,xu.heap,uj j v a8]
 have fin:∀{e:Ending} {aM:World},(∃v,e=.returned v/\Fa w aM (fun b=>ω b≠.bJ) 4 (es.take i++x::es.drop i) v)->∃v,e=.returned v/\ho ⟨w,fun b=>ω b≠.bJ,fun _=>(0,undef)⟩ aM/\
   ∃bc:Own,(∀b,b<w.heap.size->ω b=.bJ->bc b=.bJ)/\(∀b,bc b≠.bJ->(∃t q,bc b=.tok t q)/\∃arr ty,aM.heap[b]?=some (.cells arr ty (0,0)))/\Kept aM bc [.one (.fh 4 (gI es) none),.one (.ro (I i)),.one (.fh 4 (gI [x]) none)] #[y,.int .i64 i,.slice (some ⟨gC,h5,none⟩) [x].length vc]/\n0 aM bc [.one (.J 4 (gI (es.take i++x::es.drop i)))] v:=by
  rintro e aM ⟨v,he,cC⟩;obtain⟨bc,U,aA,aI⟩:=cC.res;refine⟨v,he,cC.RF.full pw,bc,U,aA,VB ?_,aI⟩;intro fW k3 fc k dW cy jH al
  match fW with
  | 0=>simp at jH;subst jH;simp only[GA.cell]at al;split at al<;>simp at al
  | 1=>simp at jH;subst jH;simp only[GA.cell]at al;split at al<;>simp at al
  | 2=>simp at jH;subst jH;simp only[GA.cell]at al;split at al<;>simp at al
  | _+3=>simp at jH
 rcases ar.row lP with⟨rfl,a,rfl⟩ | ⟨b,off,cap,arr,tb,dr,rfl,aB⟩
 ·
  have adq:i=0:=by simpa using hi
  subst adq;obtain⟨G,hB⟩:∃G,G=grownCap w 1 0 141:=⟨_,rfl⟩
  have B1:1<=G:=by rw[hB];exact grownCap_ge w _ _ _
  have fG:∀ty,(Builtin.append_ #[48,48] ty #[.slice a 0 0,.slice (some ⟨gC,h5,none⟩) 1 vc]).run prog w=.ok (.slice (some ⟨w.heap.size,0,none⟩) 1 G) (w.drew.alloc (.cells (x.toArray++Builtin.zeroCells (Value.agg #[.int .i64 0,.int .i64 0,.int .i64 0,.int .i64 0]).cells (G-1)) 141)):=by
   intro ty;cases a with
   | none=>
    have:=run_append_nil (P:=prog) w 48 ty 141 i0 _ gS lM bU ⟨gC,h5,none⟩ 1 vc x (by rw[a',gk]) Gc (by omega) (by omega) (by rw[bu];omega);rw[<-hB]at this;exact this
   | some ch=>
    have:=run_append_grow (P:=prog) w 48 ty 141 i0 _ gS lM bU ch 0 0 [] (by simp) (fun j v bD=>by simp at bD) ⟨gC,h5,none⟩ 1 vc x (by rw[a',gk]) Gc (by omega) (by omega) (growslice_fits (by omega) (by rw[bu];omega));simp only[dV,<-hB]at this;simpa using this
  refine (NL a 0 0 gC h5 vc w _ _ (fl _) fG).mono ?_;rintro e aM ⟨rfl,rfl⟩;have aBh:Row w gC 0 4 0 pa tx []:=⟨xu.heap,fl _,by omega,by simp,by simp,by simp⟩
  refine fin ⟨_,rfl,Wy,.inr ⟨w.heap.size,0,G,_,_,.inr (fl _),rfl,CQ aBh (fl _) gk qv (oX w.drew _) B1 ?_ ?_ ?_ ?_⟩⟩
  ·simp only[u9,p2,size_zeroCells,gk];show 0+G*4<=4+(G-1)*4;omega
  ·intro p hp;simp at hp
  ·intro p hp;rw[kr,bh (by simp;omega)];simp
  intro p hp;simp at hp
 have cU:gC≠b:=by
  rintro rfl;rw[dr]at SS;simp only[dp.tok.injEq,fF]at SS;omega
 have nm:ω b≠.bJ:=by rw[dr];simp
 have pt:=aB.room;have eh:=aB.fit;have h1:=ae6 aB;rcases qV i es.length with bM | qn
 ·rcases qV cap (es.length+1) with fP | fP
  ·
   refine (ae5 b off es.length cap i gC h5 vc arr tb pa tx x w aB.heap xu.heap bM pt fP eh gk uj qv h1 (by omega)).mono ?_;rintro e aM ⟨G,j6,hB,FK,FJ,rfl,rfl⟩;have jJ:i*4+x.length<=j6.size:=by omega
   have mG:=rT jJ;have sD:((arr.toList.drop (off+i*4)).take ((es.length-i)*4)).length=(es.length-i)*4:=by simp;omega
   have c':(i+1)*4+((arr.toList.drop (off+i*4)).take ((es.length-i)*4)).length<=(laid j6 (i*4) x).size:=by omega
   refine fin ⟨_,rfl,ae8,.inr ⟨w.heap.size,0,G,_,_,.inr (fl _),by simp;omega,CQ aB hi gk qv (setRow_heap _ _ _ _ _ (0,0) (setRow_heap (w.drew.alloc _) _ _ _ _ (0,0) (oX w.drew _))) hB ?_ ?_ ?_ ?_⟩⟩
   ·rw[rT c',mG,FK];omega
   ·intro p hp;rw[dV,nA c',bq (by omega),nA jJ,bq (by omega)];exact FJ p hp
   ·intro p hp;rw[dV,nA c',bq (by omega),nA jJ,bh (by omega)];rw[show i*4+p-i*4=p by omega]
   intro p hp;rw[dV,nA c',bh (by omega),kK,bh (by omega),lY,mT];rw[show (i+1)*4+p-(i+1)*4=p by omega]
  -- in acb,there is room
  refine (afE b off es.length cap i gC h5 vc arr tb pa tx x w aB.heap xu.heap cU bM fP eh gk uj qv h1 (by omega)).mono ?_;rintro e aM ⟨rfl,rfl⟩;have sD:((arr.toList.drop (off+i*4)).take ((es.length-i)*4)).length=(es.length-i)*4:=by simp;omega
  have jJ:off+(i+1)*4+((arr.toList.drop (off+i*4)).take ((es.length-i)*4)).length<=arr.size:=by omega
  have mG:=rT jJ;have c':off+i*4+x.length<=(laid arr (off+(i+1)*4) ((arr.toList.drop (off+i*4)).take ((es.length-i)*4))).size:=by omega
  refine fin ⟨_,rfl,VC nm _ _,.inr ⟨b,off,cap,_,tb,.inl nm,by simp;omega,CQ aB hi gk qv (setRow_heap _ _ _ _ _ (0,0) (setRow_heap w.drew b arr _ tb (0,0) aB.heap)) fP ?_ ?_ ?_ ?_⟩⟩
  ·rw[rT c',mG];exact eh
  ·intro p hp;rw[nA c',bq (by omega),nA jJ,bq (by omega)]
  ·intro p hp;rw[nA c',bh (by omega)];rw[show off+i*4+p-(off+i*4)=p by omega]
  intro p hp;rw[nA c',bq (by omega),nA jJ,bh (by omega),kK,bh (by omega),lY,mT];rw[show off+(i+1)*4+p-(off+(i+1)*4)=p by omega]
 have adu:i=es.length:=by omega
 subst adu;rcases qV cap (es.length+1) with fP | fP
 ·
  obtain⟨pE,holds⟩:∃pE,pE=(arr.toList.drop off).take (es.length*4):=⟨_,rfl⟩
  have ry:pE.length=es.length*4:=by rw[holds];simp;omega
  obtain⟨G,hB⟩:∃G,G=grownCap w (es.length+1) cap 141:=⟨_,rfl⟩
  have B1:es.length+1<=G:=by rw[hB];exact grownCap_ge w _ _ _
  have fG:∀ty,(Builtin.append_ #[48,48] ty #[.slice (some ⟨b,off,none⟩) es.length cap,.slice (some ⟨gC,h5,none⟩) 1 vc]).run prog w=.ok (.slice (some ⟨w.heap.size,0,none⟩) (es.length+1) G) (w.drew.alloc (.cells (pE.toArray++x.toArray++Builtin.zeroCells (Value.agg #[.int .i64 0,.int .i64 0,.int .i64 0,.int .i64 0]).cells (G-(es.length+1))) 141)):=by
   intro ty;have:=run_append_grow (P:=prog) w 48 ty 141 i0 _ gS lM bU ⟨b,off,none⟩ es.length cap pE (by rw[a',ry]) (fun j v a8=>by
    rw[holds,kK]at a8;split at a8
    ·rw[lY,mT]at a8;rw[Addr.add_lit];simp[World.cell?,aB.heap,a8]
    cases a8) ⟨gC,h5,none⟩ 1 vc x (by rw[a',gk]) Gc (by omega) (by omega) (growslice_fits (by omega) (by rw[bu];omega))
   rw[<-hB]at this;exact this
  refine (NL (some ⟨b,off,none⟩) es.length cap gC h5 vc w _ _ pt fG).mono ?_;rintro e aM ⟨rfl,rfl⟩;refine fin ⟨_,rfl,Wy,.inr ⟨w.heap.size,0,G,_,_,.inr (fl _),by simp,CQ aB hi gk qv (oX w.drew _) B1 ?_ ?_ ?_ ?_⟩⟩
  ·simp only[u9,p2,size_zeroCells,gk,ry];show 0+G*4<=es.length*4+4+(G-(es.length+1))*4;omega
  ·intro p hp;rw[dV,kr,bh (by simp[ry];omega),kr,bh (by simp[ry];omega)];simp only[p1];rw[holds,kK,bh hp,lY,mT]
  ·intro p hp;rw[dV,kr,bh (by simp[ry];omega),kr,bq (by simp[ry])];simp only[p1,p2,ry];rw[show es.length*4+p-es.length*4=p by omega]
  intro p hp;simp at hp
 -- at Bm end,there is room
 have fG:∀ty,(Builtin.append_ #[48,48] ty #[.slice (some ⟨b,off,none⟩) es.length cap,.slice (some ⟨gC,h5,none⟩) 1 vc]).run prog w=.ok (.slice (some ⟨b,off,none⟩) (es.length+1) cap) (w.setRow b (laid arr (off+es.length*4) x)):=by
  intro ty;have:=Gz (P:=prog) (t:=48) (ty:=ty) gS lM w b off es.length cap arr tb aB.heap ⟨gC,h5,none⟩ 1 vc x (by rw[a',gk]) Gc qv fP (by rw[a',gk];omega);rw[a']at this;exact this
 refine (NL (some ⟨b,off,none⟩) es.length cap gC h5 vc w _ _ pt fG).mono ?_;rintro e aM ⟨rfl,rfl⟩;have jJ:off+es.length*4+x.length<=arr.size:=by omega
 refine fin ⟨_,rfl,ae7 nm _,.inr ⟨b,off,cap,_,tb,.inl nm,by simp,CQ aB hi gk qv (setRow_heap _ _ _ _ _ (0,0) aB.heap) fP ?_ ?_ ?_ ?_⟩⟩
 ·rw[rT jJ];exact eh
 ·intro p hp;rw[nA jJ,bq (by omega)]
 ·intro p hp;rw[nA jJ,bh (by omega)];rw[show off+es.length*4+p-(off+es.length*4)=p by omega]
 intro p hp;simp at hp
theorem Cell.za(xs:List Cell):xs.map Cell.e=gI (xs.map fun r=>r.e.map D.Bn):=by
 simp only[gI,List.map_map];rfl
theorem afb(xs:List Cell)(x:Cell)(i:Nat)(hi:i<=xs.length)(aj:xs.length<=8388608):lk prog 305 [.one (.fh 4 (xs.map Cell.e) none),.one (.ro (I i)),.one (.fh 4 [x.e] none)] [.one (.J 4 ((xs.take i++x::xs.drop i).map Cell.e))]:=by
 have:=afa (xs.map fun r=>r.e.map D.Bn) (x.e.map D.Bn) i (by simpa using hi) (by simpa using aj);rw[Cell.za,Cell.za];simp only[gF,iM,tE,List.map_drop]at this ⊢;exact this
end Go.Proofs.YtdchjefneblpgaaGreat
namespace Go.Proofs.YtdchjefneblpgaaGreat
open Go.Sx Go.RowKit Go.Proofs.Tryz
def n3(xs:List Cell)(x:Cell):Bool:=xs.any fun a=>decide (a=x)
def mM(xs:List Cell)(x:Cell):Nat:=(xs.findIdx? fun a=>!decide (fS a x<0)).getD xs.length
def ie(xs:List Cell)(x:Cell):List Cell:=if n3 xs x then xs else xs.take (mM xs x)++x::xs.drop (mM xs x)
theorem NM(xs:List Cell)(x:Cell):mM xs x<=xs.length:=by
 unfold mM;cases h:xs.findIdx? (fun a=>!decide (fS a x<0)) with
 | none=>simp
 | some i=>
  rw[u6]at h;have:=h.1;simp;omega
theorem NN(xs:List Cell)(x:Cell):(ie xs x).length<=xs.length+1:=by
 unfold ie;split
 ·omega
 have:=NM xs x;simp;omega
theorem Wz(xs:List Cell)(x:Cell)(aj:xs.length<=8388608):av 306 [.one (.J 4 (xs.map Cell.e)),.agg x.e] [.one (B (n3 xs x))]:=by
 have l:=hf (P:=prog) (c:=(ap f306 0)) xs (fun a=>decide (a=x)) (fun i=>yL (xs.map Cell.e) x.op x.aU x.key x.val i) (X:=fun _ _=>Oy true) eZ (ci 0)
  (fun i a ae h=>aAK ⟨bT (a6 ae),bx,bA (a6 ae),bw Cell.e ae,(xY a x).trans h,cP (a6 ae) aj,ad⟩)
  (fun i a ae h=>aAJ ⟨bT (a6 ae),bx,bA (a6 ae),bw Cell.e ae,(xY a x).trans h,ad⟩)
  (aAL ⟨dq,ad⟩)
 unfold n3;rcases l with⟨_,_,h1,U⟩ | ⟨i,a,_,_,_,_,h1,U⟩
 ·rw[h1];exact aAN ⟨U,ad⟩
 rw[h1];exact aAM ⟨U,ad⟩
theorem WA(xs:List Cell)(x:Cell)(r:Bool)(h:n3 xs x=r)(aj:xs.length<=8388608):av 306 [.one (.J 4 (xs.map Cell.e)),.agg x.e] [.one (B r)]:=h▸Wz xs x aj
def Gg(xs:List Cell)(x:Cell):Int:=match xs.findIdx? (fun a=>decide (a=x)) with | some i=>i | none=>-1
theorem afc(xs:List Cell)(x:Cell):decide (Gg xs x>=0)=n3 xs x:=by
 unfold Gg n3;cases h:xs.findIdx? (fun a=>decide (a=x)) with
 | none=>
  have:xs.any (fun a=>decide (a=x))=false:=by
   rw[fm];rw[Ju]at h;exact fun a ae=>by simpa using h a ae
  rw[this];rfl
 | some i=>
  rw[u6]at h;obtain⟨hi,U,_⟩:=h;have:xs.any (fun a=>decide (a=x))=true:=oj.2 ⟨_,p5 hi,U⟩;rw[this];simp
theorem afd(xs:List Cell)(x:Cell)(aj:xs.length<=8388608):av 365 [.one (.J 4 (xs.map Cell.e)),.agg x.e] [.one (I (Gg xs x))]:=by
 have l:=hf (P:=prog) (c:=(ap f365 0)) xs (fun a=>decide (a=x)) (fun i=>yH (xs.map Cell.e) x.op x.aU x.key x.val i) (X:=fun i _=>Ou i) eZ (ci 0)
  (fun i a ae h=>azl ⟨bT (a6 ae),bx,bA (a6 ae),bw Cell.e ae,(Wk a x).trans h,cP (a6 ae) aj,ad⟩)
  (fun i a ae h=>azk ⟨bT (a6 ae),bx,bA (a6 ae),bw Cell.e ae,(Wk a x).trans h,ad⟩)
  (azm ⟨dq,ad⟩)
 unfold Gg;rcases l with⟨_,h1,_,U⟩ | ⟨i,a,_,_,_,h1,_,U⟩
 ·simp only[h1];exact aAO ⟨U,ad⟩
 simp only[h1];exact azn ⟨U,ad⟩
theorem WB(xs:List Cell)(x:Cell)(aj:xs.length<=8388608):av 303 [.one (.J 4 (xs.map Cell.e)),.agg x.e] [.one (B (n3 xs x))]:=by
 rw[<-afc];exact azh ⟨azj ⟨afd xs x aj,ad⟩,ad⟩
theorem WC(xs:List Cell)(x:Cell)(r:Bool)(h:n3 xs x=r)(aj:xs.length<=8388608):av 303 [.one (.J 4 (xs.map Cell.e)),.agg x.e] [.one (B r)]:=h▸WB xs x aj
theorem uL(xs:List Cell)(aj:xs.length<=8388608):av 297 [.one (.J 4 (xs.map Cell.e))] [.one (.J 4 (xs.map Cell.e))]:=
 azg ⟨by simp;omega,by simp;omega,dy _ Cell.flat _,ad⟩
theorem Ad(xs:List Cell)(x:Cell)(aj:xs.length<=8388608):av 238 [.one (.J 4 (xs.map Cell.e)),.agg x.e] [.one (.J 4 ((ie xs x).map Cell.e))]:=by
 unfold ie;cases h:n3 xs x with
 | true=>
  rw[bh rfl];exact aAe ⟨WA xs x true h aj,rfl,by simp;omega,by simp;omega,dy _ Cell.flat _,ad⟩
 | false=>
  rw[bq (by simp)];have l:cN prog (ap f238 0) (xW (xs.map Cell.e) x.op x.aU x.key x.val 0) (hA.exit 0) (CO (xs.map Cell.e) x.op x.aU x.key x.val (mM xs x)):=by
   have l:=hf (P:=prog) (c:=(ap f238 0)) xs (fun a=>!decide (fS a x<0)) (fun i=>xW (xs.map Cell.e) x.op x.aU x.key x.val i) (X:=fun i _=>CO (xs.map Cell.e) x.op x.aU x.key x.val i) (ci 0) (ci 0)
    (fun i a ae h=>aAf ⟨bT (a6 ae),bx,bA (a6 ae),bw Cell.e ae,Hm a x,by simpa using h,cP (a6 ae) aj,ad⟩)
    (fun i a ae h=>aAg ⟨bT (a6 ae),bx,bA (a6 ae),bw Cell.e ae,Hm a x,by simpa using h,ad⟩)
    (aAh ⟨dq,ad⟩)
   unfold mM;rcases l with⟨_,h1,_,U⟩ | ⟨i,a,_,_,_,h1,_,U⟩
   ·rw[h1];exact U
   rw[h1];exact U
  have hp:=NM xs x;generalize mM xs x=p at*;refine afp (aAi ⟨WA xs x false h aj,rfl,l,by simp,by simp,by simp;omega,by simp;omega,by simp;omega,?_,by simp;omega,by simp;omega,fA x.flat,by simp,by simp;omega,by simp,by simp;omega,by simp;omega,?_,ad⟩) ?_
  ·simp only[l0,mU,Nat.sub_zero,va,<-tE];exact dy _ Cell.flat _
  ·simp only[l0,mU,<-tE,<-List.map_drop];exact dy _ Cell.flat _
  simp only[l0,mU,Nat.sub_zero,va,List.nil_append,<-tE,<-List.map_drop,gF,iM,o5]
  congr 1
  rw[wV (by simp)];rfl
theorem NO(xs:List Cell)(x:Cell)(aj:xs.length<=8388608):av 237 [.one (.J 4 (xs.map Cell.e)),.agg x.e] [.one (.J 4 ((ie xs x).map Cell.e))]:=by
 have c:=uL xs aj;unfold ie;cases h:n3 xs x with
 | true=>
  rw[bh rfl];exact aAP ⟨c,WC xs x true h aj,rfl,ad⟩
 | false=>
  rw[bq (by simp)];have l:cN prog (ap f237 0) (yI (xs.map Cell.e) x.op x.aU x.key x.val (xs.map Cell.e) 0) (hA.exit 0) (Dk x.op x.aU x.key x.val (xs.map Cell.e) (mM xs x)):=by
   have l:=hf (P:=prog) (c:=(ap f237 0)) xs (fun a=>!decide (fS a x<0)) (fun i=>yI (xs.map Cell.e) x.op x.aU x.key x.val (xs.map Cell.e) i) (X:=fun i _=>Dk x.op x.aU x.key x.val (xs.map Cell.e) i) (ci 0) (ci 0)
    (fun i a ae h=>aAQ ⟨bT (a6 ae),bx,bA (a6 ae),bw Cell.e ae,Hl a x,by simpa using h,cP (a6 ae) aj,ad⟩)
    (fun i a ae h=>aAR ⟨bT (a6 ae),bx,bA (a6 ae),bw Cell.e ae,Hl a x,by simpa using h,ad⟩)
    (aAS ⟨dq,ad⟩)
   unfold mM;rcases l with⟨_,h1,_,U⟩ | ⟨i,a,_,_,_,h1,_,U⟩
   ·rw[h1];exact U
   rw[h1];exact U
  exact aAT ⟨c,WC xs x false h aj,rfl,l,afb xs x (mM xs x) (NM xs x) aj,ad⟩
def ko(out xs:List Cell):List Cell:=xs.foldl ie out
def rX(c:aV):List Cell:=c.ao.foldl (fun out w=>ko out w.cells) []
theorem NP:∀(xs out:List Cell),(ko out xs).length<=out.length+xs.length
 | [],out=>by simp[ko]
 | x::xs,out=>by
  have h1:=NN out x;have U:=NP xs (ie out x);simp only[ko,List.foldl_cons,fO]at U ⊢;omega
theorem NQ:∀(ws:List aN) (out:List Cell),(ws.foldl (fun out w=>ko out w.cells) out).length<=out.length+(ws.map aN.sz).sum
 | [],out=>by simp
 | w::ws,out=>by
  have h1:=NP w.cells out;have U:=NQ ws (ko out w.cells);have aA:w.cells.length<=w.sz:=by simp only[aN.sz];omega
  simp only[List.foldl_cons,iM,sj];omega
variable{c:aV}
theorem aV.IS(h:c.sz<=8388608):(c.ao.map aN.sz).sum<=8388608:=by
 simp only[aV.sz,fZ]at h;omega
theorem CR(h:c.sz<=8388608):(rX c).length<=8388608:=by
 have:=NQ c.ao [];have:=aV.IS h;unfold rX;simp only[ej] at*;omega
theorem WD(h:c.sz<=8388608){i:Nat}{w:aN}(hw:c.ao[i]?=some w)(j:Nat):(ko (lA (fun out w=>ko out w.cells) [] c.ao i) (w.cells.take j)).length<=8388608:=by
 have h1:=NP (w.cells.take j) (lA (fun out w=>ko out w.cells) [] c.ao i);have U:=NQ (c.ao.take i) [];have aA:=aV.IS h;have aI:yV aN.sz c.ao (i+1)<=(c.ao.map aN.sz).sum:=ayc;rw[ayb hw]at aI;have a':w.cells.length<=w.sz:=by simp only[aN.sz];omega
 simp only[lA,yV,ej,u7] at*;omega
theorem WE{out xs:List Cell}{i:Nat}{a:Cell}(h:xs[i]?=some a):ko out (xs.take (i+1))=ie (ko out (xs.take i)) a:=by
 simp[ko,p6,h,List.foldl_append]
theorem afe(c:aV)(al:c.sz<=8388608):av 105 [.agg c.e] [.one (.J 4 ((rX c).map Cell.e))]:=by
 have aj:c.ao.length<=8388608:=by have h:=al;simp only[aV.sz,fZ]at h;omega
 let f:=fun (out:List Cell) (w:aN)=>ko out w.cells
 have inner:∀(i:Nat) (w:aN),c.ao[i]?=some w->cN prog (ap f105 1) (Aa (c.ax.nodes.map Node.e) c.ax.ao c.ax.cap (c.ao.map aN.e) (c.bQ.map bC.e) (c.tokens.map bO.e) (c.news.map bW.e) i (0:Nat) ((lA f [] c.ao i).map Cell.e)) (hA.exit 2)
   (NF (c.ax.nodes.map Node.e) c.ax.ao c.ax.cap (c.ao.map aN.e) (c.bQ.map bC.e) (c.tokens.map bO.e) (c.news.map bW.e) i ((lA f [] c.ao (i+1)).map Cell.e)):=by
  intro i w hw;have nU:w.cells.length<=8388608:=by
   have:=AT (sz:=aN.sz) (cB hw);have:=aV.IS al;have a':w.cells.length<=w.sz:=by simp only[aN.sz];omega
   omega
  have l:=dO (P:=prog) (c:=(ap f105 1)) (ci 2) w.cells.length (fun j:Nat=>Aa (c.ax.nodes.map Node.e) c.ax.ao c.ax.cap (c.ao.map aN.e) (c.bQ.map bC.e) (c.tokens.map bO.e) (c.news.map bW.e) i j ((ko (lA f [] c.ao i) (w.cells.take j)).map Cell.e)) (fun j a8=>by
   obtain⟨a,ae⟩:=cV a8;have hle:=WD al hw j;rw[WE ae];exact afH ⟨bx,bA (a6 hw),bw aN.e hw,bT a8,bx,bA (a6 hw),bw aN.e hw,bx,bA a8,bw Cell.e ae,Ad _ a hle,cP a8 nU,ad⟩) (afI ⟨bx,bA (a6 hw),bw aN.e hw,dq,ad⟩)
  rw[h6]at l;rw[G8 hw];exact l
 have l:=dO (P:=prog) (c:=(ap f105 0)) (ci 0) c.ao.length (fun i:Nat=>CP (c.ax.nodes.map Node.e) c.ax.ao c.ax.cap (c.ao.map aN.e) (c.bQ.map bC.e) (c.tokens.map bO.e) (c.news.map bW.e) i ((lA f [] c.ao i).map Cell.e)) (fun i hi=>by
  obtain⟨w,hw⟩:=cV hi;exact afJ ⟨bT hi,inner i w hw,cP hi aj,ad⟩) (afK ⟨dq,ad⟩)
 rw[G9]at l;exact afL ⟨l,ad⟩
theorem agG(c:aV)(al:c.sz<=8388608):av 104 [.agg c.e] [.one (.J 4 ((rX c).map Cell.e))]:=by
 have aj:c.ao.length<=8388608:=by have h:=al;simp only[aV.sz,fZ]at h;omega
 let f:=fun (out:List Cell) (w:aN)=>ko out w.cells
 have inner:∀(i:Nat) (w:aN),c.ao[i]?=some w->cN prog (ap f104 1) (AY (c.ao.map aN.e) i (w.cells.map Cell.e) (0:Nat) ((lA f [] c.ao i).map Cell.e)) (hA.exit 2)
   (Ov (c.ao.map aN.e) i ((lA f [] c.ao (i+1)).map Cell.e)):=by
  intro i w hw;have nU:w.cells.length<=8388608:=by
   have:=AT (sz:=aN.sz) (cB hw);have:=aV.IS al;have a':w.cells.length<=w.sz:=by simp only[aN.sz];omega
   omega
  have l:=dO (P:=prog) (c:=(ap f104 1)) (ci 2) w.cells.length (fun j:Nat=>AY (c.ao.map aN.e) i (w.cells.map Cell.e) j ((ko (lA f [] c.ao i) (w.cells.take j)).map Cell.e)) (fun j a8=>by
   obtain⟨a,ae⟩:=cV a8;have hle:=WD al hw j;rw[WE ae];exact aAZ ⟨bT a8,bx,bA a8,bw Cell.e ae,NO _ a hle,cP a8 nU,ad⟩) (aA0 ⟨dq,ad⟩)
  rw[h6]at l;rw[G8 hw];exact l
 have l:=dO (P:=prog) (c:=(ap f104 0)) (ci 0) c.ao.length (fun i:Nat=>Dl (c.ao.map aN.e) i ((lA f [] c.ao i).map Cell.e)) (fun i hi=>by
  obtain⟨w,hw⟩:=cV hi;exact aA1 ⟨bT hi,bx,bA hi,bw aN.e hw,inner i w hw,cP hi aj,ad⟩) (aA2 ⟨dq,ad⟩)
 rw[G9]at l;exact aA3 ⟨l,ad⟩
end Go.Proofs.YtdchjefneblpgaaGreat
namespace Go.Proofs.YtdchjefneblpgaaGreat
open Go.Sx Go.RowKit Go.Proofs.Tryz
def dZ(g:bF)(op:Int):Option Node:=if 0<=op then g.nodes[op.toNat]? else none
def k2(g:bF)(x:Cell):Bool:=match dZ g x.op with | some n=>n.kind==8 | none=>false
def s3(g:bF)(xs:List Cell):List Cell:=xs.filter (k2 g)
variable{g:bF}{a:Int}{w:Node}
theorem xZ(h:dZ g a=some w):0<=a/\a<(↑(g.nodes.map Node.e).length:Int)/\(g.nodes.map Node.e)[a.toNat]?=some w.e/\aw a 0 (↑(g.nodes.map Node.e).length-1)=true:=by
 unfold dZ at h;split at h
 ·have:=(gh.1 h).1;refine⟨‹_›,by simp;omega,by simp[h],?_⟩;simp only[aw,cp,cc];omega
 cases h
theorem WG(h:dZ g a=none):aw a 0 (↑(g.nodes.map Node.e).length-1)=false:=by
 unfold dZ at h;simp only[aw,cp,l4];split at h
 ·rw[List.getElem?_eq_none_iff]at h;omega
 omega
theorem CS(h:dZ g a=some w):w∈g.nodes:=by
 unfold dZ at h;split at h
 ·exact f' h
 cases h
theorem bF.aeT(h:g.sz<=8388608):g.nodes.length<=8388608:=by simp only[bF.sz,fZ]at h;omega
theorem bF.xC(h:g.sz<=8388608)(hw:w∈g.nodes):w.outs.length<=8388608:=by
 have:=AT (sz:=Node.sz) hw;simp only[bF.sz,fZ]at h;have a':w.outs.length<=w.sz:=by simp only[Node.sz];omega
 omega
theorem Hp(h:g.sz<=8388608):aJ .i64 ((↑(g.nodes.map Node.e).length:Int)-1):=by
 have:=bF.aeT h;exact⟨by simp;omega,by simp;omega⟩
theorem agH(g:bF)(op:Int)(ar:g.sz<=8388608):av 250 [.agg g.e,.one (I op)] [.one (B (dZ g op).isSome)]:=by
 cases h:dZ g op with
 | none=>exact UK ⟨Hp ar,hX _ (WG h),ad⟩
 | some w=>exact UK ⟨Hp ar,hX _ (xZ h).2.2.2,ad⟩
theorem s4(g:bF)(op:Int)(r:Bool)(h:(dZ g op).isSome=r)(ar:g.sz<=8388608):av 250 [.agg g.e,.one (I op)] [.one (B r)]:=h▸agH g op ar
def qI(g:bF)(op:Int):Node×Bool:=match dZ g op with | some n=>(n,true) | none=>(⟨0,0,0,[]⟩,false)
theorem agI(n:Int):∀d∈bd n,∃x,d=.v x:=by
 intro d aF;simp only[bd,dQ,qW,or_false]at aF;subst aF;exact⟨_,rfl⟩
theorem agJ(g:bF)(op:Int)(ar:g.sz<=8388608):av 249 [.agg g.e,.one (I op)] [.agg (qI g op).1.e,.one (B (qI g op).2)]:=by
 unfold qI;cases h:dZ g op with
 | none=>exact aAj ⟨Hp ar,gp _ _ _ _ (WG h),rfl,ad⟩
 | some w=>
  obtain⟨h1,U,aA,aI⟩:=xZ h;have aW:=bF.xC ar (CS h);exact aAk ⟨Hp ar,gp _ _ _ _ aI,rfl,h1,U,aA,by simp;omega,by simp;omega,dy _ agI _,ad⟩
theorem wG(g:bF)(op:Int)(r:Node×Bool)(h:qI g op=r)(ar:g.sz<=8388608):av 249 [.agg g.e,.one (I op)] [.agg r.1.e,.one (B r.2)]:=h▸agJ g op ar
theorem VR(g:bF)(xs:List Cell)(ar:g.sz<=8388608)(aj:xs.length<=8388608):av 133 [.agg g.e,.one (.J 4 (xs.map Cell.e))] [.one (.J 4 ((s3 g xs).map Cell.e))]:=by
 have l:=dO (P:=prog) (c:=(ap f133 0)) (ci 0) xs.length (fun i:Nat=>uJ (xs.map Cell.e) i (((xs.take i).filter (k2 g)).map Cell.e) (g.nodes.map Node.e) g.ao g.cap) (fun i hi=>by
  obtain⟨a,ae⟩:=cV hi;have br:=s0 (k2 g) xs i;have ai:=pM (k2 g) ae;cases h:dZ g a.op with
  | none=>
   have hp:k2 g a=false:=by simp[k2,h]
   rw[bq (by simp[hp]),gR]at ai;rw[ai];exact aAn ⟨bT hi,bx,bA hi,bw Cell.e ae,wG g a.op _ (by unfold qI;rw[h]) ar,rfl,cP hi aj,ad⟩
  | some w=>
   have n:=wG g a.op (w,true) (by unfold qI;rw[h]) ar;by_cases hk:(w.kind==8)=true
   ·have hp:k2 g a=true:=by simp only[k2,h];exact hk
    rw[bh hp]at ai;rw[ai,gF];exact aAl ⟨bT hi,bx,bA hi,bw Cell.e ae,n,rfl,hk,bx,bA hi,bw Cell.e ae,by simp;omega,by simp;omega,fA a.flat,cP hi aj,ad⟩
   have hp:k2 g a=false:=by simp only[k2,h];simpa using hk
   rw[bq (by simp[hp]),gR]at ai;rw[ai];exact aAm ⟨bT hi,bx,bA hi,bw Cell.e ae,n,rfl,by simpa using hk,cP hi aj,ad⟩) (afF ⟨dq,ad⟩)
 rw[h6]at l;exact afG ⟨l,ad⟩
theorem VS(g:bF)(xs:List Cell)(ar:g.sz<=8388608)(aj:xs.length<=8388608):av 134 [.agg g.e,.one (.J 4 (xs.map Cell.e))] [.one (.J 4 ((s3 g xs).map Cell.e))]:=by
 have l:=dO (P:=prog) (c:=(ap f134 0)) (ci 0) xs.length (fun i:Nat=>uI (xs.map Cell.e) i (((xs.take i).filter (k2 g)).map Cell.e) (g.nodes.map Node.e) g.ao g.cap) (fun i hi=>by
  obtain⟨a,ae⟩:=cV hi;have br:=s0 (k2 g) xs i;have ai:=pM (k2 g) ae;cases h:dZ g a.op with
  | none=>
   have hp:k2 g a=false:=by simp[k2,h]
   rw[bq (by simp[hp]),gR]at ai;rw[ai];exact aAW ⟨bT hi,bx,bA hi,bw Cell.e ae,s4 g a.op false (by rw[h];rfl) ar,rfl,cP hi aj,ad⟩
  | some w=>
   have n:=s4 g a.op true (by rw[h];rfl) ar;obtain⟨h1,U,aA,aI⟩:=xZ h;by_cases hk:(w.kind==8)=true
   ·have hp:k2 g a=true:=by simp only[k2,h];exact hk
    rw[bh hp]at ai;rw[ai,gF];exact aAU ⟨bT hi,bx,bA hi,bw Cell.e ae,n,rfl,h1,U,aA,hk,by simp;omega,by simp;omega,fA a.flat,cP hi aj,ad⟩
   have hp:k2 g a=false:=by simp only[k2,h];simpa using hk
   rw[bq (by simp[hp]),gR]at ai;rw[ai];exact aAV ⟨bT hi,bx,bA hi,bw Cell.e ae,n,rfl,h1,U,aA,by simpa using hk,cP hi aj,ad⟩) (aAX ⟨dq,ad⟩)
 rw[h6]at l;exact aAY ⟨l,ad⟩
def n4(c:aV)(e:Int):List Cell:=(s3 c.ax (rX c)).filter fun x=>x.aU==e
theorem NR{g:bF}{xs:List Cell}(h:xs.length<=8388608):(s3 g xs).length<=8388608:=mW (l3 ..) h
theorem Hq{c:aV}{e:Int}(h:c.sz<=8388608):(n4 c e).length<=8388608:=mW (l3 ..) (NR (CR h))
theorem aV.FE{c:aV}(h:c.sz<=8388608):c.ax.sz<=8388608:=by simp only[aV.sz]at h;omega
theorem NS(c:aV)(e:Int)(al:c.sz<=8388608):av 20 [.agg c.e,.one (I e)] [.one (.J 4 ((n4 c e).map Cell.e))]:=by
 have o:=VR c.ax (rX c) (aV.FE al) (CR al);have aj:=NR (g:=c.ax) (CR al);unfold n4;generalize s3 c.ax (rX c)=xs at*
 let p:=fun x:Cell=>x.aU==e
 have l:=dO (P:=prog) (c:=(ap f20 0)) (ci 0) xs.length (fun i:Nat=>xX e (xs.map Cell.e) i (((xs.take i).filter p).map Cell.e)) (fun i hi=>by
  obtain⟨a,ae⟩:=cV hi;have br:=s0 p xs i;have ai:=pM p ae;by_cases hp:p a=true
  ·rw[bh hp]at ai;rw[ai,gF];exact afM ⟨bT hi,bx,bA hi,bw Cell.e ae,hp,bx,bA hi,bw Cell.e ae,by simp;omega,by simp;omega,fA a.flat,cP hi aj,ad⟩
  rw[bq hp,gR]at ai;rw[ai];exact afN ⟨bT hi,bx,bA hi,bw Cell.e ae,u5.2 hp,cP hi aj,ad⟩) (afO ⟨dq,ad⟩)
 rw[h6]at l;exact afP ⟨afe c al,o,l,ad⟩
theorem VT(c:aV)(e:Int)(al:c.sz<=8388608):av 114 [.agg c.e,.one (I e)] [.one (.J 4 ((n4 c e).map Cell.e))]:=by
 have o:=VS c.ax (rX c) (aV.FE al) (CR al);have aj:=NR (g:=c.ax) (CR al);unfold n4;generalize s3 c.ax (rX c)=xs at*
 let p:=fun x:Cell=>x.aU==e
 have l:=dO (P:=prog) (c:=(ap f114 0)) (ci 0) xs.length (fun i:Nat=>yJ e (xs.map Cell.e) i (((xs.take i).filter p).map Cell.e)) (fun i hi=>by
  obtain⟨a,ae⟩:=cV hi;have br:=s0 p xs i;have ai:=pM p ae;by_cases hp:p a=true
  ·rw[bh hp]at ai;rw[ai,gF];exact aA4 ⟨bT hi,bx,bA hi,bw Cell.e ae,hp,by simp;omega,by simp;omega,fA a.flat,cP hi aj,ad⟩
  rw[bq hp,gR]at ai;rw[ai];exact aA5 ⟨bT hi,bx,bA hi,bw Cell.e ae,u5.2 hp,cP hi aj,ad⟩) (aA6 ⟨dq,ad⟩)
 rw[h6]at l;exact aA7 ⟨agG c al,o,l,ad⟩
