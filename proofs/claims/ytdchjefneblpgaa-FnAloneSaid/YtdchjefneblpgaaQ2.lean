import Derived.Test.YtdchjefneblpgaaR22
import Derived.Test.YtdchjefneblpgaaT1
import Derived.WalkKit
import Derived.Deep.RegionLaw
import Derived.Shelf.RegionOpenPlain
import Derived.Lib.SliceRun
import Derived.Lib.JoinLaws
import Derived.Lib.Overlaps
import Derived.Lib.AppendZerosOnto
import Derived.Laws.Externs
import Derived.Deep.LoopGhost
import Derived.Lib.Walk
set_option linter.unusedVariables false
set_option linter.unusedSimpArgs false
namespace Go.Proofs.Ytdchjefneblpgaa
open Go.Sx Go.RowKit Go.Shelf Go.Lib Go.Proofs.Try
variable{P:Program}{w:World}{ops:Array Oper}{o:Oper}{a:Act}{Q:Exit->Act->World->Prop}
theorem Lx{rest:List Oper}(BK:o.guard=none)(d s:Operand)(t c3:TypeId)
  (aM:o.op=.call { callee:=.builtin .copy,args:=#[d,s],argTypes:=#[t,c3] }) (v u:Value) (ay:a.eval d=v) (ad:a.eval s=u) {my:Value} {aD:World}
  (ar:(Builtin.copy_ #[t,c3] o.type #[v,u]).run P w=.ok my aD) (h:wpList P ops Q rest (a.put o.dst my) aD):wpList P ops Q (o::rest) a w:=
 wpList_plain BK fun _ fw=>by
  unfold Oper.wp execOp;simp only[aM,resolve,invoke,builtin,Sem.run_bind,Sem.run_pure,Result.andThen_ok,List.map_toArray,gE,List.map_nil,ay,ad,ar];exact fw _ _ h
theorem Ly{K:Act->World->Prop}{E:Prop}
  (ag:o.guard=none) (d x:Operand) (e3 bR:TypeId) (pv:o.op=Op.call { callee:=Callee.builtin Builtin.copy,args:=#[d,x],argTypes:=#[e3,bR] })
  (v u:Value) (ay:a.eval d=v) (ae:a.eval x=u) {my:Value} {aD:World} (ar:(Builtin.copy_ #[e3,bR] o.type #[v,u]).run P w=.ok my aD) (fw:K (a.put o.dst my) aD):
  if Region.wanted o (yielded ops a.tmps)=true then Oper.wp P o a w K Q else E:=by
 have hw:Region.wanted o (yielded ops a.tmps)=true:=by simp[Region.wanted,ag]
 rw[bb hw];unfold Oper.wp;simp[execOp,pv,resolve,invoke,builtin,ay,ae,ar,Result.andThen];exact fw
theorem Er{rest:List Oper}(BK:o.guard=none)(d s:Operand)(t c3:TypeId)
  (aM:o.op=.call { callee:=.builtin .append,args:=#[d,s],argTypes:=#[t,c3] }) (v u:Value) (ay:a.eval d=v) (ad:a.eval s=u) {my:Value} {aD:World}
  (ar:(Builtin.append_ #[t,c3] o.type #[v,u]).run P w=.ok my aD) (h:wpList P ops Q rest (a.put o.dst my) aD):wpList P ops Q (o::rest) a w:=
 wpList_plain BK fun _ fw=>by
  unfold Oper.wp execOp;simp only[aM,resolve,invoke,builtin,Sem.run_bind,Sem.run_pure,Result.andThen_ok,List.map_toArray,gE,List.map_nil,ay,ad,ar];exact fw _ _ h
set_option maxHeartbeats 4000000 in
set_option maxRecDepth 1000000 in
theorem Es(base:Option Addr)(n cap eO fE vc:Nat)(w w1:World)(v:Value)(aR:n<=cap)
  (ei:∀ty,(Builtin.append_ #[30,30] ty #[.slice base n cap,.slice (some ⟨eO,fE,none⟩) 1 vc]).run prog w=.ok v w1):
  Calls prog 85 #[.slice base n cap,.int .i64 n,.slice (some ⟨eO,fE,none⟩) 1 vc] w fun e aD=>e=.returned v/\aD=w1:=by
 have mixed:prog.follows .mixedOrders=true:=by kernel_rfl
 go_enter func85,Try.ntmps85
 cases base with
 | none=>
  go_wp2_with (at_builtin;refine Er rfl _ _ _ _ rfl _ _ rfl rfl (ei _) ?_)
  all_goals (go_ret;exact⟨rfl,rfl⟩)
 | some a=>
  obtain⟨ab,aeG,aeJ⟩:=a
  go_wp2_with (at_builtin;refine Er rfl _ _ _ _ rfl _ _ rfl rfl (ei _) ?_)
  all_goals (go_ret;exact⟨rfl,rfl⟩)
set_option maxHeartbeats 4000000 in
set_option maxRecDepth 1000000 in
theorem UB(b off n cap i eO fE vc:Nat)(arr:Array Value)(tb:TypeId)(k7:Array Value)(oS:TypeId)(x:List Value)(w:World)(ah:w.heap[b]?=some (.cells arr tb (0,0)))(a8:w.heap[eO]?=some (.cells k7 oS (0,0)))(H6:eO≠b)
  (hi:i<n) (aR:n+1<=cap) (dc:off+cap*4<=arr.size) (eU:x.length=4) (pC:∀j v,x[j]?=some v->k7[fE+j]?=some v) (u7:∀v∈x,v.oneCell'=true)
  (J:∀x v,off<=x->x<off+n*4->arr[x]?=some v->v.oneCell'=true) (x0:n<8388609):
  Calls prog 85 #[.slice (some ⟨b,off,none⟩) n cap,.int .i64 i,.slice (some ⟨eO,fE,none⟩) 1 vc] w fun e aD=>e=.returned (.slice (some ⟨b,off,none⟩) (n+1) cap)/\
   aD=(w.drew.setRow b (laid arr (off+(i+1)*4) ((arr.toList.drop (off+i*4)).take ((n-i)*4)))).setRow b (laid (laid arr (off+(i+1)*4) ((arr.toList.drop (off+i*4)).take ((n-i)*4))) (off+i*4) x):=by
 obtain⟨mid,nd⟩:∃mid,mid=(arr.toList.drop (off+i*4)).take ((n-i)*4):=⟨_,rfl⟩
 have oc:mid.length=(n-i)*4:=by rw[nd];simp;omega
 have j2:∀u∈mid,u.oneCell'=true:=by
  intro u hu;obtain⟨y,a7⟩:=mA.1 hu;rw[nd,h9]at a7;split at a7
  ·rw[iv,jy]at a7;exact J _ u (by omega) (by omega) a7
  cases a7
 rw[<-nd];obtain⟨fS,rI⟩:∃fS,fS=laid arr (off+(i+1)*4) mid:=⟨_,rfl⟩
 have kH:fS.size=arr.size:=by rw[rI];exact qT (by omega)
 obtain⟨iN,mW⟩:∃iN,iN=w.drew.setRow b fS:=⟨_,rfl⟩
 have fM:iN.heap[b]?=some (.cells fS tb (0,0)):=by rw[mW];exact setRow_heap w.drew b arr fS tb (0,0) ah
 have qz:iN.heap[eO]?=some (.cells k7 oS (0,0)):=by rw[mW,setRow_other _ b eO _ H6];exact a8
 have dN:(prog.info? 52).map (·.size)=some 4:=by kernel_rfl
 have fV:prog.underlying 30=some (.slice 52):=by kernel_rfl
 have PF:∀ty jZ iJ,(Builtin.copy_ #[30,30] ty #[.slice (some ⟨b,off+(i+1)*4,none⟩) (n-i) jZ,.slice (some ⟨b,off+i*4,none⟩) (n+1-i) iJ]).run prog w.drew=.ok (goInt (Nat.min (n+1-i) (n-i))) iN:=by
  intro ty jZ iJ;have rU:Nat.min (n+1-i) (n-i)=n-i:=by simp only[Nat.min_def];split<;>omega
  rw[mW,rI];refine zw w.drew _ _ ty _ 4 b (off+(i+1)*4) _ jZ arr tb ⟨b,off+i*4,none⟩ _ iJ mid fV dN ah (by rw[rU,oc]) (fun j v aU=>?_) (by omega) j2;rw[nd,h9]at aU;split at aU
  ·rw[iv,jy]at aU;rw[Addr.add_lit];have dv:w.drew.heap[b]?=some (.cells arr tb (0,0)):=ah;simp[World.cell?,dv,aU]
  cases aU
 obtain⟨o2,rN⟩:∃o2,o2=iN.setRow b (laid fS (off+i*4) x):=⟨_,rfl⟩
 have PG:∀ty jZ,(Builtin.copy_ #[30,30] ty #[.slice (some ⟨b,off+i*4,none⟩) (n+1-i) jZ,.slice (some ⟨eO,fE,none⟩) 1 vc]).run prog iN=.ok (goInt (Nat.min 1 (n+1-i))) o2:=by
  intro ty jZ;have rU:Nat.min 1 (n+1-i)=1:=by simp only[Nat.min_def];split<;>omega
  rw[rN];refine zw iN _ _ ty _ 4 b (off+i*4) _ jZ fS tb ⟨eO,fE,none⟩ _ vc x fV dN fM (by rw[rU,eU]) (fun j v aU=>?_) (by omega) u7;rw[Addr.add_lit];simp[World.cell?,qz,pC j v aU]
 have Qw:∀CT AU,(callFunc 90 #[.slice (some ⟨eO,fE,none⟩) 1 vc,.slice (some ⟨b,off+(i+1)*4,none⟩) CT AU]).run prog w=.ok (.value (.bool false)) w:=fun CT AU=>by
  rw[run_callFunc_extern (P:=prog) func90 (by kernel_rfl) (by kernel_rfl) (by kernel_rfl) (e:=Extern.SlicesOverlaps.overlaps #[30,30] #[4]) (by kernel_rfl),
   Lib.run_overlaps_apart w 30 4 52 fV 4 (fun w=>by simp[sizeOf,typeInfo];kernel_rfl) ⟨eO,fE,none⟩ ⟨b,off+(i+1)*4,none⟩ 1 vc CT AU H6 oS tb k7.size arr.size (by simp[World.shape?,a8]) (by simp[World.shape?,ah]) (by omega) (by simp[World.frozen?,a8]) (by simp[World.frozen?,a8])]
  rfl
 have X:Aside (o2=(w.drew.setRow b fS).setRow b (laid fS (off+i*4) x)):=by rw[rN,mW];trivial
 have l3:i<=n:=by omega
 have QW:IntKind.i64.wrap ((i:Int)+1)=(i:Int)+1:=by rw[IntKind.wrap_i64];omega
 have QX:IntKind.i64.wrap ((n:Int)+1)=(n:Int)+1:=by rw[IntKind.wrap_i64];omega
 have ga:(0:Int)<=(i:Int)+1:=by omega
 have QL:((i:Int)+1).toNat=i+1:=by omega
 have afE:((n:Int)+1).toNat=n+1:=by omega
 have dX:¬(cap=i+1):=by omega
 have xZ:(i:Int)+1<=(n:Int)+1:=by omega
 have Br:¬(cap=i):=by omega
 have Pr:(i:Int)<=(n:Int)+1:=by omega
 have l7:¬((i:Int)=(n:Int)):=by omega
 have mixed:prog.follows .mixedOrders=true:=by kernel_rfl
 clear mW rN fM qz ah a8 nd oc j2 kH dN fV J u7 pC eU
 go_enter func85,Try.ntmps85
 go_wp2_with (simp only[Qw])
 go_region_law_o (refine Ly rfl _ _ 30 30 rfl _ _ (by simp[Act.eval,Act.put]) (by simp[Act.eval,Act.put]) (PF _ _ _) ?_)
 go_wp2_with (at_builtin;refine Lx rfl _ _ 30 30 rfl _ _ rfl rfl (PG _ _) ?_)
 go_ret
 exact⟨rfl,by rw[<-rI];exact X⟩
set_option maxHeartbeats 4000000 in
set_option maxRecDepth 1000000 in
theorem UC(b off n cap i eO fE vc:Nat)(arr:Array Value)(tb:TypeId)(k7:Array Value)(oS:TypeId)(x:List Value)(w:World)(ah:w.heap[b]?=some (.cells arr tb (0,0)))(a8:w.heap[eO]?=some (.cells k7 oS (0,0)))
  (hi:i<n) (aR:n<=cap) (ag:cap<n+1) (dc:off+cap*4<=arr.size) (eU:x.length=4) (pC:∀j v,x[j]?=some v->k7[fE+j]?=some v) (u7:∀v∈x,v.oneCell'=true)
  (J:∀x v,off<=x->x<off+n*4->arr[x]?=some v->v.oneCell'=true) (x0:n<8388609):
  Calls prog 85 #[.slice (some ⟨b,off,none⟩) n cap,.int .i64 i,.slice (some ⟨eO,fE,none⟩) 1 vc] w fun e aD=>∃(G:Nat) (hb:Array Value),n+1<=G/\hb.size=G*4/\(∀y,y<i*4->hb[y]?=arr[off+y]?)/\e=.returned (.slice (some ⟨w.heap.size,0,none⟩) (n+1) G)/\
   aD=(((w.drew.alloc (.cells hb 52)).setRow w.heap.size (laid hb (i*4) x)).drew).setRow w.heap.size (laid (laid hb (i*4) x) ((i+1)*4) ((arr.toList.drop (off+i*4)).take ((n-i)*4))):=by
 obtain⟨mid,nd⟩:∃mid,mid=(arr.toList.drop (off+i*4)).take ((n-i)*4):=⟨_,rfl⟩
 have oc:mid.length=(n-i)*4:=by rw[nd];simp;omega
 have j2:∀u∈mid,u.oneCell'=true:=by
  intro u hu;obtain⟨y,a7⟩:=mA.1 hu;rw[nd,h9]at a7;split at a7
  ·rw[iv,jy]at a7;exact J _ u (by omega) (by omega) a7
  cases a7
 rw[<-nd];have fV:prog.underlying 30=some (.slice 52):=by kernel_rfl
 have H2:prog.underlying 3=some (.int .i64):=by kernel_rfl
 have dN:(prog.info? 52).map (·.size)=some 4:=by kernel_rfl
 have Bv:(prog.info? 52).map (fun x=>(x.bytes,x.zero))=some (32,some (.agg #[.int .i64 0,.int .i64 0,.int .i64 0,.int .i64 0])):=by kernel_rfl
 obtain⟨lp,holds⟩:∃lp,lp=(arr.toList.drop off).take (i*4):=⟨_,rfl⟩
 have ng:lp.length=i*4:=by rw[holds];simp;omega
 obtain⟨G,fo⟩:∃G,G=grownCap w (n+1) cap 52:=⟨_,rfl⟩
 have vk:n+1<=G:=by rw[fo];exact grownCap_ge w _ _ _
 have ae3:G<=9223372036854775807:=by
  have:=grownCap_le_maxLen w (n+1) cap 52 (by unfold maxLen;omega);rw[<-fo]at this;unfold maxLen at this;omega
 obtain⟨hb,xW⟩:∃hb:Array Value,hb=lp.toArray++Builtin.zeroCells (Value.agg #[.int .i64 0,.int .i64 0,.int .i64 0,.int .i64 0]).cells (n+1-i)++Builtin.zeroCells (Value.agg #[.int .i64 0,.int .i64 0,.int .i64 0,.int .i64 0]).cells (G-(n+1)):=⟨_,rfl⟩
 have xY:hb.size=G*4:=by
  rw[xW];simp only[p',lJ,size_zeroCells,ng];show i*4+(n+1-i)*4+(G-(n+1))*4=G*4;omega
 have xX:∀y,y<i*4->hb[y]?=arr[off+y]?:=by
  intro y a7;rw[xW,hz,bb (by simp[size_zeroCells];omega),hz,bb (by simp;omega)];simp only[lI];rw[holds,h9,bb a7,iv,jy]
 obtain⟨n3,tj⟩:∃n3,n3=w.drew.alloc (.cells hb 52):=⟨_,rfl⟩
 have Bo:n3.heap[w.heap.size]?=some (.cells hb 52 (0,0)):=by rw[tj];exact kQ w.drew _
 have qp:b<w.heap.size:=(hB.1 ah).1;have Cc:eO<w.heap.size:=(hB.1 a8).1;have ga:n3.heap[b]?=some (.cells arr tb (0,0)):=by rw[tj,sq w.drew _ qp];exact ah
 have yh:n3.heap[eO]?=some (.cells k7 oS (0,0)):=by rw[tj,sq w.drew _ Cc];exact a8
 have QF:∀ty,(Builtin.append_ #[30,3] ty #[.slice (some ⟨b,off,none⟩) i cap,.int .i64 ((n:Int)+1-(i:Int))]).run prog w=.ok (.slice (some ⟨w.heap.size,0,none⟩) (n+1) G) n3:=by
  intro ty;cases iS:prog.info? 52 with
  | none=>rw[iS]at dN;cases dN
  | some i0=>
   rw[iS]at dN Bv;have a1:i0.size=4:=by simpa using dN
   obtain⟨bt,bQ⟩:i0.bytes=32/\i0.zero=some (.agg #[.int .i64 0,.int .i64 0,.int .i64 0,.int .i64 0]):=by simpa using Bv
   have hold:(Builtin.firstCells i0.size i (.slice (some ⟨b,off,none⟩) i cap)).run prog w.drew=.ok lp.toArray w.drew:=by
    rw[a1];refine run_firstCells_some w.drew 4 i ⟨b,off,none⟩ i cap lp ng (fun j v aU=>?_);rw[Addr.add_lit];rw[holds,h9]at aU;split at aU
    ·rw[iv,jy]at aU;have dv:w.drew.heap[b]?=some (.cells arr tb (0,0)):=ah;simp[World.cell?,dv,aU]
    cases aU
   have HF:i+(n+1-i)=n+1:=by omega
   have h:=Lib.run_append_grow_zeros w 30 3 ty 52 i0 _ .i64 .i64 fV H2 iS bQ (some ⟨b,off,none⟩) i cap lp hold (n+1-i) (by omega) (by omega) (by omega) (by omega) (by rw[bt];omega) (by rw[bt,HF];exact growslice_fits ag (by omega));rw[HF,<-fo,<-xW,<-tj]at h;rw[show (n:Int)+1-(i:Int)=((n+1-i:Nat):Int) by omega];exact h
 obtain⟨fS,rI⟩:∃fS,fS=laid hb (i*4) x:=⟨_,rfl⟩
 have kH:fS.size=hb.size:=by rw[rI];exact qT (by omega)
 obtain⟨iN,mW⟩:∃iN,iN=n3.setRow w.heap.size fS:=⟨_,rfl⟩
 have Hl:iN.heap[w.heap.size]?=some (.cells fS 52 (0,0)):=by rw[mW];exact setRow_heap n3 _ hb fS _ (0,0) Bo
 have fM:iN.heap[b]?=some (.cells arr tb (0,0)):=by rw[mW,setRow_other _ _ b _ (by omega)];exact ga
 have PH:∀ty jZ,(Builtin.copy_ #[30,30] ty #[.slice (some ⟨w.heap.size,i*4,none⟩) (n+1-i) jZ,.slice (some ⟨eO,fE,none⟩) 1 vc]).run prog n3=.ok (goInt (Nat.min 1 (n+1-i))) iN:=by
  intro ty jZ;have rU:Nat.min 1 (n+1-i)=1:=by simp only[Nat.min_def];split<;>omega
  rw[mW,rI];refine zw n3 _ _ ty _ 4 _ (i*4) _ jZ hb _ ⟨eO,fE,none⟩ _ vc x fV dN Bo (by rw[rU,eU]) (fun j v aU=>?_) (by omega) u7;rw[Addr.add_lit];simp[World.cell?,yh,pC j v aU]
 obtain⟨o2,rN⟩:∃o2,o2=iN.drew.setRow w.heap.size (laid fS ((i+1)*4) mid):=⟨_,rfl⟩
 have PI:∀ty jZ iJ,(Builtin.copy_ #[30,30] ty #[.slice (some ⟨w.heap.size,(i+1)*4,none⟩) (n-i) jZ,.slice (some ⟨b,off+i*4,none⟩) (n-i) iJ]).run prog iN.drew=.ok (goInt (Nat.min (n-i) (n-i))) o2:=by
  intro ty jZ iJ;have rU:Nat.min (n-i) (n-i)=n-i:=Nat.min_self _;rw[rN];refine zw iN.drew _ _ ty _ 4 _ ((i+1)*4) _ jZ fS _ ⟨b,off+i*4,none⟩ _ iJ mid fV dN Hl (by rw[rU,oc]) (fun j v aU=>?_) (by omega) j2;rw[Addr.add_lit];rw[nd,h9]at aU;split at aU
  ·rw[iv,jy]at aU;have dv:iN.drew.heap[b]?=some (.cells arr tb (0,0)):=fM;simp[World.cell?,dv,aU]
  cases aU
 have X:Aside (o2=(((w.drew.alloc (.cells hb 52)).setRow w.heap.size fS).drew).setRow w.heap.size (laid fS ((i+1)*4) mid)):=by rw[rN,mW,tj];trivial
 have Y:Aside (n+1<=G/\hb.size=G*4/\∀y,y<i*4->hb[y]?=arr[off+y]?):=⟨vk,xY,xX⟩
 have l7:¬((i:Int)=(n:Int)):=by omega
 have afI:(cap:Int)<(n:Int)+1:=by omega
 have QW:IntKind.i64.wrap ((i:Int)+1)=(i:Int)+1:=by rw[IntKind.wrap_i64];omega
 have QX:IntKind.i64.wrap ((n:Int)+1)=(n:Int)+1:=by rw[IntKind.wrap_i64];omega
 have afH:IntKind.i64.wrap ((n:Int)+1-(i:Int))=(n:Int)+1-(i:Int):=by rw[IntKind.wrap_i64];omega
 have ae8:(0:Int)<=(i:Int)+1:=by omega
 have l3:i<=n:=by omega
 have QL:((i:Int)+1).toNat=i+1:=by omega
 have xZ:(i:Int)<=(n:Int):=by omega
 have Pr:(i:Int)<=(n:Int)+1:=by omega
 have afa:(i:Int)+1<=(n:Int)+1:=by omega
 have ae4:¬(G=i):=by omega
 have ae5:¬(G=i+1):=by omega
 have afc:¬(cap=i):=by omega
 have afo:i<=G:=by omega
 have afp:i<=cap:=by omega
 have mixed:prog.follows .mixedOrders=true:=by kernel_rfl
 clear mW rN fM ah a8 nd oc j2 kH dN fV J u7 pC eU xX xY Bo Hl ga yh tj xW holds ng H2 Bv fo
 go_enter func85,Try.ntmps85
 go_wp2_with (first
  | (at_builtin;refine Er rfl _ _ _ _ rfl _ _ rfl rfl (QF _) ?_)
  | (at_builtin;refine Lx rfl _ _ 30 30 rfl _ _ rfl rfl (PH _ _) ?_))
 go_region_law_o (refine Ly rfl _ _ 30 30 rfl _ _ (by simp[Act.eval,Act.put]) (by simp[Act.eval,Act.put]) (PI _ _ _) ?_)
 go_wp2
 go_ret
 exact⟨G,hb,Y.1,Y.2.1,Y.2.2,rfl,by rw[<-rI];exact X⟩
variable{b:Nat}
theorem wH{aD:World}{off cap:Nat}{arr:Array Value}{tb:TypeId}{es:List (List Value)}(ar:Row w b off 4 cap arr tb es){x:List Value}{i:Nat}(hi:i<=es.length)(eU:x.length=4)(nt:∀v∈x,v.oneCell'=true)
  {cH o jH:Nat} {A:Array Value} {ty:TypeId} (bq:aD.heap[cH]?=some (.cells A ty (0,0))) (ai:es.length+1<=jH) (dc:o+jH*4<=A.size)
  (vj:∀p,p<i*4->A[o+p]?=arr[off+p]?) (rJ:∀p,p<4->A[o+i*4+p]?=x[p]?) (hC:∀p,p<(es.length-i)*4->A[o+(i+1)*4+p]?=arr[off+i*4+p]?):
  Row aD cH o 4 jH A ty (es.take i++x::es.drop i):=by
 have ak:(es.take i++x::es.drop i).length=es.length+1:=by simp;omega
 have Cb:(es.take i).length=i:=by simp;omega
 refine⟨bq,by rw[ak];exact ai,dc,?_,?_,?_⟩
 ·intro e he;rcases hA.1 he with h | h
  ·exact ar.len e (xq h)
  rcases dj.1 h with rfl | h
  ·exact eU
  exact ar.len e (Ay h)
 ·intro e he;rcases hA.1 he with h | h
  ·exact ar.one e (xq h)
  rcases dj.1 h with rfl | h
  ·exact nt
  exact ar.one e (Ay h)
 intro k j e v aT aU;have vz:=(eJ.1 aT).1;rw[ak]at vz;by_cases J:k<i
 ·rw[Ax (by omega),h9,bb J]at aT;have h0:j<4:=by
   have:=(eJ.1 aU).1;have:=ar.len e (eD aT);omega
  rw[AI,vj _ (by omega),<-AI];exact ar.cell k j e v aT aU
 rw[Aw (by omega),Cb]at aT;by_cases U:k=i
 ·subst U;rw[Nat.sub_self,jB,aH]at aT;subst aT;have h0:=(eJ.1 aU).1;rw[rJ j (by omega)];exact aU
 obtain⟨m,rfl⟩:∃m,k=i+1+m:=⟨k-(i+1),by omega⟩
 rw[show i+1+m-i=m+1 by omega,lK,iv]at aT;have h0:j<4:=by
  have:=(eJ.1 aU).1;have:=ar.len e (eD aT);omega
 have:=ar.cell (i+m) j e v aT aU;rw[<-this,show o+(i+1+m)*4+j=o+(i+1)*4+(m*4+j) by omega,hC _ (by omega)]
 congr 1
 omega
theorem UD{off cap:Nat}{arr:Array Value}{tb:TypeId}{es:List (List Value)}(ar:Row w b off 4 cap arr tb es):∀x v,off<=x->x<off+es.length*4->arr[x]?=some v->v.oneCell'=true:=by
 intro x v nt iE a8;have bk:(x-off) / 4<es.length:=by omega
 have he:=iM bk;have hlen:=ar.len _ (sX bk);have iC:(x-off) % 4<(es[(x-off) / 4]).length:=by omega
 have:=ar.cell _ _ _ _ he (iM iC);rw[show off+(x-off) / 4*4+(x-off) % 4=x by omega,a8]at this;rw[e0 this];exact ar.one _ (sX bk) _ (sX iC)
variable{own:Nat->Prop}
theorem UE(ah:own b)(fS:Array Value):ru ⟨w,own,fun _=>(0,undef)⟩ (w.setRow b fS):=by
 refine⟨rfl,rfl,rfl,by simp,fun k aT ag=>?_,fun _=>fF _⟩;have:k≠b:=fun e=>ag (by rw[e];exact ah)
 rw[setRow_other _ b k _ this]
theorem LA{o:Obj}:ru ⟨w,own,fun _=>(0,undef)⟩ (w.drew.alloc o):=by
 refine⟨rfl,rfl,rfl,by simp[World.alloc],fun k aT _=>?_,fun _=>?_⟩
 ·rw[sq w.drew o aT];rfl
 show w.drawn<=w.drawn+1;omega
theorem UF{o:Obj}{fS AJ:Array Value}:ru ⟨w,own,fun _=>(0,undef)⟩ ((((w.drew.alloc o).setRow w.heap.size fS).drew).setRow w.heap.size AJ):=by
 refine⟨rfl,rfl,rfl,by simp[World.alloc],fun k aT _=>?_,fun _=>?_⟩
 ·rw[setRow_other _ _ k _ (by simp only at aT;omega)];show ((w.drew.alloc o).setRow w.heap.size fS).heap[k]?=w.heap[k]?;rw[setRow_other _ _ k _ (by simp only at aT;omega),sq w.drew o aT];rfl
 show w.drawn<=w.drawn+1+1;omega
theorem UG:∃i0,prog.info? 52=some i0/\i0.size=4/\i0.bytes=32/\i0.zero=some (.agg #[.int .i64 0,.int .i64 0,.int .i64 0,.int .i64 0]):=by
 have dN:(prog.info? 52).map (fun x=>(x.size,x.bytes,x.zero))=some (4,32,some (.agg #[.int .i64 0,.int .i64 0,.int .i64 0,.int .i64 0])):=by kernel_rfl
 cases h:prog.info? 52 with
 | none=>rw[h]at dN;cases dN
 | some i0=>
  rw[h]at dN;simp only[oU,aH,a']at dN;exact⟨i0,rfl,dN.1,dN.2.1,dN.2.2⟩
theorem T8(es:List (List Value))(x:List Value)(i:Nat)(hi:i<=es.length)(ak:es.length<=8388608):je prog 85 [.one (.ed 4 (fK es) none),.one (.ro (I i)),.one (.ed 4 (fK [x]) none)] [.one (.aa 4 (fK (es.take i++x::es.drop i)))]:=by
 rintro w vs ω ⟨ag,aR,aC⟩ nq;obtain⟨y,a7,jl⟩:=aC 0 _ rfl;obtain⟨Np,fe,QP⟩:=aC 1 _ rfl;obtain⟨z,aL,l7⟩:=aC 2 _ rfl;have aK:Np=.int .i64 i:=bA.O3 QP;subst aK;have qA:=OJ aR a7 fe aL;subst qA;have fV:prog.underlying 30=some (.slice 52):=by kernel_rfl
 obtain⟨i0,iS,a1,bt,bQ⟩:=UG;rcases ag.row l7 with⟨h,_⟩ | ⟨eO,fE,vc,k7,oS,Ih,rfl,rY⟩
 ·cases h
 have eU:x.length=4:=rY.len x (by simp);have nt:∀v∈x,v.oneCell'=true:=rY.one x (by simp);have pC:∀j v,x[j]?=some v->k7[fE+j]?=some v:=fun j v aU=>by simpa using rY.cell 0 j x v rfl aU
 have yk:∀j v,x[j]?=some v->w.cell? ((⟨eO,fE,none⟩:Addr).add j)=some v:=fun j v aU=>by
  rw[Addr.add_lit];simp[World.cell?,rY.heap,pC j v aU]
 have fin:∀{e:Ending} {aD:World},(∃v,e=.returned v/\AN w aD (fun b=>ω b≠.bc) 4 (es.take i++x::es.drop i) v)->∃v,e=.returned v/\e8 ⟨w,fun b=>ω b≠.bc,fun _=>(0,undef)⟩ aD/\
   ∃aP:Own,(∀b,b<w.heap.size->ω b=.bc->aP b=.bc)/\(∀b,aP b≠.bc->(∃t q,aP b=.tok t q)/\∃arr ty,aD.heap[b]?=some (.cells arr ty (0,0)))/\Kept aD aP [.one (.ed 4 (fK es) none),.one (.ro (I i)),.one (.ed 4 (fK [x]) none)] #[y,.int .i64 i,.slice (some ⟨eO,fE,none⟩) [x].length vc]/\j7 aD aP [.one (.aa 4 (fK (es.take i++x::es.drop i)))] v:=by
  rintro e aD ⟨v,he,b9⟩;obtain⟨aP,U,ax,aJ⟩:=b9.res;refine⟨v,he,b9.OM.full nq,aP,U,ax,Sv ?_,aJ⟩;intro eE iF dD k cX bV jJ ai
  match eE with
  | 0=>simp at jJ;subst jJ;simp only[GA.cell]at ai;split at ai<;>simp at ai
  | 1=>simp at jJ;subst jJ;simp only[GA.cell]at ai;split at ai<;>simp at ai
  | 2=>simp at jJ;subst jJ;simp only[GA.cell]at ai;split at ai<;>simp at ai
  | _+3=>simp at jJ
 rcases ag.row jl with⟨rfl,a,rfl⟩ | ⟨b,off,cap,arr,tb,cE,rfl,ar⟩
 ·
  have P2:i=0:=by simpa using hi
  subst P2;obtain⟨G,fo⟩:∃G,G=grownCap w 1 0 52:=⟨_,rfl⟩
  have vk:1<=G:=by rw[fo];exact grownCap_ge w _ _ _
  have ei:∀ty,(Builtin.append_ #[30,30] ty #[.slice a 0 0,.slice (some ⟨eO,fE,none⟩) 1 vc]).run prog w=.ok (.slice (some ⟨w.heap.size,0,none⟩) 1 G) (w.drew.alloc (.cells (x.toArray++Builtin.zeroCells (Value.agg #[.int .i64 0,.int .i64 0,.int .i64 0,.int .i64 0]).cells (G-1)) 52)):=by
   intro ty;cases a with
   | none=>
    have:=run_append_nil (P:=prog) w 30 ty 52 i0 _ fV iS bQ ⟨eO,fE,none⟩ 1 vc x (by rw[a1,eU]) yk (by omega) (by omega) (by rw[bt];omega);rw[<-fo]at this;exact this
   | some cm=>
    have:=run_append_grow (P:=prog) w 30 ty 52 i0 _ fV iS bQ cm 0 0 [] (by simp) (fun j v a8=>by simp at a8) ⟨eO,fE,none⟩ 1 vc x (by rw[a1,eU]) yk (by omega) (by omega) (growslice_fits (by omega) (by rw[bt];omega));simp only[cP,<-fo]at this;simpa using this
  refine (Es a 0 0 eO fE vc w _ _ (fF _) ei).mono ?_;rintro e aD ⟨rfl,rfl⟩;have adO:Row w eO 0 4 0 k7 oS []:=⟨rY.heap,fF _,by omega,by simp,by simp,by simp⟩
  refine fin ⟨_,rfl,LA,.inr ⟨w.heap.size,0,G,_,_,.inr (fF _),rfl,wH adO (fF _) eU nt (kQ w.drew _) vk ?_ ?_ ?_ ?_⟩⟩
  ·simp only[p',lJ,size_zeroCells,eU];show 0+G*4<=4+(G-1)*4;omega
  ·intro p hp;simp at hp
  ·intro p hp;rw[hz,bb (by simp;omega)];simp
  intro p hp;simp at hp
 have cl:eO≠b:=by
  rintro rfl;rw[cE]at Ih;simp only[cx.tok.injEq,eh]at Ih;omega
 have ni:ω b≠.bc:=by rw[cE];simp
 have nn:=ar.room;have dc:=ar.fit;have J:=UD ar;rcases mE i es.length with bk | l0
 ·rcases mE cap (es.length+1) with e4 | e4
  ·
   refine (UC b off es.length cap i eO fE vc arr tb k7 oS x w ar.heap rY.heap bk nn e4 dc eU pC nt J (by omega)).mono ?_;rintro e aD ⟨G,hb,fo,xY,xX,rfl,rfl⟩;have h1:i*4+x.length<=hb.size:=by omega
   have kH:=qT h1;have oc:((arr.toList.drop (off+i*4)).take ((es.length-i)*4)).length=(es.length-i)*4:=by simp;omega
   have cr:(i+1)*4+((arr.toList.drop (off+i*4)).take ((es.length-i)*4)).length<=(laid hb (i*4) x).size:=by omega
   refine fin ⟨_,rfl,UF,.inr ⟨w.heap.size,0,G,_,_,.inr (fF _),by simp;omega,wH ar hi eU nt (setRow_heap _ _ _ _ _ (0,0) (setRow_heap (w.drew.alloc _) _ _ _ _ (0,0) (kQ w.drew _))) fo ?_ ?_ ?_ ?_⟩⟩
   ·rw[qT cr,kH,xY];omega
   ·intro p hp;rw[cP,kV cr,aZ (by omega),kV h1,aZ (by omega)];exact xX p hp
   ·intro p hp;rw[cP,kV cr,aZ (by omega),kV h1,bb (by omega)];rw[show i*4+p-i*4=p by omega]
   intro p hp;rw[cP,kV cr,bb (by omega),h9,bb (by omega),iv,jy];rw[show (i+1)*4+p-(i+1)*4=p by omega]
  -- in ON,there is room
  refine (UB b off es.length cap i eO fE vc arr tb k7 oS x w ar.heap rY.heap cl bk e4 dc eU pC nt J (by omega)).mono ?_;rintro e aD ⟨rfl,rfl⟩;have oc:((arr.toList.drop (off+i*4)).take ((es.length-i)*4)).length=(es.length-i)*4:=by simp;omega
  have h1:off+(i+1)*4+((arr.toList.drop (off+i*4)).take ((es.length-i)*4)).length<=arr.size:=by omega
  have kH:=qT h1;have cr:off+i*4+x.length<=(laid arr (off+(i+1)*4) ((arr.toList.drop (off+i*4)).take ((es.length-i)*4))).size:=by omega
  refine fin ⟨_,rfl,Sw ni _ _,.inr ⟨b,off,cap,_,tb,.inl ni,by simp;omega,wH ar hi eU nt (setRow_heap _ _ _ _ _ (0,0) (setRow_heap w.drew b arr _ tb (0,0) ar.heap)) e4 ?_ ?_ ?_ ?_⟩⟩
  ·rw[qT cr,kH];exact dc
  ·intro p hp;rw[kV cr,aZ (by omega),kV h1,aZ (by omega)]
  ·intro p hp;rw[kV cr,bb (by omega)];rw[show off+i*4+p-(off+i*4)=p by omega]
  intro p hp;rw[kV cr,aZ (by omega),kV h1,bb (by omega),h9,bb (by omega),iv,jy];rw[show off+(i+1)*4+p-(off+(i+1)*4)=p by omega]
 have P4:i=es.length:=by omega
 subst P4;rcases mE cap (es.length+1) with e4 | e4
 ·
  obtain⟨lp,holds⟩:∃lp,lp=(arr.toList.drop off).take (es.length*4):=⟨_,rfl⟩
  have ng:lp.length=es.length*4:=by rw[holds];simp;omega
  obtain⟨G,fo⟩:∃G,G=grownCap w (es.length+1) cap 52:=⟨_,rfl⟩
  have vk:es.length+1<=G:=by rw[fo];exact grownCap_ge w _ _ _
  have ei:∀ty,(Builtin.append_ #[30,30] ty #[.slice (some ⟨b,off,none⟩) es.length cap,.slice (some ⟨eO,fE,none⟩) 1 vc]).run prog w=.ok (.slice (some ⟨w.heap.size,0,none⟩) (es.length+1) G) (w.drew.alloc (.cells (lp.toArray++x.toArray++Builtin.zeroCells (Value.agg #[.int .i64 0,.int .i64 0,.int .i64 0,.int .i64 0]).cells (G-(es.length+1))) 52)):=by
   intro ty;have:=run_append_grow (P:=prog) w 30 ty 52 i0 _ fV iS bQ ⟨b,off,none⟩ es.length cap lp (by rw[a1,ng]) (fun j v aU=>by
    rw[holds,h9]at aU;split at aU
    ·rw[iv,jy]at aU;rw[Addr.add_lit];simp[World.cell?,ar.heap,aU]
    cases aU) ⟨eO,fE,none⟩ 1 vc x (by rw[a1,eU]) yk (by omega) (by omega) (growslice_fits (by omega) (by rw[bt];omega))
   rw[<-fo]at this;exact this
  refine (Es (some ⟨b,off,none⟩) es.length cap eO fE vc w _ _ nn ei).mono ?_;rintro e aD ⟨rfl,rfl⟩;refine fin ⟨_,rfl,LA,.inr ⟨w.heap.size,0,G,_,_,.inr (fF _),by simp,wH ar hi eU nt (kQ w.drew _) vk ?_ ?_ ?_ ?_⟩⟩
  ·simp only[p',lJ,size_zeroCells,eU,ng];show 0+G*4<=es.length*4+4+(G-(es.length+1))*4;omega
  ·intro p hp;rw[cP,hz,bb (by simp[ng];omega),hz,bb (by simp[ng];omega)];simp only[lI];rw[holds,h9,bb hp,iv,jy]
  ·intro p hp;rw[cP,hz,bb (by simp[ng];omega),hz,aZ (by simp[ng])];simp only[lI,lJ,ng];rw[show es.length*4+p-es.length*4=p by omega]
  intro p hp;simp at hp
 -- at Nn end,there is room
 have ei:∀ty,(Builtin.append_ #[30,30] ty #[.slice (some ⟨b,off,none⟩) es.length cap,.slice (some ⟨eO,fE,none⟩) 1 vc]).run prog w=.ok (.slice (some ⟨b,off,none⟩) (es.length+1) cap) (w.setRow b (laid arr (off+es.length*4) x)):=by
  intro ty;have:=Dw (P:=prog) (t:=30) (ty:=ty) fV iS w b off es.length cap arr tb ar.heap ⟨eO,fE,none⟩ 1 vc x (by rw[a1,eU]) yk nt e4 (by rw[a1,eU];omega);rw[a1]at this;exact this
 refine (Es (some ⟨b,off,none⟩) es.length cap eO fE vc w _ _ nn ei).mono ?_;rintro e aD ⟨rfl,rfl⟩;have h1:off+es.length*4+x.length<=arr.size:=by omega
 refine fin ⟨_,rfl,UE ni _,.inr ⟨b,off,cap,_,tb,.inl ni,by simp,wH ar hi eU nt (setRow_heap _ _ _ _ _ (0,0) ar.heap) e4 ?_ ?_ ?_ ?_⟩⟩
 ·rw[qT h1];exact dc
 ·intro p hp;rw[kV h1,aZ (by omega)]
 ·intro p hp;rw[kV h1,bb (by omega)];rw[show off+es.length*4+p-(off+es.length*4)=p by omega]
 intro p hp;simp at hp
theorem Cell.Ha(xs:List Cell):xs.map Cell.e=fK (xs.map fun r=>r.e.map D.FV):=by
 simp only[fK,List.map_map];rfl
theorem T9(xs:List Cell)(x:Cell)(i:Nat)(hi:i<=xs.length)(ak:xs.length<=8388608):je prog 85 [.one (.ed 4 (xs.map Cell.e) none),.one (.ro (I i)),.one (.ed 4 [x.e] none)] [.one (.aa 4 ((xs.take i++x::xs.drop i).map Cell.e))]:=by
 have:=T8 (xs.map fun r=>r.e.map D.FV) (x.e.map D.FV) i (by simpa using hi) (by simpa using ak);rw[Cell.Ha,Cell.Ha];simp only[kg,gE,uT,List.map_drop]at this ⊢;exact this
