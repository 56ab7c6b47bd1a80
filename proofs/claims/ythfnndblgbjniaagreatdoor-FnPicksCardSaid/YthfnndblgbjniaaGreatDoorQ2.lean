import Derived.WalkKit
import Derived.Deep.RegionLaw
import Derived.Shelf.RegionOpenPlain
import Derived.Lib.SliceRun
import Derived.Lib.JoinLaws
import Derived.Lib.Overlaps
import Derived.Lib.AppendZerosOnto
import Derived.Laws.Externs
import Derived.Deep.LoopGhost
import Derived.Lib.Walk
import Derived.Test.YthfnndblgbjniaaGreatDoorC0
set_option linter.unusedVariables false
set_option linter.unusedSimpArgs false
namespace Go.Proofs.YthfnndblgbjniaaGreatDoor
open Go.Sx Go.RowKit Go.Shelf Go.Lib Go.Proofs.Tryz
variable{P:Program}{w:World}{ops:Array Oper}{o:Oper}{a:Act}{Q:Exit->Act->World->Prop}
theorem SU{rest:List Oper}(Hr:o.guard=none)(d s:Operand)(t dn:TypeId)
  (bc:o.op=.call { callee:=.builtin .copy,args:=#[d,s],argTypes:=#[t,dn] }) (v u:Value) (aI:a.eval d=v) (ak:a.eval s=u) {mK:Value} {aN:World}
  (aH:(Builtin.copy_ #[t,dn] o.type #[v,u]).run P w=.ok mK aN) (h:wpList P ops Q rest (a.put o.dst mK) aN):wpList P ops Q (o::rest) a w:=
 wpList_plain Hr fun _ hH=>by
  unfold Oper.wp execOp;simp only[bc,resolve,invoke,builtin,Sem.run_bind,Sem.run_pure,Result.andThen_ok,List.map_toArray,mM,List.map_nil,aI,ak,aH];exact hH _ _ h
theorem SV{K:Act->World->Prop}{E:Prop}
  (ax:o.guard=none) (d x:Operand) (dm bf:TypeId) (p5:o.op=Op.call { callee:=Callee.builtin Builtin.copy,args:=#[d,x],argTypes:=#[dm,bf] })
  (v u:Value) (aI:a.eval d=v) (aq:a.eval x=u) {mK:Value} {aN:World} (aH:(Builtin.copy_ #[dm,bf] o.type #[v,u]).run P w=.ok mK aN) (hH:K (a.put o.dst mK) aN):
  if Region.wanted o (yielded ops a.tmps)=true then Oper.wp P o a w K Q else E:=by
 have hw:Region.wanted o (yielded ops a.tmps)=true:=by simp[Region.wanted,ax]
 rw[bL hw];unfold Oper.wp;simp[execOp,p5,resolve,invoke,builtin,aI,aq,aH,Result.andThen];exact hH
theorem Lq{rest:List Oper}(Hr:o.guard=none)(d s:Operand)(t dn:TypeId)
  (bc:o.op=.call { callee:=.builtin .append,args:=#[d,s],argTypes:=#[t,dn] }) (v u:Value) (aI:a.eval d=v) (ak:a.eval s=u) {mK:Value} {aN:World}
  (aH:(Builtin.append_ #[t,dn] o.type #[v,u]).run P w=.ok mK aN) (h:wpList P ops Q rest (a.put o.dst mK) aN):wpList P ops Q (o::rest) a w:=
 wpList_plain Hr fun _ hH=>by
  unfold Oper.wp execOp;simp only[bc,resolve,invoke,builtin,Sem.run_bind,Sem.run_pure,Result.andThen_ok,List.map_toArray,mM,List.map_nil,aI,ak,aH];exact hH _ _ h
set_option maxHeartbeats 4000000 in
set_option maxRecDepth 1000000 in
theorem Lr(base:Option Addr)(n cap fY ho vc:Nat)(w w1:World)(v:Value)(a':n<=cap)
  (fv:∀ty,(Builtin.append_ #[41,41] ty #[.slice base n cap,.slice (some ⟨fY,ho,none⟩) 1 vc]).run prog w=.ok v w1):
  Calls prog 229 #[.slice base n cap,.int .i64 n,.slice (some ⟨fY,ho,none⟩) 1 vc] w fun e aN=>e=.returned v/\aN=w1:=by
 have mixed:prog.follows .mixedOrders=true:=by kernel_rfl
 go_enter func229,Tryz.ntmps229
 cases base with
 | none=>
  go_wp2_with (at_builtin;refine Lq rfl _ _ _ _ rfl _ _ rfl rfl (fv _) ?_)
  all_goals (go_ret;exact⟨rfl,rfl⟩)
 | some a=>
  obtain⟨ab,axe,axh⟩:=a
  go_wp2_with (at_builtin;refine Lq rfl _ _ _ _ rfl _ _ rfl rfl (fv _) ?_)
  all_goals (go_ret;exact⟨rfl,rfl⟩)
set_option maxHeartbeats 4000000 in
set_option maxRecDepth 1000000 in
theorem avi(b off n cap i fY ho vc:Nat)(arr:Array Value)(tb:TypeId)(nY:Array Value)(rP:TypeId)(x:List Value)(w:World)(ay:w.heap[b]?=some (.cells arr tb (0,0)))(bx:w.heap[fY]?=some (.cells nY rP (0,0)))(OY:fY≠b)
  (hi:i<n) (a':n+1<=cap) (ee:off+cap*4<=arr.size) (fR:x.length=4) (sr:∀j v,x[j]?=some v->nY[ho+j]?=some v) (yZ:∀v∈x,v.oneCell'=true)
  (U:∀x v,off<=x->x<off+n*4->arr[x]?=some v->v.oneCell'=true) (CO:n<8388609):
  Calls prog 229 #[.slice (some ⟨b,off,none⟩) n cap,.int .i64 i,.slice (some ⟨fY,ho,none⟩) 1 vc] w fun e aN=>e=.returned (.slice (some ⟨b,off,none⟩) (n+1) cap)/\
   aN=(w.drew.setRow b (laid arr (off+(i+1)*4) ((arr.toList.drop (off+i*4)).take ((n-i)*4)))).setRow b (laid (laid arr (off+(i+1)*4) ((arr.toList.drop (off+i*4)).take ((n-i)*4))) (off+i*4) x):=by
 obtain⟨mid,p2⟩:∃mid,mid=(arr.toList.drop (off+i*4)).take ((n-i)*4):=⟨_,rfl⟩
 have q7:mid.length=(n-i)*4:=by rw[p2];simp;omega
 have sk:∀u∈mid,u.oneCell'=true:=by
  intro u hu;obtain⟨y,bM⟩:=oN.1 hu;rw[p2,jZ]at bM;split at bM
  ·rw[kW,lJ]at bM;exact U _ u (by omega) (by omega) bM
  cases bM
 rw[<-p2];obtain⟨dv,pT⟩:∃dv,dv=laid arr (off+(i+1)*4) mid:=⟨_,rfl⟩
 have lx:dv.size=arr.size:=by rw[pT];exact qq (by omega)
 obtain⟨hZ,lV⟩:∃hZ,hZ=w.drew.setRow b dv:=⟨_,rfl⟩
 have gD:hZ.heap[b]?=some (.cells dv tb (0,0)):=by rw[lV];exact setRow_heap w.drew b arr dv tb (0,0) ay
 have tM:hZ.heap[fY]?=some (.cells nY rP (0,0)):=by rw[lV,setRow_other _ b fY _ OY];exact bx
 have dI:(prog.info? 163).map (·.size)=some 4:=by kernel_rfl
 have gg:prog.underlying 41=some (.slice 163):=by kernel_rfl
 have Yq:∀ty mq kU,(Builtin.copy_ #[41,41] ty #[.slice (some ⟨b,off+(i+1)*4,none⟩) (n-i) mq,.slice (some ⟨b,off+i*4,none⟩) (n+1-i) kU]).run prog w.drew=.ok (goInt (Nat.min (n+1-i) (n-i))) hZ:=by
  intro ty mq kU;have vj:Nat.min (n+1-i) (n-i)=n-i:=by simp only[Nat.min_def];split<;>omega
  rw[lV,pT];refine DP w.drew _ _ ty _ 4 b (off+(i+1)*4) _ mq arr tb ⟨b,off+i*4,none⟩ _ kU mid gg dI ay (by rw[vj,q7]) (fun j v bm=>?_) (by omega) sk;rw[p2,jZ]at bm;split at bm
  ·rw[kW,lJ]at bm;rw[Addr.add_lit];have eM:w.drew.heap[b]?=some (.cells arr tb (0,0)):=ay;simp[World.cell?,eM,bm]
  cases bm
 obtain⟨nW,pU⟩:∃nW,nW=hZ.setRow b (laid dv (off+i*4) x):=⟨_,rfl⟩
 have Yr:∀ty mq,(Builtin.copy_ #[41,41] ty #[.slice (some ⟨b,off+i*4,none⟩) (n+1-i) mq,.slice (some ⟨fY,ho,none⟩) 1 vc]).run prog hZ=.ok (goInt (Nat.min 1 (n+1-i))) nW:=by
  intro ty mq;have vj:Nat.min 1 (n+1-i)=1:=by simp only[Nat.min_def];split<;>omega
  rw[pU];refine DP hZ _ _ ty _ 4 b (off+i*4) _ mq dv tb ⟨fY,ho,none⟩ _ vc x gg dI gD (by rw[vj,fR]) (fun j v bm=>?_) (by omega) yZ;rw[Addr.add_lit];simp[World.cell?,tM,sr j v bm]
 have Zj:∀ID GD,(callFunc 235 #[.slice (some ⟨fY,ho,none⟩) 1 vc,.slice (some ⟨b,off+(i+1)*4,none⟩) ID GD]).run prog w=.ok (.value (.bool false)) w:=fun ID GD=>by
  rw[run_callFunc_extern (P:=prog) func235 (by kernel_rfl) (by kernel_rfl) (by kernel_rfl) (e:=Extern.SlicesOverlaps.overlaps #[41,41] #[4]) (by kernel_rfl),
   Lib.run_overlaps_apart w 41 4 163 gg 4 (fun w=>by simp[sizeOf,typeInfo];kernel_rfl) ⟨fY,ho,none⟩ ⟨b,off+(i+1)*4,none⟩ 1 vc ID GD OY rP tb nY.size arr.size (by simp[World.shape?,bx]) (by simp[World.shape?,ay]) (by omega) (by simp[World.frozen?,bx]) (by simp[World.frozen?,bx])]
  rfl
 have X:Aside (nW=(w.drew.setRow b dv).setRow b (laid dv (off+i*4) x)):=by rw[pU,lV];trivial
 have n8:i<=n:=by omega
 have ZJ:IntKind.i64.wrap ((i:Int)+1)=(i:Int)+1:=by rw[IntKind.wrap_i64];omega
 have ZK:IntKind.i64.wrap ((n:Int)+1)=(n:Int)+1:=by rw[IntKind.wrap_i64];omega
 have hR:(0:Int)<=(i:Int)+1:=by omega
 have Zz:((i:Int)+1).toNat=i+1:=by omega
 have ayo:((n:Int)+1).toNat=n+1:=by omega
 have hx:¬(cap=i+1):=by omega
 have CN:(i:Int)+1<=(n:Int)+1:=by omega
 have vd:¬(cap=i):=by omega
 have Ye:(i:Int)<=(n:Int)+1:=by omega
 have rb:¬((i:Int)=(n:Int)):=by omega
 have mixed:prog.follows .mixedOrders=true:=by kernel_rfl
 clear lV pU gD tM ay bx p2 q7 sk lx dI gg U yZ sr fR
 go_enter func229,Tryz.ntmps229
 go_wp2_with (simp only[Zj])
 go_region_law_o (refine SV rfl _ _ 41 41 rfl _ _ (by simp[Act.eval,Act.put]) (by simp[Act.eval,Act.put]) (Yq _ _ _) ?_)
 go_wp2_with (at_builtin;refine SU rfl _ _ 41 41 rfl _ _ rfl rfl (Yr _ _) ?_)
 go_ret
 exact⟨rfl,by rw[<-pT];exact X⟩
set_option maxHeartbeats 4000000 in
set_option maxRecDepth 1000000 in
theorem avj(b off n cap i fY ho vc:Nat)(arr:Array Value)(tb:TypeId)(nY:Array Value)(rP:TypeId)(x:List Value)(w:World)(ay:w.heap[b]?=some (.cells arr tb (0,0)))(bx:w.heap[fY]?=some (.cells nY rP (0,0)))
  (hi:i<n) (a':n<=cap) (ax:cap<n+1) (ee:off+cap*4<=arr.size) (fR:x.length=4) (sr:∀j v,x[j]?=some v->nY[ho+j]?=some v) (yZ:∀v∈x,v.oneCell'=true)
  (U:∀x v,off<=x->x<off+n*4->arr[x]?=some v->v.oneCell'=true) (CO:n<8388609):
  Calls prog 229 #[.slice (some ⟨b,off,none⟩) n cap,.int .i64 i,.slice (some ⟨fY,ho,none⟩) 1 vc] w fun e aN=>∃(G:Nat) (jc:Array Value),n+1<=G/\jc.size=G*4/\(∀y,y<i*4->jc[y]?=arr[off+y]?)/\e=.returned (.slice (some ⟨w.heap.size,0,none⟩) (n+1) G)/\
   aN=(((w.drew.alloc (.cells jc 163)).setRow w.heap.size (laid jc (i*4) x)).drew).setRow w.heap.size (laid (laid jc (i*4) x) ((i+1)*4) ((arr.toList.drop (off+i*4)).take ((n-i)*4))):=by
 obtain⟨mid,p2⟩:∃mid,mid=(arr.toList.drop (off+i*4)).take ((n-i)*4):=⟨_,rfl⟩
 have q7:mid.length=(n-i)*4:=by rw[p2];simp;omega
 have sk:∀u∈mid,u.oneCell'=true:=by
  intro u hu;obtain⟨y,bM⟩:=oN.1 hu;rw[p2,jZ]at bM;split at bM
  ·rw[kW,lJ]at bM;exact U _ u (by omega) (by omega) bM
  cases bM
 rw[<-p2];have gg:prog.underlying 41=some (.slice 163):=by kernel_rfl
 have OU:prog.underlying 3=some (.int .i64):=by kernel_rfl
 have dI:(prog.info? 163).map (·.size)=some 4:=by kernel_rfl
 have He:(prog.info? 163).map (fun x=>(x.bytes,x.zero))=some (32,some (.agg #[.int .i64 0,.int .i64 0,.int .i64 0,.int .i64 0])):=by kernel_rfl
 obtain⟨oo,holds⟩:∃oo,oo=(arr.toList.drop off).take (i*4):=⟨_,rfl⟩
 have p3:oo.length=i*4:=by rw[holds];simp;omega
 obtain⟨G,gQ⟩:∃G,G=grownCap w (n+1) cap 163:=⟨_,rfl⟩
 have zb:n+1<=G:=by rw[gQ];exact grownCap_ge w _ _ _
 have axH:G<=9223372036854775807:=by
  have:=grownCap_le_maxLen w (n+1) cap 163 (by unfold maxLen;omega);rw[<-gQ]at this;unfold maxLen at this;omega
 obtain⟨jc,CJ⟩:∃jc:Array Value,jc=oo.toArray++Builtin.zeroCells (Value.agg #[.int .i64 0,.int .i64 0,.int .i64 0,.int .i64 0]).cells (n+1-i)++Builtin.zeroCells (Value.agg #[.int .i64 0,.int .i64 0,.int .i64 0,.int .i64 0]).cells (G-(n+1)):=⟨_,rfl⟩
 have CL:jc.size=G*4:=by
  rw[CJ];simp only[th,oL,size_zeroCells,p3];show i*4+(n+1-i)*4+(G-(n+1))*4=G*4;omega
 have CK:∀y,y<i*4->jc[y]?=arr[off+y]?:=by
  intro y bM;rw[CJ,jE,bL (by simp[size_zeroCells];omega),jE,bL (by simp;omega)];simp only[oK];rw[holds,jZ,bL bM,kW,lJ]
 obtain⟨jJ,w9⟩:∃jJ,jJ=w.drew.alloc (.cells jc 163):=⟨_,rfl⟩
 have G8:jJ.heap[w.heap.size]?=some (.cells jc 163 (0,0)):=by rw[w9];exact nu w.drew _
 have ve:b<w.heap.size:=(jF.1 ay).1;have HT:fY<w.heap.size:=(jF.1 bx).1;have hR:jJ.heap[b]?=some (.cells arr tb (0,0)):=by rw[w9,wg w.drew _ ve];exact ay
 have Db:jJ.heap[fY]?=some (.cells nY rP (0,0)):=by rw[w9,wg w.drew _ HT];exact bx
 have Zr:∀ty,(Builtin.append_ #[41,3] ty #[.slice (some ⟨b,off,none⟩) i cap,.int .i64 ((n:Int)+1-(i:Int))]).run prog w=.ok (.slice (some ⟨w.heap.size,0,none⟩) (n+1) G) jJ:=by
  intro ty;cases k5:prog.info? 163 with
  | none=>rw[k5]at dI;cases dI
  | some i0=>
   rw[k5]at dI He;have a6:i0.size=4:=by simpa using dI
   obtain⟨bF,bY⟩:i0.bytes=32/\i0.zero=some (.agg #[.int .i64 0,.int .i64 0,.int .i64 0,.int .i64 0]):=by simpa using He
   have hold:(Builtin.firstCells i0.size i (.slice (some ⟨b,off,none⟩) i cap)).run prog w.drew=.ok oo.toArray w.drew:=by
    rw[a6];refine run_firstCells_some w.drew 4 i ⟨b,off,none⟩ i cap oo p3 (fun j v bm=>?_);rw[Addr.add_lit];rw[holds,jZ]at bm;split at bm
    ·rw[kW,lJ]at bm;have eM:w.drew.heap[b]?=some (.cells arr tb (0,0)):=ay;simp[World.cell?,eM,bm]
    cases bm
   have Ox:i+(n+1-i)=n+1:=by omega
   have h:=Lib.run_append_grow_zeros w 41 3 ty 163 i0 _ .i64 .i64 gg OU k5 bY (some ⟨b,off,none⟩) i cap oo hold (n+1-i) (by omega) (by omega) (by omega) (by omega) (by rw[bF];omega) (by rw[bF,Ox];exact growslice_fits ax (by omega));rw[Ox,<-gQ,<-CJ,<-w9]at h;rw[show (n:Int)+1-(i:Int)=((n+1-i:Nat):Int) by omega];exact h
 obtain⟨dv,pT⟩:∃dv,dv=laid jc (i*4) x:=⟨_,rfl⟩
 have lx:dv.size=jc.size:=by rw[pT];exact qq (by omega)
 obtain⟨hZ,lV⟩:∃hZ,hZ=jJ.setRow w.heap.size dv:=⟨_,rfl⟩
 have Oc:hZ.heap[w.heap.size]?=some (.cells dv 163 (0,0)):=by rw[lV];exact setRow_heap jJ _ jc dv _ (0,0) G8
 have gD:hZ.heap[b]?=some (.cells arr tb (0,0)):=by rw[lV,setRow_other _ _ b _ (by omega)];exact hR
 have Ys:∀ty mq,(Builtin.copy_ #[41,41] ty #[.slice (some ⟨w.heap.size,i*4,none⟩) (n+1-i) mq,.slice (some ⟨fY,ho,none⟩) 1 vc]).run prog jJ=.ok (goInt (Nat.min 1 (n+1-i))) hZ:=by
  intro ty mq;have vj:Nat.min 1 (n+1-i)=1:=by simp only[Nat.min_def];split<;>omega
  rw[lV,pT];refine DP jJ _ _ ty _ 4 _ (i*4) _ mq jc _ ⟨fY,ho,none⟩ _ vc x gg dI G8 (by rw[vj,fR]) (fun j v bm=>?_) (by omega) yZ;rw[Addr.add_lit];simp[World.cell?,Db,sr j v bm]
 obtain⟨nW,pU⟩:∃nW,nW=hZ.drew.setRow w.heap.size (laid dv ((i+1)*4) mid):=⟨_,rfl⟩
 have Yt:∀ty mq kU,(Builtin.copy_ #[41,41] ty #[.slice (some ⟨w.heap.size,(i+1)*4,none⟩) (n-i) mq,.slice (some ⟨b,off+i*4,none⟩) (n-i) kU]).run prog hZ.drew=.ok (goInt (Nat.min (n-i) (n-i))) nW:=by
  intro ty mq kU;have vj:Nat.min (n-i) (n-i)=n-i:=Nat.min_self _;rw[pU];refine DP hZ.drew _ _ ty _ 4 _ ((i+1)*4) _ mq dv _ ⟨b,off+i*4,none⟩ _ kU mid gg dI Oc (by rw[vj,q7]) (fun j v bm=>?_) (by omega) sk;rw[Addr.add_lit];rw[p2,jZ]at bm;split at bm
  ·rw[kW,lJ]at bm;have eM:hZ.drew.heap[b]?=some (.cells arr tb (0,0)):=gD;simp[World.cell?,eM,bm]
  cases bm
 have X:Aside (nW=(((w.drew.alloc (.cells jc 163)).setRow w.heap.size dv).drew).setRow w.heap.size (laid dv ((i+1)*4) mid)):=by rw[pU,lV,w9];trivial
 have Y:Aside (n+1<=G/\jc.size=G*4/\∀y,y<i*4->jc[y]?=arr[off+y]?):=⟨zb,CL,CK⟩
 have rb:¬((i:Int)=(n:Int)):=by omega
 have ZP:(cap:Int)<(n:Int)+1:=by omega
 have ZJ:IntKind.i64.wrap ((i:Int)+1)=(i:Int)+1:=by rw[IntKind.wrap_i64];omega
 have ZK:IntKind.i64.wrap ((n:Int)+1)=(n:Int)+1:=by rw[IntKind.wrap_i64];omega
 have ays:IntKind.i64.wrap ((n:Int)+1-(i:Int))=(n:Int)+1-(i:Int):=by rw[IntKind.wrap_i64];omega
 have axO:(0:Int)<=(i:Int)+1:=by omega
 have n8:i<=n:=by omega
 have Zz:((i:Int)+1).toNat=i+1:=by omega
 have CN:(i:Int)<=(n:Int):=by omega
 have Ye:(i:Int)<=(n:Int)+1:=by omega
 have axQ:(i:Int)+1<=(n:Int)+1:=by omega
 have axI:¬(G=i):=by omega
 have axJ:¬(G=i+1):=by omega
 have axS:¬(cap=i):=by omega
 have ax6:i<=G:=by omega
 have YQ:i<=cap:=by omega
 have mixed:prog.follows .mixedOrders=true:=by kernel_rfl
 clear lV pU gD ay bx p2 q7 sk lx dI gg U yZ sr fR CK CL G8 Oc hR Db w9 CJ holds p3 OU He gQ
 go_enter func229,Tryz.ntmps229
 go_wp2_with (first
  | (at_builtin;refine Lq rfl _ _ _ _ rfl _ _ rfl rfl (Zr _) ?_)
  | (at_builtin;refine SU rfl _ _ 41 41 rfl _ _ rfl rfl (Ys _ _) ?_))
 go_region_law_o (refine SV rfl _ _ 41 41 rfl _ _ (by simp[Act.eval,Act.put]) (by simp[Act.eval,Act.put]) (Yt _ _ _) ?_)
 go_wp2
 go_ret
 exact⟨G,jc,Y.1,Y.2.1,Y.2.2,rfl,by rw[<-pT];exact X⟩
variable{b:Nat}
theorem An{aN:World}{off cap:Nat}{arr:Array Value}{tb:TypeId}{es:List (List Value)}(aH:Row w b off 4 cap arr tb es){x:List Value}{i:Nat}(hi:i<=es.length)(fR:x.length=4)(pc:∀v∈x,v.oneCell'=true)
  {dw o lS:Nat} {A:Array Value} {ty:TypeId} (bD:aN.heap[dw]?=some (.cells A ty (0,0))) (ao:es.length+1<=lS) (ee:o+lS*4<=A.size)
  (za:∀p,p<i*4->A[o+p]?=arr[off+p]?) (va:∀p,p<4->A[o+i*4+p]?=x[p]?) (hC:∀p,p<(es.length-i)*4->A[o+(i+1)*4+p]?=arr[off+i*4+p]?):
  Row aN dw o 4 lS A ty (es.take i++x::es.drop i):=by
 have ar:(es.take i++x::es.drop i).length=es.length+1:=by simp;omega
 have zB:(es.take i).length=i:=by simp;omega
 refine⟨bD,by rw[ar];exact ao,ee,?_,?_,?_⟩
 ·intro e he;rcases lM.1 he with h | h
  ·exact aH.len e (uU h)
  rcases eK.1 h with rfl | h
  ·exact fR
  exact aH.len e (wM h)
 ·intro e he;rcases lM.1 he with h | h
  ·exact aH.one e (uU h)
  rcases eK.1 h with rfl | h
  ·exact pc
  exact aH.one e (wM h)
 intro k j e v ba bm;have zp:=(fP.1 ba).1;rw[ar]at zp;by_cases U:k<i
 ·rw[B7 (by omega),jZ,bL U]at ba;have kM:j<4:=by
   have:=(fP.1 bm).1;have:=aH.len e (fI ba);omega
  rw[Gk,za _ (by omega),<-Gk];exact aH.cell k j e v ba bm
 rw[B6 (by omega),zB]at ba;by_cases aa:k=i
 ·subst aa;rw[Nat.sub_self,lg,aW]at ba;subst ba;have kM:=(fP.1 bm).1;rw[va j (by omega)];exact bm
 obtain⟨m,rfl⟩:∃m,k=i+1+m:=⟨k-(i+1),by omega⟩
 rw[show i+1+m-i=m+1 by omega,mL,kW]at ba;have kM:j<4:=by
  have:=(fP.1 bm).1;have:=aH.len e (fI ba);omega
 have:=aH.cell (i+m) j e v ba bm;rw[<-this,show o+(i+1+m)*4+j=o+(i+1)*4+(m*4+j) by omega,hC _ (by omega)]
 congr 1
 omega
theorem avk{off cap:Nat}{arr:Array Value}{tb:TypeId}{es:List (List Value)}(aH:Row w b off 4 cap arr tb es):∀x v,off<=x->x<off+es.length*4->arr[x]?=some v->v.oneCell'=true:=by
 intro x v pc jO bx;have bO:(x-off) / 4<es.length:=by omega
 have he:=iB bO;have hlen:=aH.len _ (oP bO);have jM:(x-off) % 4<(es[(x-off) / 4]).length:=by omega
 have:=aH.cell _ _ _ _ he (iB jM);rw[show off+(x-off) / 4*4+(x-off) % 4=x by omega,bx]at this;rw[gd this];exact aH.one _ (oP bO) _ (oP jM)
variable{own:Nat->Prop}
theorem avl(ay:own b)(dv:Array Value):uY ⟨w,own,fun _=>(0,undef)⟩ (w.setRow b dv):=by
 refine⟨rfl,rfl,rfl,by simp,fun k ba ax=>?_,fun _=>gw _⟩;have:k≠b:=fun e=>ax (by rw[e];exact ay)
 rw[setRow_other _ b k _ this]
theorem SW{o:Obj}:uY ⟨w,own,fun _=>(0,undef)⟩ (w.drew.alloc o):=by
 refine⟨rfl,rfl,rfl,by simp[World.alloc],fun k ba _=>?_,fun _=>?_⟩
 ·rw[wg w.drew o ba];rfl
 show w.drawn<=w.drawn+1;omega
theorem avm{o:Obj}{dv Gn:Array Value}:uY ⟨w,own,fun _=>(0,undef)⟩ ((((w.drew.alloc o).setRow w.heap.size dv).drew).setRow w.heap.size Gn):=by
 refine⟨rfl,rfl,rfl,by simp[World.alloc],fun k ba _=>?_,fun _=>?_⟩
 ·rw[setRow_other _ _ k _ (by simp only at ba;omega)];show ((w.drew.alloc o).setRow w.heap.size dv).heap[k]?=w.heap[k]?;rw[setRow_other _ _ k _ (by simp only at ba;omega),wg w.drew o ba];rfl
 show w.drawn<=w.drawn+1+1;omega
theorem avn:∃i0,prog.info? 163=some i0/\i0.size=4/\i0.bytes=32/\i0.zero=some (.agg #[.int .i64 0,.int .i64 0,.int .i64 0,.int .i64 0]):=by
 have dI:(prog.info? 163).map (fun x=>(x.size,x.bytes,x.zero))=some (4,32,some (.agg #[.int .i64 0,.int .i64 0,.int .i64 0,.int .i64 0])):=by kernel_rfl
 cases h:prog.info? 163 with
 | none=>rw[h]at dI;cases dI
 | some i0=>
  rw[h]at dI;simp only[rR,aW,bA]at dI;exact⟨i0,rfl,dI.1,dI.2.1,dI.2.2⟩
theorem avo(es:List (List Value))(x:List Value)(i:Nat)(hi:i<=es.length)(ar:es.length<=8388608):kl prog 229 [.one (.e3 4 (gn es) none),.one (.ro (I i)),.one (.e3 4 (gn [x]) none)] [.one (.J 4 (gn (es.take i++x::es.drop i)))]:=by
 rintro w vs ω ⟨ax,a',aj⟩ ob;obtain⟨y,bM,kN⟩:=aj 0 _ rfl;obtain⟨gK,gG,HS⟩:=aj 1 _ rfl;obtain⟨z,bp,rb⟩:=aj 2 _ rfl;have e1:gK=.int .i64 i:=b1.CE HS;subst e1;have pb:=NQ a' bM gG bp;subst pb;have gg:prog.underlying 41=some (.slice 163):=by kernel_rfl
 obtain⟨i0,k5,a6,bF,bY⟩:=avn;rcases ax.row rb with⟨h,_⟩ | ⟨fY,ho,vc,nY,rP,O6,rfl,vo⟩
 ·cases h
 have fR:x.length=4:=vo.len x (by simp);have pc:∀v∈x,v.oneCell'=true:=vo.one x (by simp);have sr:∀j v,x[j]?=some v->nY[ho+j]?=some v:=fun j v bm=>by simpa using vo.cell 0 j x v rfl bm
 have Dd:∀j v,x[j]?=some v->w.cell? ((⟨fY,ho,none⟩:Addr).add j)=some v:=fun j v bm=>by
  rw[Addr.add_lit];simp[World.cell?,vo.heap,sr j v bm]
 have fin:∀{e:Ending} {aN:World},(∃v,e=.returned v/\Ci w aN (fun b=>ω b≠.bG) 4 (es.take i++x::es.drop i) v)->∃v,e=.returned v/\gz ⟨w,fun b=>ω b≠.bG,fun _=>(0,undef)⟩ aN/\
   ∃bd:Own,(∀b,b<w.heap.size->ω b=.bG->bd b=.bG)/\(∀b,bd b≠.bG->(∃t q,bd b=.tok t q)/\∃arr ty,aN.heap[b]?=some (.cells arr ty (0,0)))/\Kept aN bd [.one (.e3 4 (gn es) none),.one (.ro (I i)),.one (.e3 4 (gn [x]) none)] #[y,.int .i64 i,.slice (some ⟨fY,ho,none⟩) [x].length vc]/\mB aN bd [.one (.J 4 (gn (es.take i++x::es.drop i)))] v:=by
  rintro e aN ⟨v,he,cB⟩;obtain⟨bd,aa,aB,aJ⟩:=cB.res;refine⟨v,he,cB.NS.full ob,bd,aa,aB,RN ?_,aJ⟩;intro fE ks eY k dM cv iG ao
  match fE with
  | 0=>simp at iG;subst iG;simp only[GA.cell]at ao;split at ao<;>simp at ao
  | 1=>simp at iG;subst iG;simp only[GA.cell]at ao;split at ao<;>simp at ao
  | 2=>simp at iG;subst iG;simp only[GA.cell]at ao;split at ao<;>simp at ao
  | _+3=>simp at iG
 rcases ax.row kN with⟨rfl,a,rfl⟩ | ⟨b,off,cap,arr,tb,dj,rfl,aH⟩
 ·
  have YP:i=0:=by simpa using hi
  subst YP;obtain⟨G,gQ⟩:∃G,G=grownCap w 1 0 163:=⟨_,rfl⟩
  have zb:1<=G:=by rw[gQ];exact grownCap_ge w _ _ _
  have fv:∀ty,(Builtin.append_ #[41,41] ty #[.slice a 0 0,.slice (some ⟨fY,ho,none⟩) 1 vc]).run prog w=.ok (.slice (some ⟨w.heap.size,0,none⟩) 1 G) (w.drew.alloc (.cells (x.toArray++Builtin.zeroCells (Value.agg #[.int .i64 0,.int .i64 0,.int .i64 0,.int .i64 0]).cells (G-1)) 163)):=by
   intro ty;cases a with
   | none=>
    have:=run_append_nil (P:=prog) w 41 ty 163 i0 _ gg k5 bY ⟨fY,ho,none⟩ 1 vc x (by rw[a6,fR]) Dd (by omega) (by omega) (by rw[bF];omega);rw[<-gQ]at this;exact this
   | some b6=>
    have:=run_append_grow (P:=prog) w 41 ty 163 i0 _ gg k5 bY b6 0 0 [] (by simp) (fun j v bx=>by simp at bx) ⟨fY,ho,none⟩ 1 vc x (by rw[a6,fR]) Dd (by omega) (by omega) (growslice_fits (by omega) (by rw[bF];omega));simp only[dW,<-gQ]at this;simpa using this
  refine (Lr a 0 0 fY ho vc w _ _ (gw _) fv).mono ?_;rintro e aN ⟨rfl,rfl⟩;have awu:Row w fY 0 4 0 nY rP []:=⟨vo.heap,gw _,by omega,by simp,by simp,by simp⟩
  refine fin ⟨_,rfl,SW,.inr ⟨w.heap.size,0,G,_,_,.inr (gw _),rfl,An awu (gw _) fR pc (nu w.drew _) zb ?_ ?_ ?_ ?_⟩⟩
  ·simp only[th,oL,size_zeroCells,fR];show 0+G*4<=4+(G-1)*4;omega
  ·intro p hp;simp at hp
  ·intro p hp;rw[jE,bL (by simp;omega)];simp
  intro p hp;simp at hp
 have db:fY≠b:=by
  rintro rfl;rw[dj]at O6;simp only[di.tok.injEq,fu]at O6;omega
 have nn:ω b≠.bG:=by rw[dj];simp
 have n9:=aH.room;have ee:=aH.fit;have U:=avk aH;rcases pE i es.length with bO | o6
 ·rcases pE cap (es.length+1) with gE | gE
  ·
   refine (avj b off es.length cap i fY ho vc arr tb nY rP x w aH.heap vo.heap bO n9 gE ee fR sr pc U (by omega)).mono ?_;rintro e aN ⟨G,jc,gQ,CL,CK,rfl,rfl⟩;have iI:i*4+x.length<=jc.size:=by omega
   have lx:=qq iI;have q7:((arr.toList.drop (off+i*4)).take ((es.length-i)*4)).length=(es.length-i)*4:=by simp;omega
   have c1:(i+1)*4+((arr.toList.drop (off+i*4)).take ((es.length-i)*4)).length<=(laid jc (i*4) x).size:=by omega
   refine fin ⟨_,rfl,avm,.inr ⟨w.heap.size,0,G,_,_,.inr (gw _),by simp;omega,An aH hi fR pc (setRow_heap _ _ _ _ _ (0,0) (setRow_heap (w.drew.alloc _) _ _ _ _ (0,0) (nu w.drew _))) gQ ?_ ?_ ?_ ?_⟩⟩
   ·rw[qq c1,lx,CL];omega
   ·intro p hp;rw[dW,l7 c1,bH (by omega),l7 iI,bH (by omega)];exact CK p hp
   ·intro p hp;rw[dW,l7 c1,bH (by omega),l7 iI,bL (by omega)];rw[show i*4+p-i*4=p by omega]
   intro p hp;rw[dW,l7 c1,bL (by omega),jZ,bL (by omega),kW,lJ];rw[show (i+1)*4+p-(i+1)*4=p by omega]
  -- in XN,there is room
  refine (avi b off es.length cap i fY ho vc arr tb nY rP x w aH.heap vo.heap db bO gE ee fR sr pc U (by omega)).mono ?_;rintro e aN ⟨rfl,rfl⟩;have q7:((arr.toList.drop (off+i*4)).take ((es.length-i)*4)).length=(es.length-i)*4:=by simp;omega
  have iI:off+(i+1)*4+((arr.toList.drop (off+i*4)).take ((es.length-i)*4)).length<=arr.size:=by omega
  have lx:=qq iI;have c1:off+i*4+x.length<=(laid arr (off+(i+1)*4) ((arr.toList.drop (off+i*4)).take ((es.length-i)*4))).size:=by omega
  refine fin ⟨_,rfl,RO nn _ _,.inr ⟨b,off,cap,_,tb,.inl nn,by simp;omega,An aH hi fR pc (setRow_heap _ _ _ _ _ (0,0) (setRow_heap w.drew b arr _ tb (0,0) aH.heap)) gE ?_ ?_ ?_ ?_⟩⟩
  ·rw[qq c1,lx];exact ee
  ·intro p hp;rw[l7 c1,bH (by omega),l7 iI,bH (by omega)]
  ·intro p hp;rw[l7 c1,bL (by omega)];rw[show off+i*4+p-(off+i*4)=p by omega]
  intro p hp;rw[l7 c1,bH (by omega),l7 iI,bL (by omega),jZ,bL (by omega),kW,lJ];rw[show off+(i+1)*4+p-(off+(i+1)*4)=p by omega]
 have YS:i=es.length:=by omega
 subst YS;rcases pE cap (es.length+1) with gE | gE
 ·
  obtain⟨oo,holds⟩:∃oo,oo=(arr.toList.drop off).take (es.length*4):=⟨_,rfl⟩
  have p3:oo.length=es.length*4:=by rw[holds];simp;omega
  obtain⟨G,gQ⟩:∃G,G=grownCap w (es.length+1) cap 163:=⟨_,rfl⟩
  have zb:es.length+1<=G:=by rw[gQ];exact grownCap_ge w _ _ _
  have fv:∀ty,(Builtin.append_ #[41,41] ty #[.slice (some ⟨b,off,none⟩) es.length cap,.slice (some ⟨fY,ho,none⟩) 1 vc]).run prog w=.ok (.slice (some ⟨w.heap.size,0,none⟩) (es.length+1) G) (w.drew.alloc (.cells (oo.toArray++x.toArray++Builtin.zeroCells (Value.agg #[.int .i64 0,.int .i64 0,.int .i64 0,.int .i64 0]).cells (G-(es.length+1))) 163)):=by
   intro ty;have:=run_append_grow (P:=prog) w 41 ty 163 i0 _ gg k5 bY ⟨b,off,none⟩ es.length cap oo (by rw[a6,p3]) (fun j v bm=>by
    rw[holds,jZ]at bm;split at bm
    ·rw[kW,lJ]at bm;rw[Addr.add_lit];simp[World.cell?,aH.heap,bm]
    cases bm) ⟨fY,ho,none⟩ 1 vc x (by rw[a6,fR]) Dd (by omega) (by omega) (growslice_fits (by omega) (by rw[bF];omega))
   rw[<-gQ]at this;exact this
  refine (Lr (some ⟨b,off,none⟩) es.length cap fY ho vc w _ _ n9 fv).mono ?_;rintro e aN ⟨rfl,rfl⟩;refine fin ⟨_,rfl,SW,.inr ⟨w.heap.size,0,G,_,_,.inr (gw _),by simp,An aH hi fR pc (nu w.drew _) zb ?_ ?_ ?_ ?_⟩⟩
  ·simp only[th,oL,size_zeroCells,fR,p3];show 0+G*4<=es.length*4+4+(G-(es.length+1))*4;omega
  ·intro p hp;rw[dW,jE,bL (by simp[p3];omega),jE,bL (by simp[p3];omega)];simp only[oK];rw[holds,jZ,bL hp,kW,lJ]
  ·intro p hp;rw[dW,jE,bL (by simp[p3];omega),jE,bH (by simp[p3])];simp only[oK,oL,p3];rw[show es.length*4+p-es.length*4=p by omega]
  intro p hp;simp at hp
 -- at VO end,there is room
 have fv:∀ty,(Builtin.append_ #[41,41] ty #[.slice (some ⟨b,off,none⟩) es.length cap,.slice (some ⟨fY,ho,none⟩) 1 vc]).run prog w=.ok (.slice (some ⟨b,off,none⟩) (es.length+1) cap) (w.setRow b (laid arr (off+es.length*4) x)):=by
  intro ty;have:=DF (P:=prog) (t:=41) (ty:=ty) gg k5 w b off es.length cap arr tb aH.heap ⟨fY,ho,none⟩ 1 vc x (by rw[a6,fR]) Dd pc gE (by rw[a6,fR];omega);rw[a6]at this;exact this
 refine (Lr (some ⟨b,off,none⟩) es.length cap fY ho vc w _ _ n9 fv).mono ?_;rintro e aN ⟨rfl,rfl⟩;have iI:off+es.length*4+x.length<=arr.size:=by omega
 refine fin ⟨_,rfl,avl nn _,.inr ⟨b,off,cap,_,tb,.inl nn,by simp,An aH hi fR pc (setRow_heap _ _ _ _ _ (0,0) aH.heap) gE ?_ ?_ ?_ ?_⟩⟩
 ·rw[qq iI];exact ee
 ·intro p hp;rw[l7 iI,bH (by omega)]
 ·intro p hp;rw[l7 iI,bL (by omega)];rw[show off+es.length*4+p-(off+es.length*4)=p by omega]
 intro p hp;simp at hp
theorem Cell.yQ(xs:List Cell):xs.map Cell.e=gn (xs.map fun r=>r.e.map D.Bt):=by
 simp only[gn,List.map_map];rfl
theorem avp(xs:List Cell)(x:Cell)(i:Nat)(hi:i<=xs.length)(ar:xs.length<=8388608):kl prog 229 [.one (.e3 4 (xs.map Cell.e) none),.one (.ro (I i)),.one (.e3 4 [x.e] none)] [.one (.J 4 ((xs.take i++x::xs.drop i).map Cell.e))]:=by
 have:=avo (xs.map fun r=>r.e.map D.Bt) (x.e.map D.Bt) i (by simpa using hi) (by simpa using ar);rw[Cell.yQ,Cell.yQ];simp only[gx,mM,rV,List.map_drop]at this ⊢;exact this
end Go.Proofs.YthfnndblgbjniaaGreatDoor
namespace Go.Proofs.YthfnndblgbjniaaGreatDoor
open Go.Sx Go.RowKit Go.Proofs.Tryz
def oA(xs:List Cell)(x:Cell):Bool:=xs.any fun a=>decide (a=x)
def l9(xs:List Cell)(x:Cell):Nat:=(xs.findIdx? fun a=>!decide (h4 a x<0)).getD xs.length
def kB(xs:List Cell)(x:Cell):List Cell:=if oA xs x then xs else xs.take (l9 xs x)++x::xs.drop (l9 xs x)
theorem Ls(xs:List Cell)(x:Cell):l9 xs x<=xs.length:=by
 unfold l9;cases h:xs.findIdx? (fun a=>!decide (h4 a x<0)) with
 | none=>simp
 | some i=>
  rw[tg]at h;have:=h.1;simp;omega
theorem SX(xs:List Cell)(x:Cell):(kB xs x).length<=xs.length+1:=by
 unfold kB;split
 ·omega
 have:=Ls xs x;simp;omega
theorem SY(xs:List Cell)(x:Cell)(ar:xs.length<=8388608):al 214 [.one (.J 4 (xs.map Cell.e)),.agg x.e] [.one (B (oA xs x))]:=by
 have l:=gI (P:=prog) (c:=(ap f214 0)) xs (fun a=>decide (a=x)) (fun i=>vY (xs.map Cell.e) x.op x.bh x.key x.val i) (X:=fun _ _=>JZ true) ff (cy 0)
  (fun i a aj h=>atA ⟨cc (a7 aj),bB,bI (a7 aj),bC Cell.e aj,(J0 a x).trans h,dc (a7 aj) ar,ad⟩)
  (fun i a aj h=>atz ⟨cc (a7 aj),bB,bI (a7 aj),bC Cell.e aj,(J0 a x).trans h,ad⟩)
  (atB ⟨dG,ad⟩)
 unfold oA;rcases l with⟨_,_,U,aa⟩ | ⟨i,a,_,_,_,_,U,aa⟩
 ·rw[U];exact atD ⟨aa,ad⟩
 rw[U];exact atC ⟨aa,ad⟩
theorem SZ(xs:List Cell)(x:Cell)(r:Bool)(h:oA xs x=r)(ar:xs.length<=8388608):al 214 [.one (.J 4 (xs.map Cell.e)),.agg x.e] [.one (B r)]:=h▸SY xs x ar
def Df(xs:List Cell)(x:Cell):Int:=match xs.findIdx? (fun a=>decide (a=x)) with | some i=>i | none=>-1
theorem avq(xs:List Cell)(x:Cell):decide (Df xs x>=0)=oA xs x:=by
 unfold Df oA;cases h:xs.findIdx? (fun a=>decide (a=x)) with
 | none=>
  have:xs.any (fun a=>decide (a=x))=false:=by
   rw[hW];rw[Gf]at h;exact fun a aj=>by simpa using h a aj
  rw[this];rfl
 | some i=>
  rw[tg]at h;obtain⟨hi,aa,_⟩:=h;have:xs.any (fun a=>decide (a=x))=true:=rU.2 ⟨_,oP hi,aa⟩;rw[this];simp
theorem auB(xs:List Cell)(x:Cell)(ar:xs.length<=8388608):al 237 [.one (.J 4 (xs.map Cell.e)),.agg x.e] [.one (I (Df xs x))]:=by
 have l:=gI (P:=prog) (c:=(ap f237 0)) xs (fun a=>decide (a=x)) (fun i=>vV (xs.map Cell.e) x.op x.bh x.key x.val i) (X:=fun i _=>JW i) ff (cy 0)
  (fun i a aj h=>asp ⟨cc (a7 aj),bB,bI (a7 aj),bC Cell.e aj,(SI a x).trans h,dc (a7 aj) ar,ad⟩)
  (fun i a aj h=>aso ⟨cc (a7 aj),bB,bI (a7 aj),bC Cell.e aj,(SI a x).trans h,ad⟩)
  (asq ⟨dG,ad⟩)
 unfold Df;rcases l with⟨_,U,_,aa⟩ | ⟨i,a,_,_,_,U,_,aa⟩
 ·simp only[U];exact ass ⟨aa,ad⟩
 simp only[U];exact asr ⟨aa,ad⟩
theorem S0(xs:List Cell)(x:Cell)(ar:xs.length<=8388608):al 211 [.one (.J 4 (xs.map Cell.e)),.agg x.e] [.one (B (oA xs x))]:=by
 rw[<-avq];exact asV ⟨asn ⟨auB xs x ar,ad⟩,ad⟩
theorem R9(xs:List Cell)(x:Cell)(r:Bool)(h:oA xs x=r)(ar:xs.length<=8388608):al 211 [.one (.J 4 (xs.map Cell.e)),.agg x.e] [.one (B r)]:=h▸S0 xs x ar
theorem ux(xs:List Cell)(ar:xs.length<=8388608):al 127 [.one (.J 4 (xs.map Cell.e))] [.one (.J 4 (xs.map Cell.e))]:=
 asU ⟨by simp;omega,by simp;omega,dE _ Cell.flat _,ad⟩
theorem Ao(xs:List Cell)(x:Cell)(ar:xs.length<=8388608):al 215 [.one (.J 4 (xs.map Cell.e)),.agg x.e] [.one (.J 4 ((kB xs x).map Cell.e))]:=by
 unfold kB;cases h:oA xs x with
 | true=>
  rw[bL rfl];exact atE ⟨SZ xs x true h ar,rfl,by simp;omega,by simp;omega,dE _ Cell.flat _,ad⟩
 | false=>
  rw[bH (by simp)];have l:c6 prog (ap f215 0) (vZ (xs.map Cell.e) x.op x.bh x.key x.val 0) (hD.exit 0) (Am (xs.map Cell.e) x.op x.bh x.key x.val (l9 xs x)):=by
   have l:=gI (P:=prog) (c:=(ap f215 0)) xs (fun a=>!decide (h4 a x<0)) (fun i=>vZ (xs.map Cell.e) x.op x.bh x.key x.val i) (X:=fun i _=>Am (xs.map Cell.e) x.op x.bh x.key x.val i) (cy 0) (cy 0)
    (fun i a aj h=>atF ⟨cc (a7 aj),bB,bI (a7 aj),bC Cell.e aj,E4 a x,by simpa using h,dc (a7 aj) ar,ad⟩)
    (fun i a aj h=>atG ⟨cc (a7 aj),bB,bI (a7 aj),bC Cell.e aj,E4 a x,by simpa using h,ad⟩)
    (atH ⟨dG,ad⟩)
   unfold l9;rcases l with⟨_,U,_,aa⟩ | ⟨i,a,_,_,_,U,_,aa⟩
   ·rw[U];exact aa
   rw[U];exact aa
  have hp:=Ls xs x;generalize l9 xs x=p at*;refine au5 (atI ⟨SZ xs x false h ar,rfl,l,by simp,by simp,by simp;omega,by simp;omega,by simp;omega,?_,by simp;omega,by simp;omega,fA x.flat,by simp,by simp;omega,by simp,by simp;omega,by simp;omega,?_,ad⟩) ?_
  ·simp only[kZ,pA,Nat.sub_zero,wN,<-rV];exact dE _ Cell.flat _
  ·simp only[kZ,pA,<-rV,<-List.map_drop];exact dE _ Cell.flat _
  simp only[kZ,pA,Nat.sub_zero,wN,List.nil_append,<-rV,<-List.map_drop,gx,mM,mN]
  congr 1
  rw[B8 (by simp)];rfl
theorem R'(xs:List Cell)(x:Cell)(ar:xs.length<=8388608):al 210 [.one (.J 4 (xs.map Cell.e)),.agg x.e] [.one (.J 4 ((kB xs x).map Cell.e))]:=by
 have c:=ux xs ar;unfold kB;cases h:oA xs x with
 | true=>
  rw[bL rfl];exact ast ⟨c,R9 xs x true h ar,rfl,ad⟩
 | false=>
  rw[bH (by simp)];have l:c6 prog (ap f210 0) (vW (xs.map Cell.e) x.op x.bh x.key x.val (xs.map Cell.e) 0) (hD.exit 0) (Al x.op x.bh x.key x.val (xs.map Cell.e) (l9 xs x)):=by
   have l:=gI (P:=prog) (c:=(ap f210 0)) xs (fun a=>!decide (h4 a x<0)) (fun i=>vW (xs.map Cell.e) x.op x.bh x.key x.val (xs.map Cell.e) i) (X:=fun i _=>Al x.op x.bh x.key x.val (xs.map Cell.e) i) (cy 0) (cy 0)
    (fun i a aj h=>asu ⟨cc (a7 aj),bB,bI (a7 aj),bC Cell.e aj,E3 a x,by simpa using h,dc (a7 aj) ar,ad⟩)
    (fun i a aj h=>asv ⟨cc (a7 aj),bB,bI (a7 aj),bC Cell.e aj,E3 a x,by simpa using h,ad⟩)
    (asw ⟨dG,ad⟩)
   unfold l9;rcases l with⟨_,U,_,aa⟩ | ⟨i,a,_,_,_,U,_,aa⟩
   ·rw[U];exact aa
   rw[U];exact aa
  exact atY ⟨c,R9 xs x false h ar,rfl,l,avp xs x (l9 xs x) (Ls xs x) ar,ad⟩
end Go.Proofs.YthfnndblgbjniaaGreatDoor
namespace Go.Proofs.YthfnndblgbjniaaGreatDoor
open Go.Sx Go.RowKit Go.Proofs.Tryz
def gi(g:b5)(op:Int):Option Node:=if 0<=op then g.nodes[op.toNat]? else none
variable{g:b5}{a:Int}{w:Node}
theorem E6(h:gi g a=some w):0<=a/\a<(↑(g.nodes.map Node.e).length:Int)/\(g.nodes.map Node.e)[a.toNat]?=some w.e/\av a 0 (↑(g.nodes.map Node.e).length-1)=true:=by
 unfold gi at h;split at h
 ·have:=(fP.1 h).1;refine⟨‹_›,by simp;omega,by simp[h],?_⟩;simp only[av,cr,c3];omega
 cases h
theorem Sa(h:gi g a=none):av a 0 (↑(g.nodes.map Node.e).length-1)=false:=by
 unfold gi at h;simp only[av,cr,nR];split at h
 ·rw[List.getElem?_eq_none_iff]at h;omega
 omega
theorem Lt(h:gi g a=some w):w∈g.nodes:=by
 unfold gi at h;split at h
 ·exact fI h
 cases h
theorem b5.Z9(h:g.sz<=8388608):g.nodes.length<=8388608:=by simp only[b5.sz,fr]at h;omega
theorem b5.zV(h:g.sz<=8388608)(hw:w∈g.nodes):w.outs.length<=8388608:=by
 have:=DB (sz:=Node.sz) hw;simp only[b5.sz,fr]at h;have a6:w.outs.length<=w.sz:=by simp only[Node.sz];omega
 omega
theorem E7(h:g.sz<=8388608):aK .i64 ((↑(g.nodes.map Node.e).length:Int)-1):=by
 have:=b5.Z9 h;exact⟨by simp;omega,by simp;omega⟩
theorem auC(g:b5)(op:Int)(ax:g.sz<=8388608):al 132 [.agg g.e,.one (I op)] [.one (B (gi g op).isSome)]:=by
 cases h:gi g op with
 | none=>exact SD ⟨E7 ax,hl _ (Sa h),ad⟩
 | some w=>exact SD ⟨E7 ax,hl _ (E6 h).2.2.2,ad⟩
theorem xH(g:b5)(op:Int)(r:Bool)(h:(gi g op).isSome=r)(ax:g.sz<=8388608):al 132 [.agg g.e,.one (I op)] [.one (B r)]:=h▸auC g op ax
def uy(g:b5)(op:Int):Node×Bool:=match gi g op with | some n=>(n,true) | none=>(⟨0,0,0,[]⟩,false)
theorem auD(n:Int):∀d∈bb n,∃x,d=.v x:=by
 intro d aI;simp only[bb,eK,nP,or_false]at aI;subst aI;exact⟨_,rfl⟩
theorem auE(g:b5)(op:Int)(ax:g.sz<=8388608):al 194 [.agg g.e,.one (I op)] [.agg (uy g op).1.e,.one (B (uy g op).2)]:=by
 unfold uy;cases h:gi g op with
 | none=>exact atJ ⟨E7 ax,fM _ _ _ _ (Sa h),rfl,ad⟩
 | some w=>
  obtain⟨U,aa,aB,aJ⟩:=E6 h;have bc:=b5.zV ax (Lt h);exact atK ⟨E7 ax,fM _ _ _ _ aJ,rfl,U,aa,aB,by simp;omega,by simp;omega,dE _ auD _,ad⟩
theorem E8(g:b5)(op:Int)(r:Node×Bool)(h:uy g op=r)(ax:g.sz<=8388608):al 194 [.agg g.e,.one (I op)] [.agg r.1.e,.one (B r.2)]:=h▸auE g op ax
