import Derived.WalkKit
import Derived.Deep.RegionLaw
import Derived.Shelf.RegionOpenPlain
import Derived.Lib.SliceRun
import Derived.Lib.JoinLaws
import Derived.Lib.Overlaps
import Derived.Lib.AppendZerosOnto
import Derived.Laws.Externs
import Derived.Deep.LoopGhost
import Derived.Lib.Walk
import Derived.Test.YtdchjefneblpgaaGreatC0
set_option linter.unusedVariables false
set_option linter.unusedSimpArgs false
namespace Go.Proofs.YtdchjefneblpgaaGreat
open Go.Sx Go.RowKit Go.Shelf Go.Lib Go.Proofs.Tryz
variable{P:Program}{w:World}{ops:Array Oper}{o:Oper}{a:Act}{Q:Exit->Act->World->Prop}
theorem RH{rest:List Oper}(Gg:o.guard=none)(d s:Operand)(t c6:TypeId)
  (aZ:o.op=.call { callee:=.builtin .copy,args:=#[d,s],argTypes:=#[t,c6] }) (v u:Value) (aD:a.eval d=v) (aj:a.eval s=u) {oO:Value} {aN:World}
  (aA:(Builtin.copy_ #[t,c6] o.type #[v,u]).run P w=.ok oO aN) (h:wpList P ops Q rest (a.put o.dst oO) aN):wpList P ops Q (o::rest) a w:=
 wpList_plain Gg fun _ gp=>by
  unfold Oper.wp execOp;simp only[aZ,resolve,invoke,builtin,Sem.run_bind,Sem.run_pure,Result.andThen_ok,List.map_toArray,k4,List.map_nil,aD,aj,aA];exact gp _ _ h
theorem QS{K:Act->World->Prop}{E:Prop}
  (au:o.guard=none) (d x:Operand) (dW bg:TypeId) (rB:o.op=Op.call { callee:=Callee.builtin Builtin.copy,args:=#[d,x],argTypes:=#[dW,bg] })
  (v u:Value) (aD:a.eval d=v) (ag:a.eval x=u) {oO:Value} {aN:World} (aA:(Builtin.copy_ #[dW,bg] o.type #[v,u]).run P w=.ok oO aN) (gp:K (a.put o.dst oO) aN):
  if Region.wanted o (yielded ops a.tmps)=true then Oper.wp P o a w K Q else E:=by
 have hw:Region.wanted o (yielded ops a.tmps)=true:=by simp[Region.wanted,au]
 rw[br hw];unfold Oper.wp;simp[execOp,rB,resolve,invoke,builtin,aD,ag,aA,Result.andThen];exact gp
theorem Kp{rest:List Oper}(Gg:o.guard=none)(d s:Operand)(t c6:TypeId)
  (aZ:o.op=.call { callee:=.builtin .append,args:=#[d,s],argTypes:=#[t,c6] }) (v u:Value) (aD:a.eval d=v) (aj:a.eval s=u) {oO:Value} {aN:World}
  (aA:(Builtin.append_ #[t,c6] o.type #[v,u]).run P w=.ok oO aN) (h:wpList P ops Q rest (a.put o.dst oO) aN):wpList P ops Q (o::rest) a w:=
 wpList_plain Gg fun _ gp=>by
  unfold Oper.wp execOp;simp only[aZ,resolve,invoke,builtin,Sem.run_bind,Sem.run_pure,Result.andThen_ok,List.map_toArray,k4,List.map_nil,aD,aj,aA];exact gp _ _ h
set_option maxHeartbeats 4000000 in
set_option maxRecDepth 1000000 in
theorem Kq(base:Option Addr)(n cap fK gP vc:Nat)(w w1:World)(v:Value)(aW:n<=cap)
  (eQ:∀ty,(Builtin.append_ #[48,48] ty #[.slice base n cap,.slice (some ⟨fK,gP,none⟩) 1 vc]).run prog w=.ok v w1):
  Calls prog 305 #[.slice base n cap,.int .i64 n,.slice (some ⟨fK,gP,none⟩) 1 vc] w fun e aN=>e=.returned v/\aN=w1:=by
 have mixed:prog.follows .mixedOrders=true:=by kernel_rfl
 go_enter func305,Tryz.ntmps305
 cases base with
 | none=>
  go_wp2_with (at_builtin;refine Kp rfl _ _ _ _ rfl _ _ rfl rfl (eQ _) ?_)
  all_goals (go_ret;exact⟨rfl,rfl⟩)
 | some a=>
  obtain⟨ab,atB,atE⟩:=a
  go_wp2_with (at_builtin;refine Kp rfl _ _ _ _ rfl _ _ rfl rfl (eQ _) ?_)
  all_goals (go_ret;exact⟨rfl,rfl⟩)
set_option maxHeartbeats 4000000 in
set_option maxRecDepth 1000000 in
theorem apm(b off n cap i fK gP vc:Nat)(arr:Array Value)(tb:TypeId)(m':Array Value)(qZ:TypeId)(x:List Value)(w:World)(ar:w.heap[b]?=some (.cells arr tb (0,0)))(bt:w.heap[fK]?=some (.cells m' qZ (0,0)))(N0:fK≠b)
  (hi:i<n) (aW:n+1<=cap) (dO:off+cap*4<=arr.size) (fP:x.length=4) (rL:∀j v,x[j]?=some v->m'[gP+j]?=some v) (yl:∀v∈x,v.oneCell'=true)
  (h1:∀x v,off<=x->x<off+n*4->arr[x]?=some v->v.oneCell'=true) (B':n<8388609):
  Calls prog 305 #[.slice (some ⟨b,off,none⟩) n cap,.int .i64 i,.slice (some ⟨fK,gP,none⟩) 1 vc] w fun e aN=>e=.returned (.slice (some ⟨b,off,none⟩) (n+1) cap)/\
   aN=(w.drew.setRow b (laid arr (off+(i+1)*4) ((arr.toList.drop (off+i*4)).take ((n-i)*4)))).setRow b (laid (laid arr (off+(i+1)*4) ((arr.toList.drop (off+i*4)).take ((n-i)*4))) (off+i*4) x):=by
 obtain⟨mid,pr⟩:∃mid,mid=(arr.toList.drop (off+i*4)).take ((n-i)*4):=⟨_,rfl⟩
 have qm:mid.length=(n-i)*4:=by rw[pr];simp;omega
 have rA:∀u∈mid,u.oneCell'=true:=by
  intro u hu;obtain⟨y,bl⟩:=oT.1 hu;rw[pr,hh]at bl;split at bl
  ·rw[gQ,iC]at bl;exact h1 _ u (by omega) (by omega) bl
  cases bl
 rw[<-pr];obtain⟨fS,uA⟩:∃fS,fS=laid arr (off+(i+1)*4) mid:=⟨_,rfl⟩
 have my:fS.size=arr.size:=by rw[uA];exact tk (by omega)
 obtain⟨jX,pe⟩:∃jX,jX=w.drew.setRow b fS:=⟨_,rfl⟩
 have fU:jX.heap[b]?=some (.cells fS tb (0,0)):=by rw[pe];exact setRow_heap w.drew b arr fS tb (0,0) ar
 have sX:jX.heap[fK]?=some (.cells m' qZ (0,0)):=by rw[pe,setRow_other _ b fK _ N0];exact bt
 have di:(prog.info? 141).map (·.size)=some 4:=by kernel_rfl
 have fO:prog.underlying 48=some (.slice 141):=by kernel_rfl
 have WV:∀ty ko jO,(Builtin.copy_ #[48,48] ty #[.slice (some ⟨b,off+(i+1)*4,none⟩) (n-i) ko,.slice (some ⟨b,off+i*4,none⟩) (n+1-i) jO]).run prog w.drew=.ok (goInt (Nat.min (n+1-i) (n-i))) jX:=by
  intro ty ko jO;have uO:Nat.min (n+1-i) (n-i)=n-i:=by simp only[Nat.min_def];split<;>omega
  rw[pe,uA];refine Dy w.drew _ _ ty _ 4 b (off+(i+1)*4) _ ko arr tb ⟨b,off+i*4,none⟩ _ jO mid fO di ar (by rw[uO,qm]) (fun j v a6=>?_) (by omega) rA;rw[pr,hh]at a6;split at a6
  ·rw[gQ,iC]at a6;rw[Addr.add_lit];have dn:w.drew.heap[b]?=some (.cells arr tb (0,0)):=ar;simp[World.cell?,dn,a6]
  cases a6
 obtain⟨q8,uD⟩:∃q8,q8=jX.setRow b (laid fS (off+i*4) x):=⟨_,rfl⟩
 have WW:∀ty ko,(Builtin.copy_ #[48,48] ty #[.slice (some ⟨b,off+i*4,none⟩) (n+1-i) ko,.slice (some ⟨fK,gP,none⟩) 1 vc]).run prog jX=.ok (goInt (Nat.min 1 (n+1-i))) q8:=by
  intro ty ko;have uO:Nat.min 1 (n+1-i)=1:=by simp only[Nat.min_def];split<;>omega
  rw[uD];refine Dy jX _ _ ty _ 4 b (off+i*4) _ ko fS tb ⟨fK,gP,none⟩ _ vc x fO di fU (by rw[uO,fP]) (fun j v a6=>?_) (by omega) yl;rw[Addr.add_lit];simp[World.cell?,sX,rL j v a6]
 have XV:∀Hu Ft,(callFunc 337 #[.slice (some ⟨fK,gP,none⟩) 1 vc,.slice (some ⟨b,off+(i+1)*4,none⟩) Hu Ft]).run prog w=.ok (.value (.bool false)) w:=fun Hu Ft=>by
  rw[run_callFunc_extern (P:=prog) func337 (by kernel_rfl) (by kernel_rfl) (by kernel_rfl) (e:=Extern.SlicesOverlaps.overlaps #[48,48] #[4]) (by kernel_rfl),
   Lib.run_overlaps_apart w 48 4 141 fO 4 (fun w=>by simp[sizeOf,typeInfo];kernel_rfl) ⟨fK,gP,none⟩ ⟨b,off+(i+1)*4,none⟩ 1 vc Hu Ft N0 qZ tb m'.size arr.size (by simp[World.shape?,bt]) (by simp[World.shape?,ar]) (by omega) (by simp[World.frozen?,bt]) (by simp[World.frozen?,bt])]
  rfl
 have X:Aside (q8=(w.drew.setRow b fS).setRow b (laid fS (off+i*4) x)):=by rw[uD,pe];trivial
 have nr:i<=n:=by omega
 have Yl:IntKind.i64.wrap ((i:Int)+1)=(i:Int)+1:=by rw[IntKind.wrap_i64];omega
 have Ym:IntKind.i64.wrap ((n:Int)+1)=(n:Int)+1:=by rw[IntKind.wrap_i64];omega
 have hB:(0:Int)<=(i:Int)+1:=by omega
 have Ya:((i:Int)+1).toNat=i+1:=by omega
 have aus:((n:Int)+1).toNat=n+1:=by omega
 have fL:¬(cap=i+1):=by omega
 have B9:(i:Int)+1<=(n:Int)+1:=by omega
 have yz:¬(cap=i):=by omega
 have WH:(i:Int)<=(n:Int)+1:=by omega
 have qo:¬((i:Int)=(n:Int)):=by omega
 have mixed:prog.follows .mixedOrders=true:=by kernel_rfl
 clear pe uD fU sX ar bt pr qm rA my di fO h1 yl rL fP
 go_enter func305,Tryz.ntmps305
 go_wp2_with (simp only[XV])
 go_region_law_o (refine QS rfl _ _ 48 48 rfl _ _ (by simp[Act.eval,Act.put]) (by simp[Act.eval,Act.put]) (WV _ _ _) ?_)
 go_wp2_with (at_builtin;refine RH rfl _ _ 48 48 rfl _ _ rfl rfl (WW _ _) ?_)
 go_ret
 exact⟨rfl,by rw[<-uA];exact X⟩
set_option maxHeartbeats 4000000 in
set_option maxRecDepth 1000000 in
theorem apn(b off n cap i fK gP vc:Nat)(arr:Array Value)(tb:TypeId)(m':Array Value)(qZ:TypeId)(x:List Value)(w:World)(ar:w.heap[b]?=some (.cells arr tb (0,0)))(bt:w.heap[fK]?=some (.cells m' qZ (0,0)))
  (hi:i<n) (aW:n<=cap) (au:cap<n+1) (dO:off+cap*4<=arr.size) (fP:x.length=4) (rL:∀j v,x[j]?=some v->m'[gP+j]?=some v) (yl:∀v∈x,v.oneCell'=true)
  (h1:∀x v,off<=x->x<off+n*4->arr[x]?=some v->v.oneCell'=true) (B':n<8388609):
  Calls prog 305 #[.slice (some ⟨b,off,none⟩) n cap,.int .i64 i,.slice (some ⟨fK,gP,none⟩) 1 vc] w fun e aN=>∃(G:Nat) (iF:Array Value),n+1<=G/\iF.size=G*4/\(∀y,y<i*4->iF[y]?=arr[off+y]?)/\e=.returned (.slice (some ⟨w.heap.size,0,none⟩) (n+1) G)/\
   aN=(((w.drew.alloc (.cells iF 141)).setRow w.heap.size (laid iF (i*4) x)).drew).setRow w.heap.size (laid (laid iF (i*4) x) ((i+1)*4) ((arr.toList.drop (off+i*4)).take ((n-i)*4))):=by
 obtain⟨mid,pr⟩:∃mid,mid=(arr.toList.drop (off+i*4)).take ((n-i)*4):=⟨_,rfl⟩
 have qm:mid.length=(n-i)*4:=by rw[pr];simp;omega
 have rA:∀u∈mid,u.oneCell'=true:=by
  intro u hu;obtain⟨y,bl⟩:=oT.1 hu;rw[pr,hh]at bl;split at bl
  ·rw[gQ,iC]at bl;exact h1 _ u (by omega) (by omega) bl
  cases bl
 rw[<-pr];have fO:prog.underlying 48=some (.slice 141):=by kernel_rfl
 have NW:prog.underlying 3=some (.int .i64):=by kernel_rfl
 have di:(prog.info? 141).map (·.size)=some 4:=by kernel_rfl
 have F5:(prog.info? 141).map (fun x=>(x.bytes,x.zero))=some (32,some (.agg #[.int .i64 0,.int .i64 0,.int .i64 0,.int .i64 0])):=by kernel_rfl
 obtain⟨nI,holds⟩:∃nI,nI=(arr.toList.drop off).take (i*4):=⟨_,rfl⟩
 have pt:nI.length=i*4:=by rw[holds];simp;omega
 obtain⟨G,gC⟩:∃G,G=grownCap w (n+1) cap 141:=⟨_,rfl⟩
 have yy:n+1<=G:=by rw[gC];exact grownCap_ge w _ _ _
 have atZ:G<=9223372036854775807:=by
  have:=grownCap_le_maxLen w (n+1) cap 141 (by unfold maxLen;omega);rw[<-gC]at this;unfold maxLen at this;omega
 obtain⟨iF,B5⟩:∃iF:Array Value,iF=nI.toArray++Builtin.zeroCells (Value.agg #[.int .i64 0,.int .i64 0,.int .i64 0,.int .i64 0]).cells (n+1-i)++Builtin.zeroCells (Value.agg #[.int .i64 0,.int .i64 0,.int .i64 0,.int .i64 0]).cells (G-(n+1)):=⟨_,rfl⟩
 have B7:iF.size=G*4:=by
  rw[B5];simp only[p8,kG,size_zeroCells,pt];show i*4+(n+1-i)*4+(G-(n+1))*4=G*4;omega
 have B6:∀y,y<i*4->iF[y]?=arr[off+y]?:=by
  intro y bl;rw[B5,ht,br (by simp[size_zeroCells];omega),ht,br (by simp;omega)];simp only[l8];rw[holds,hh,br bl,gQ,iC]
 obtain⟨mY,wz⟩:∃mY,mY=w.drew.alloc (.cells iF 141):=⟨_,rfl⟩
 have FY:mY.heap[w.heap.size]?=some (.cells iF 141 (0,0)):=by rw[wz];exact mC w.drew _
 have uE:b<w.heap.size:=(ik.1 ar).1;have GJ:fK<w.heap.size:=(ik.1 bt).1;have hB:mY.heap[b]?=some (.cells arr tb (0,0)):=by rw[wz,vt w.drew _ uE];exact ar
 have Cq:mY.heap[fK]?=some (.cells m' qZ (0,0)):=by rw[wz,vt w.drew _ GJ];exact bt
 have X5:∀ty,(Builtin.append_ #[48,3] ty #[.slice (some ⟨b,off,none⟩) i cap,.int .i64 ((n:Int)+1-(i:Int))]).run prog w=.ok (.slice (some ⟨w.heap.size,0,none⟩) (n+1) G) mY:=by
  intro ty;cases kt:prog.info? 141 with
  | none=>rw[kt]at di;cases di
  | some i0=>
   rw[kt]at di F5;have aU:i0.size=4:=by simpa using di
   obtain⟨bA,bP⟩:i0.bytes=32/\i0.zero=some (.agg #[.int .i64 0,.int .i64 0,.int .i64 0,.int .i64 0]):=by simpa using F5
   have hold:(Builtin.firstCells i0.size i (.slice (some ⟨b,off,none⟩) i cap)).run prog w.drew=.ok nI.toArray w.drew:=by
    rw[aU];refine run_firstCells_some w.drew 4 i ⟨b,off,none⟩ i cap nI pt (fun j v a6=>?_);rw[Addr.add_lit];rw[holds,hh]at a6;split at a6
    ·rw[gQ,iC]at a6;have dn:w.drew.heap[b]?=some (.cells arr tb (0,0)):=ar;simp[World.cell?,dn,a6]
    cases a6
   have Nx:i+(n+1-i)=n+1:=by omega
   have h:=Lib.run_append_grow_zeros w 48 3 ty 141 i0 _ .i64 .i64 fO NW kt bP (some ⟨b,off,none⟩) i cap nI hold (n+1-i) (by omega) (by omega) (by omega) (by omega) (by rw[bA];omega) (by rw[bA,Nx];exact growslice_fits au (by omega));rw[Nx,<-gC,<-B5,<-wz]at h;rw[show (n:Int)+1-(i:Int)=((n+1-i:Nat):Int) by omega];exact h
 obtain⟨fS,uA⟩:∃fS,fS=laid iF (i*4) x:=⟨_,rfl⟩
 have my:fS.size=iF.size:=by rw[uA];exact tk (by omega)
 obtain⟨jX,pe⟩:∃jX,jX=mY.setRow w.heap.size fS:=⟨_,rfl⟩
 have M9:jX.heap[w.heap.size]?=some (.cells fS 141 (0,0)):=by rw[pe];exact setRow_heap mY _ iF fS _ (0,0) FY
 have fU:jX.heap[b]?=some (.cells arr tb (0,0)):=by rw[pe,setRow_other _ _ b _ (by omega)];exact hB
 have WX:∀ty ko,(Builtin.copy_ #[48,48] ty #[.slice (some ⟨w.heap.size,i*4,none⟩) (n+1-i) ko,.slice (some ⟨fK,gP,none⟩) 1 vc]).run prog mY=.ok (goInt (Nat.min 1 (n+1-i))) jX:=by
  intro ty ko;have uO:Nat.min 1 (n+1-i)=1:=by simp only[Nat.min_def];split<;>omega
  rw[pe,uA];refine Dy mY _ _ ty _ 4 _ (i*4) _ ko iF _ ⟨fK,gP,none⟩ _ vc x fO di FY (by rw[uO,fP]) (fun j v a6=>?_) (by omega) yl;rw[Addr.add_lit];simp[World.cell?,Cq,rL j v a6]
 obtain⟨q8,uD⟩:∃q8,q8=jX.drew.setRow w.heap.size (laid fS ((i+1)*4) mid):=⟨_,rfl⟩
 have WY:∀ty ko jO,(Builtin.copy_ #[48,48] ty #[.slice (some ⟨w.heap.size,(i+1)*4,none⟩) (n-i) ko,.slice (some ⟨b,off+i*4,none⟩) (n-i) jO]).run prog jX.drew=.ok (goInt (Nat.min (n-i) (n-i))) q8:=by
  intro ty ko jO;have uO:Nat.min (n-i) (n-i)=n-i:=Nat.min_self _;rw[uD];refine Dy jX.drew _ _ ty _ 4 _ ((i+1)*4) _ ko fS _ ⟨b,off+i*4,none⟩ _ jO mid fO di M9 (by rw[uO,qm]) (fun j v a6=>?_) (by omega) rA;rw[Addr.add_lit];rw[pr,hh]at a6;split at a6
  ·rw[gQ,iC]at a6;have dn:jX.drew.heap[b]?=some (.cells arr tb (0,0)):=fU;simp[World.cell?,dn,a6]
  cases a6
 have X:Aside (q8=(((w.drew.alloc (.cells iF 141)).setRow w.heap.size fS).drew).setRow w.heap.size (laid fS ((i+1)*4) mid)):=by rw[uD,pe,wz];trivial
 have Y:Aside (n+1<=G/\iF.size=G*4/\∀y,y<i*4->iF[y]?=arr[off+y]?):=⟨yy,B7,B6⟩
 have qo:¬((i:Int)=(n:Int)):=by omega
 have Yr:(cap:Int)<(n:Int)+1:=by omega
 have Yl:IntKind.i64.wrap ((i:Int)+1)=(i:Int)+1:=by rw[IntKind.wrap_i64];omega
 have Ym:IntKind.i64.wrap ((n:Int)+1)=(n:Int)+1:=by rw[IntKind.wrap_i64];omega
 have aut:IntKind.i64.wrap ((n:Int)+1-(i:Int))=(n:Int)+1-(i:Int):=by rw[IntKind.wrap_i64];omega
 have at3:(0:Int)<=(i:Int)+1:=by omega
 have nr:i<=n:=by omega
 have Ya:((i:Int)+1).toNat=i+1:=by omega
 have B9:(i:Int)<=(n:Int):=by omega
 have WH:(i:Int)<=(n:Int)+1:=by omega
 have at5:(i:Int)+1<=(n:Int)+1:=by omega
 have at0:¬(G=i):=by omega
 have at1:¬(G=i+1):=by omega
 have at7:¬(cap=i):=by omega
 have auh:i<=G:=by omega
 have aui:i<=cap:=by omega
 have mixed:prog.follows .mixedOrders=true:=by kernel_rfl
 clear pe uD fU ar bt pr qm rA my di fO h1 yl rL fP B6 B7 FY M9 hB Cq wz B5 holds pt NW F5 gC
 go_enter func305,Tryz.ntmps305
 go_wp2_with (first
  | (at_builtin;refine Kp rfl _ _ _ _ rfl _ _ rfl rfl (X5 _) ?_)
  | (at_builtin;refine RH rfl _ _ 48 48 rfl _ _ rfl rfl (WX _ _) ?_))
 go_region_law_o (refine QS rfl _ _ 48 48 rfl _ _ (by simp[Act.eval,Act.put]) (by simp[Act.eval,Act.put]) (WY _ _ _) ?_)
 go_wp2
 go_ret
 exact⟨G,iF,Y.1,Y.2.1,Y.2.2,rfl,by rw[<-uA];exact X⟩
variable{b:Nat}
theorem Ak{aN:World}{off cap:Nat}{arr:Array Value}{tb:TypeId}{es:List (List Value)}(aA:Row w b off 4 cap arr tb es){x:List Value}{i:Nat}(hi:i<=es.length)(fP:x.length=4)(pA:∀v∈x,v.oneCell'=true)
  {cW o k':Nat} {A:Array Value} {ty:TypeId} (bJ:aN.heap[cW]?=some (.cells A ty (0,0))) (ai:es.length+1<=k') (dO:o+k'*4<=A.size)
  (yx:∀p,p<i*4->A[o+p]?=arr[off+p]?) (wy:∀p,p<4->A[o+i*4+p]?=x[p]?) (hC:∀p,p<(es.length-i)*4->A[o+(i+1)*4+p]?=arr[off+i*4+p]?):
  Row aN cW o 4 k' A ty (es.take i++x::es.drop i):=by
 have al:(es.take i++x::es.drop i).length=es.length+1:=by simp;omega
 have yZ:(es.take i).length=i:=by simp;omega
 refine⟨bJ,by rw[al];exact ai,dO,?_,?_,?_⟩
 ·intro e he;rcases lB.1 he with h | h
  ·exact aA.len e (xV h)
  rcases eu.1 h with rfl | h
  ·exact fP
  exact aA.len e (Bq h)
 ·intro e he;rcases lB.1 he with h | h
  ·exact aA.one e (xV h)
  rcases eu.1 h with rfl | h
  ·exact pA
  exact aA.one e (Bq h)
 intro k j e v hk a6;have yJ:=(eh.1 hk).1;rw[al]at yJ;by_cases h1:k<i
 ·rw[xU (by omega),hh,br h1]at hk;have jD:j<4:=by
   have:=(eh.1 a6).1;have:=aA.len e (fl hk);omega
  rw[v8,yx _ (by omega),<-v8];exact aA.cell k j e v hk a6
 rw[vV (by omega),yZ]at hk;by_cases U:k=i
 ·subst U;rw[Nat.sub_self,jS,aR]at hk;subst hk;have jD:=(eh.1 a6).1;rw[wy j (by omega)];exact a6
 obtain⟨m,rfl⟩:∃m,k=i+1+m:=⟨k-(i+1),by omega⟩
 rw[show i+1+m-i=m+1 by omega,mR,gQ]at hk;have jD:j<4:=by
  have:=(eh.1 a6).1;have:=aA.len e (fl hk);omega
 have:=aA.cell (i+m) j e v hk a6;rw[<-this,show o+(i+1+m)*4+j=o+(i+1)*4+(m*4+j) by omega,hC _ (by omega)]
 congr 1
 omega
theorem apo{off cap:Nat}{arr:Array Value}{tb:TypeId}{es:List (List Value)}(aA:Row w b off 4 cap arr tb es):∀x v,off<=x->x<off+es.length*4->arr[x]?=some v->v.oneCell'=true:=by
 intro x v pA jf bt;have bz:(x-off) / 4<es.length:=by omega
 have he:=gU bz;have hlen:=aA.len _ (q3 bz);have h6:(x-off) % 4<(es[(x-off) / 4]).length:=by omega
 have:=aA.cell _ _ _ _ he (gU h6);rw[show off+(x-off) / 4*4+(x-off) % 4=x by omega,bt]at this;rw[eN this];exact aA.one _ (q3 bz) _ (q3 h6)
variable{own:Nat->Prop}
theorem apq(ar:own b)(fS:Array Value):ug ⟨w,own,fun _=>(0,undef)⟩ (w.setRow b fS):=by
 refine⟨rfl,rfl,rfl,by simp,fun k hk au=>?_,fun _=>fk _⟩;have:k≠b:=fun e=>au (by rw[e];exact ar)
 rw[setRow_other _ b k _ this]
theorem QT{o:Obj}:ug ⟨w,own,fun _=>(0,undef)⟩ (w.drew.alloc o):=by
 refine⟨rfl,rfl,rfl,by simp[World.alloc],fun k hk _=>?_,fun _=>?_⟩
 ·rw[vt w.drew o hk];rfl
 show w.drawn<=w.drawn+1;omega
theorem apr{o:Obj}{fS Fc:Array Value}:ug ⟨w,own,fun _=>(0,undef)⟩ ((((w.drew.alloc o).setRow w.heap.size fS).drew).setRow w.heap.size Fc):=by
 refine⟨rfl,rfl,rfl,by simp[World.alloc],fun k hk _=>?_,fun _=>?_⟩
 ·rw[setRow_other _ _ k _ (by simp only at hk;omega)];show ((w.drew.alloc o).setRow w.heap.size fS).heap[k]?=w.heap[k]?;rw[setRow_other _ _ k _ (by simp only at hk;omega),vt w.drew o hk];rfl
 show w.drawn<=w.drawn+1+1;omega
theorem aps:∃i0,prog.info? 141=some i0/\i0.size=4/\i0.bytes=32/\i0.zero=some (.agg #[.int .i64 0,.int .i64 0,.int .i64 0,.int .i64 0]):=by
 have di:(prog.info? 141).map (fun x=>(x.size,x.bytes,x.zero))=some (4,32,some (.agg #[.int .i64 0,.int .i64 0,.int .i64 0,.int .i64 0])):=by kernel_rfl
 cases h:prog.info? 141 with
 | none=>rw[h]at di;cases di
 | some i0=>
  rw[h]at di;simp only[l',aR,bx]at di;exact⟨i0,rfl,di.1,di.2.1,di.2.2⟩
theorem apt(es:List (List Value))(x:List Value)(i:Nat)(hi:i<=es.length)(al:es.length<=8388608):kI prog 305 [.one (.e9 4 (gb es) none),.one (.ro (I i)),.one (.e9 4 (gb [x]) none)] [.one (.J 4 (gb (es.take i++x::es.drop i)))]:=by
 rintro w vs ω ⟨au,aW,ah⟩ pz;obtain⟨y,bl,kO⟩:=ah 0 _ rfl;obtain⟨n0,fG,Yf⟩:=ah 1 _ rfl;obtain⟨z,bf,qo⟩:=ah 2 _ rfl;have e1:n0=.int .i64 i:=bV.Wm Yf;subst e1;have rJ:=V2 aW bl fG bf;subst rJ;have fO:prog.underlying 48=some (.slice 141):=by kernel_rfl
 obtain⟨i0,kt,aU,bA,bP⟩:=aps;rcases au.row qo with⟨h,_⟩ | ⟨fK,gP,vc,m',qZ,N',rfl,uT⟩
 ·cases h
 have fP:x.length=4:=uT.len x (by simp);have pA:∀v∈x,v.oneCell'=true:=uT.one x (by simp);have rL:∀j v,x[j]?=some v->m'[gP+j]?=some v:=fun j v a6=>by simpa using uT.cell 0 j x v rfl a6
 have Cs:∀j v,x[j]?=some v->w.cell? ((⟨fK,gP,none⟩:Addr).add j)=some v:=fun j v a6=>by
  rw[Addr.add_lit];simp[World.cell?,uT.heap,rL j v a6]
 have fin:∀{e:Ending} {aN:World},(∃v,e=.returned v/\Fh w aN (fun b=>ω b≠.bB) 4 (es.take i++x::es.drop i) v)->∃v,e=.returned v/\gj ⟨w,fun b=>ω b≠.bB,fun _=>(0,undef)⟩ aN/\
   ∃a1:Own,(∀b,b<w.heap.size->ω b=.bB->a1 b=.bB)/\(∀b,a1 b≠.bB->(∃t q,a1 b=.tok t q)/\∃arr ty,aN.heap[b]?=some (.cells arr ty (0,0)))/\Kept aN a1 [.one (.e9 4 (gb es) none),.one (.ro (I i)),.one (.e9 4 (gb [x]) none)] #[y,.int .i64 i,.slice (some ⟨fK,gP,none⟩) [x].length vc]/\l3 aN a1 [.one (.J 4 (gb (es.take i++x::es.drop i)))] v:=by
  rintro e aN ⟨v,he,cw⟩;obtain⟨a1,U,aw,aH⟩:=cw.res;refine⟨v,he,cw.V4.full pz,a1,U,aw,akT ?_,aH⟩;intro fm kh et k dE cr lb ai
  match fm with
  | 0=>simp at lb;subst lb;simp only[GA.cell]at ai;split at ai<;>simp at ai
  | 1=>simp at lb;subst lb;simp only[GA.cell]at ai;split at ai<;>simp at ai
  | 2=>simp at lb;subst lb;simp only[GA.cell]at ai;split at ai<;>simp at ai
  | _+3=>simp at lb
 rcases au.row kO with⟨rfl,a,rfl⟩ | ⟨b,off,cap,arr,tb,c8,rfl,aA⟩
 ·-- no element
  have Xl:i=0:=by simpa using hi
  subst Xl;obtain⟨G,gC⟩:∃G,G=grownCap w 1 0 141:=⟨_,rfl⟩
  have yy:1<=G:=by rw[gC];exact grownCap_ge w _ _ _
  have eQ:∀ty,(Builtin.append_ #[48,48] ty #[.slice a 0 0,.slice (some ⟨fK,gP,none⟩) 1 vc]).run prog w=.ok (.slice (some ⟨w.heap.size,0,none⟩) 1 G) (w.drew.alloc (.cells (x.toArray++Builtin.zeroCells (Value.agg #[.int .i64 0,.int .i64 0,.int .i64 0,.int .i64 0]).cells (G-1)) 141)):=by
   intro ty;cases a with
   | none=>
    have:=run_append_nil (P:=prog) w 48 ty 141 i0 _ fO kt bP ⟨fK,gP,none⟩ 1 vc x (by rw[aU,fP]) Cs (by omega) (by omega) (by rw[bA];omega);rw[<-gC]at this;exact this
   | some cg=>
    have:=run_append_grow (P:=prog) w 48 ty 141 i0 _ fO kt bP cg 0 0 [] (by simp) (fun j v bt=>by simp at bt) ⟨fK,gP,none⟩ 1 vc x (by rw[aU,fP]) Cs (by omega) (by omega) (growslice_fits (by omega) (by rw[bA];omega));simp only[dg,<-gC]at this;simpa using this
  refine (Kq a 0 0 fK gP vc w _ _ (fk _) eQ).mono ?_;rintro e aN ⟨rfl,rfl⟩;have asK:Row w fK 0 4 0 m' qZ []:=⟨uT.heap,fk _,by omega,by simp,by simp,by simp⟩
  refine fin ⟨_,rfl,QT,.inr ⟨w.heap.size,0,G,_,_,.inr (fk _),rfl,Ak asK (fk _) fP pA (mC w.drew _) yy ?_ ?_ ?_ ?_⟩⟩
  ·simp only[p8,kG,size_zeroCells,fP];show 0+G*4<=4+(G-1)*4;omega
  ·intro p hp;simp at hp
  ·intro p hp;rw[ht,br (by simp;omega)];simp
  intro p hp;simp at hp
 have cB:fK≠b:=by
  rintro rfl;rw[c8]at N';simp only[cV.tok.injEq,ff]at N';omega
 have mx:ω b≠.bB:=by rw[c8];simp
 have px:=aA.room;have dO:=aA.fit;have h1:=apo aA;rcases n4 i es.length with bz | lN
 ·rcases n4 cap (es.length+1) with fE | fE
  ·-- in V6,no room
   refine (apn b off es.length cap i fK gP vc arr tb m' qZ x w aA.heap uT.heap bz px fE dO fP rL pA h1 (by omega)).mono ?_;rintro e aN ⟨G,iF,gC,B7,B6,rfl,rfl⟩;have jE:i*4+x.length<=iF.size:=by omega
   have my:=tk jE;have qm:((arr.toList.drop (off+i*4)).take ((es.length-i)*4)).length=(es.length-i)*4:=by simp;omega
   have cZ:(i+1)*4+((arr.toList.drop (off+i*4)).take ((es.length-i)*4)).length<=(laid iF (i*4) x).size:=by omega
   refine fin ⟨_,rfl,apr,.inr ⟨w.heap.size,0,G,_,_,.inr (fk _),by simp;omega,Ak aA hi fP pA (setRow_heap _ _ _ _ _ (0,0) (setRow_heap (w.drew.alloc _) _ _ _ _ (0,0) (mC w.drew _))) gC ?_ ?_ ?_ ?_⟩⟩
   ·rw[tk cZ,my,B7];omega
   ·intro p hp;rw[dg,mG cZ,bh (by omega),mG jE,bh (by omega)];exact B6 p hp
   ·intro p hp;rw[dg,mG cZ,bh (by omega),mG jE,br (by omega)];rw[show i*4+p-i*4=p by omega]
   intro p hp;rw[dg,mG cZ,br (by omega),hh,br (by omega),gQ,iC];rw[show (i+1)*4+p-(i+1)*4=p by omega]
  -- in V6,there is room
  refine (apm b off es.length cap i fK gP vc arr tb m' qZ x w aA.heap uT.heap cB bz fE dO fP rL pA h1 (by omega)).mono ?_;rintro e aN ⟨rfl,rfl⟩;have qm:((arr.toList.drop (off+i*4)).take ((es.length-i)*4)).length=(es.length-i)*4:=by simp;omega
  have jE:off+(i+1)*4+((arr.toList.drop (off+i*4)).take ((es.length-i)*4)).length<=arr.size:=by omega
  have my:=tk jE;have cZ:off+i*4+x.length<=(laid arr (off+(i+1)*4) ((arr.toList.drop (off+i*4)).take ((es.length-i)*4))).size:=by omega
  refine fin ⟨_,rfl,akU mx _ _,.inr ⟨b,off,cap,_,tb,.inl mx,by simp;omega,Ak aA hi fP pA (setRow_heap _ _ _ _ _ (0,0) (setRow_heap w.drew b arr _ tb (0,0) aA.heap)) fE ?_ ?_ ?_ ?_⟩⟩
  ·rw[tk cZ,my];exact dO
  ·intro p hp;rw[mG cZ,bh (by omega),mG jE,bh (by omega)]
  ·intro p hp;rw[mG cZ,br (by omega)];rw[show off+i*4+p-(off+i*4)=p by omega]
  intro p hp;rw[mG cZ,bh (by omega),mG jE,br (by omega),hh,br (by omega),gQ,iC];rw[show off+(i+1)*4+p-(off+(i+1)*4)=p by omega]
 have Xn:i=es.length:=by omega
 subst Xn;rcases n4 cap (es.length+1) with fE | fE
 ·-- at Uf end,no room
  obtain⟨nI,holds⟩:∃nI,nI=(arr.toList.drop off).take (es.length*4):=⟨_,rfl⟩
  have pt:nI.length=es.length*4:=by rw[holds];simp;omega
  obtain⟨G,gC⟩:∃G,G=grownCap w (es.length+1) cap 141:=⟨_,rfl⟩
  have yy:es.length+1<=G:=by rw[gC];exact grownCap_ge w _ _ _
  have eQ:∀ty,(Builtin.append_ #[48,48] ty #[.slice (some ⟨b,off,none⟩) es.length cap,.slice (some ⟨fK,gP,none⟩) 1 vc]).run prog w=.ok (.slice (some ⟨w.heap.size,0,none⟩) (es.length+1) G) (w.drew.alloc (.cells (nI.toArray++x.toArray++Builtin.zeroCells (Value.agg #[.int .i64 0,.int .i64 0,.int .i64 0,.int .i64 0]).cells (G-(es.length+1))) 141)):=by
   intro ty;have:=run_append_grow (P:=prog) w 48 ty 141 i0 _ fO kt bP ⟨b,off,none⟩ es.length cap nI (by rw[aU,pt]) (fun j v a6=>by
    rw[holds,hh]at a6;split at a6
    ·rw[gQ,iC]at a6;rw[Addr.add_lit];simp[World.cell?,aA.heap,a6]
    cases a6) ⟨fK,gP,none⟩ 1 vc x (by rw[aU,fP]) Cs (by omega) (by omega) (growslice_fits (by omega) (by rw[bA];omega))
   rw[<-gC]at this;exact this
  refine (Kq (some ⟨b,off,none⟩) es.length cap fK gP vc w _ _ px eQ).mono ?_;rintro e aN ⟨rfl,rfl⟩;refine fin ⟨_,rfl,QT,.inr ⟨w.heap.size,0,G,_,_,.inr (fk _),by simp,Ak aA hi fP pA (mC w.drew _) yy ?_ ?_ ?_ ?_⟩⟩
  ·simp only[p8,kG,size_zeroCells,fP,pt];show 0+G*4<=es.length*4+4+(G-(es.length+1))*4;omega
  ·intro p hp;rw[dg,ht,br (by simp[pt];omega),ht,br (by simp[pt];omega)];simp only[l8];rw[holds,hh,br hp,gQ,iC]
  ·intro p hp;rw[dg,ht,br (by simp[pt];omega),ht,bh (by simp[pt])];simp only[l8,kG,pt];rw[show es.length*4+p-es.length*4=p by omega]
  intro p hp;simp at hp
 -- at Uf end,there is room
 have eQ:∀ty,(Builtin.append_ #[48,48] ty #[.slice (some ⟨b,off,none⟩) es.length cap,.slice (some ⟨fK,gP,none⟩) 1 vc]).run prog w=.ok (.slice (some ⟨b,off,none⟩) (es.length+1) cap) (w.setRow b (laid arr (off+es.length*4) x)):=by
  intro ty;have:=It (P:=prog) (t:=48) (ty:=ty) fO kt w b off es.length cap arr tb aA.heap ⟨fK,gP,none⟩ 1 vc x (by rw[aU,fP]) Cs pA fE (by rw[aU,fP];omega);rw[aU]at this;exact this
 refine (Kq (some ⟨b,off,none⟩) es.length cap fK gP vc w _ _ px eQ).mono ?_;rintro e aN ⟨rfl,rfl⟩;have jE:off+es.length*4+x.length<=arr.size:=by omega
 refine fin ⟨_,rfl,apq mx _,.inr ⟨b,off,cap,_,tb,.inl mx,by simp,Ak aA hi fP pA (setRow_heap _ _ _ _ _ (0,0) aA.heap) fE ?_ ?_ ?_ ?_⟩⟩
 ·rw[tk jE];exact dO
 ·intro p hp;rw[mG jE,bh (by omega)]
 ·intro p hp;rw[mG jE,br (by omega)];rw[show off+es.length*4+p-(off+es.length*4)=p by omega]
 intro p hp;simp at hp
theorem Cell.BW(xs:List Cell):xs.map Cell.e=gb (xs.map fun r=>r.e.map D.AO):=by
 simp only[gb,List.map_map];rfl
theorem apu(xs:List Cell)(x:Cell)(i:Nat)(hi:i<=xs.length)(al:xs.length<=8388608):kI prog 305 [.one (.e9 4 (xs.map Cell.e) none),.one (.ro (I i)),.one (.e9 4 [x.e] none)] [.one (.J 4 ((xs.take i++x::xs.drop i).map Cell.e))]:=by
 have:=apt (xs.map fun r=>r.e.map D.AO) (x.e.map D.AO) i (by simpa using hi) (by simpa using al);rw[Cell.BW,Cell.BW];simp only[hx,k4,q6,List.map_drop]at this ⊢;exact this
end Go.Proofs.YtdchjefneblpgaaGreat
namespace Go.Proofs.YtdchjefneblpgaaGreat
open Go.Sx Go.RowKit Go.Proofs.Tryz
def nS(xs:List Cell)(x:Cell):Bool:=xs.any fun a=>decide (a=x)
def lp(xs:List Cell)(x:Cell):Nat:=(xs.findIdx? fun a=>!decide (hR a x<0)).getD xs.length
def j4(xs:List Cell)(x:Cell):List Cell:=if nS xs x then xs else xs.take (lp xs x)++x::xs.drop (lp xs x)
theorem Kr(xs:List Cell)(x:Cell):lp xs x<=xs.length:=by
 unfold lp;cases h:xs.findIdx? (fun a=>!decide (hR a x<0)) with
 | none=>simp
 | some i=>
  rw[tZ]at h;have:=h.1;simp;omega
theorem QU(xs:List Cell)(x:Cell):(j4 xs x).length<=xs.length+1:=by
 unfold j4;split
 ·omega
 have:=Kr xs x;simp;omega
theorem QV(xs:List Cell)(x:Cell)(al:xs.length<=8388608):av 306 [.one (.J 4 (xs.map Cell.e)),.agg x.e] [.one (B (nS xs x))]:=by
 have l:=gN (P:=prog) (c:=(aq f306 0)) xs (fun a=>decide (a=x)) (fun i=>u9 (xs.map Cell.e) x.op x.bc x.key x.val i) (X:=fun _ _=>Km true) fg (cM 0)
  (fun i a ah h=>anN ⟨b' (a8 ah),bF,bI (a8 ah),bG Cell.e ah,(Ko a x).trans h,df (a8 ah) al,aa⟩)
  (fun i a ah h=>anM ⟨b' (a8 ah),bF,bI (a8 ah),bG Cell.e ah,(Ko a x).trans h,aa⟩)
  (anO ⟨dG,aa⟩)
 unfold nS;rcases l with⟨_,_,h1,U⟩ | ⟨i,a,_,_,_,_,h1,U⟩
 ·rw[h1];exact anQ ⟨U,aa⟩
 rw[h1];exact anP ⟨U,aa⟩
theorem QW(xs:List Cell)(x:Cell)(r:Bool)(h:nS xs x=r)(al:xs.length<=8388608):av 306 [.one (.J 4 (xs.map Cell.e)),.agg x.e] [.one (B r)]:=h▸QV xs x al
def Ct(xs:List Cell)(x:Cell):Int:=match xs.findIdx? (fun a=>decide (a=x)) with | some i=>i | none=>-1
theorem apv(xs:List Cell)(x:Cell):decide (Ct xs x>=0)=nS xs x:=by
 unfold Ct nS;cases h:xs.findIdx? (fun a=>decide (a=x)) with
 | none=>
  have:xs.any (fun a=>decide (a=x))=false:=by
   rw[hj];rw[Bs]at h;exact fun a ah=>by simpa using h a ah
  rw[this];rfl
 | some i=>
  rw[tZ]at h;obtain⟨hi,U,_⟩:=h;have:xs.any (fun a=>decide (a=x))=true:=oX.2 ⟨_,q3 hi,U⟩;rw[this];simp
theorem apw(xs:List Cell)(x:Cell)(al:xs.length<=8388608):av 365 [.one (.J 4 (xs.map Cell.e)),.agg x.e] [.one (I (Ct xs x))]:=by
 have l:=gN (P:=prog) (c:=(aq f365 0)) xs (fun a=>decide (a=x)) (fun i=>u5 (xs.map Cell.e) x.op x.bc x.key x.val i) (X:=fun i _=>Kj i) fg (cM 0)
  (fun i a ah h=>amz ⟨b' (a8 ah),bF,bI (a8 ah),bG Cell.e ah,(RA a x).trans h,df (a8 ah) al,aa⟩)
  (fun i a ah h=>am8 ⟨b' (a8 ah),bF,bI (a8 ah),bG Cell.e ah,(RA a x).trans h,aa⟩)
  (amA ⟨dG,aa⟩)
 unfold Ct;rcases l with⟨_,h1,_,U⟩ | ⟨i,a,_,_,_,h1,_,U⟩
 ·simp only[h1];exact amC ⟨U,aa⟩
 simp only[h1];exact amB ⟨U,aa⟩
theorem QX(xs:List Cell)(x:Cell)(al:xs.length<=8388608):av 303 [.one (.J 4 (xs.map Cell.e)),.agg x.e] [.one (B (nS xs x))]:=by
 rw[<-apv];exact am5 ⟨am7 ⟨apw xs x al,aa⟩,aa⟩
theorem QY(xs:List Cell)(x:Cell)(r:Bool)(h:nS xs x=r)(al:xs.length<=8388608):av 303 [.one (.J 4 (xs.map Cell.e)),.agg x.e] [.one (B r)]:=h▸QX xs x al
theorem tB(xs:List Cell)(al:xs.length<=8388608):av 297 [.one (.J 4 (xs.map Cell.e))] [.one (.J 4 (xs.map Cell.e))]:=
 am4 ⟨by simp;omega,by simp;omega,cf _ Cell.flat _,aa⟩
theorem Al(xs:List Cell)(x:Cell)(al:xs.length<=8388608):av 238 [.one (.J 4 (xs.map Cell.e)),.agg x.e] [.one (.J 4 ((j4 xs x).map Cell.e))]:=by
 unfold j4;cases h:nS xs x with
 | true=>
  rw[br rfl];exact anR ⟨QW xs x true h al,rfl,by simp;omega,by simp;omega,cf _ Cell.flat _,aa⟩
 | false=>
  rw[bh (by simp)];have l:c3 prog (aq f238 0) (u' (xs.map Cell.e) x.op x.bc x.key x.val 0) (hl.exit 0) (Aj (xs.map Cell.e) x.op x.bc x.key x.val (lp xs x)):=by
   have l:=gN (P:=prog) (c:=(aq f238 0)) xs (fun a=>!decide (hR a x<0)) (fun i=>u' (xs.map Cell.e) x.op x.bc x.key x.val i) (X:=fun i _=>Aj (xs.map Cell.e) x.op x.bc x.key x.val i) (cM 0) (cM 0)
    (fun i a ah h=>anS ⟨b' (a8 ah),bF,bI (a8 ah),bG Cell.e ah,Dm a x,by simpa using h,df (a8 ah) al,aa⟩)
    (fun i a ah h=>anT ⟨b' (a8 ah),bF,bI (a8 ah),bG Cell.e ah,Dm a x,by simpa using h,aa⟩)
    (anU ⟨dG,aa⟩)
   unfold lp;rcases l with⟨_,h1,_,U⟩ | ⟨i,a,_,_,_,h1,_,U⟩
   ·rw[h1];exact U
   rw[h1];exact U
  have hp:=Kr xs x;generalize lp xs x=p at*;refine apd (anV ⟨QW xs x false h al,rfl,l,by simp,by simp,by simp;omega,by simp;omega,by simp;omega,?_,by simp;omega,by simp;omega,dL x.flat,by simp,by simp;omega,by simp,by simp;omega,by simp;omega,?_,aa⟩) ?_
  ·simp only[ij,oR,Nat.sub_zero,v7,<-q6];exact cf _ Cell.flat _
  ·simp only[ij,oR,<-q6,<-List.map_drop];exact cf _ Cell.flat _
  simp only[ij,oR,Nat.sub_zero,v7,List.nil_append,<-q6,<-List.map_drop,hx,k4,t']
  congr 1
  rw[vX (by simp)];rfl
theorem QZ(xs:List Cell)(x:Cell)(al:xs.length<=8388608):av 237 [.one (.J 4 (xs.map Cell.e)),.agg x.e] [.one (.J 4 ((j4 xs x).map Cell.e))]:=by
 have c:=tB xs al;unfold j4;cases h:nS xs x with
 | true=>
  rw[br rfl];exact amD ⟨c,QY xs x true h al,rfl,aa⟩
 | false=>
  rw[bh (by simp)];have l:c3 prog (aq f237 0) (u6 (xs.map Cell.e) x.op x.bc x.key x.val (xs.map Cell.e) 0) (hl.exit 0) (Ai x.op x.bc x.key x.val (xs.map Cell.e) (lp xs x)):=by
   have l:=gN (P:=prog) (c:=(aq f237 0)) xs (fun a=>!decide (hR a x<0)) (fun i=>u6 (xs.map Cell.e) x.op x.bc x.key x.val (xs.map Cell.e) i) (X:=fun i _=>Ai x.op x.bc x.key x.val (xs.map Cell.e) i) (cM 0) (cM 0)
    (fun i a ah h=>amE ⟨b' (a8 ah),bF,bI (a8 ah),bG Cell.e ah,Dl a x,by simpa using h,df (a8 ah) al,aa⟩)
    (fun i a ah h=>amF ⟨b' (a8 ah),bF,bI (a8 ah),bG Cell.e ah,Dl a x,by simpa using h,aa⟩)
    (amG ⟨dG,aa⟩)
   unfold lp;rcases l with⟨_,h1,_,U⟩ | ⟨i,a,_,_,_,h1,_,U⟩
   ·rw[h1];exact U
   rw[h1];exact U
  exact amH ⟨c,QY xs x false h al,rfl,l,apu xs x (lp xs x) (Kr xs x) al,aa⟩
end Go.Proofs.YtdchjefneblpgaaGreat
namespace Go.Proofs.YtdchjefneblpgaaGreat
open Go.Sx Go.RowKit Go.Proofs.Tryz
def fW(g:bX)(op:Int):Option Node:=if 0<=op then g.nodes[op.toNat]? else none
variable{g:bX}{a:Int}{w:Node}
theorem Dn(h:fW g a=some w):0<=a/\a<(↑(g.nodes.map Node.e).length:Int)/\(g.nodes.map Node.e)[a.toNat]?=some w.e/\ap a 0 (↑(g.nodes.map Node.e).length-1)=true:=by
 unfold fW at h;split at h
 ·have:=(eh.1 h).1;refine⟨‹_›,by simp;omega,by simp[h],?_⟩;simp only[ap,bk,cU];omega
 cases h
theorem Q0(h:fW g a=none):ap a 0 (↑(g.nodes.map Node.e).length-1)=false:=by
 unfold fW at h;simp only[ap,bk,mU];split at h
 ·rw[List.getElem?_eq_none_iff]at h;omega
 omega
theorem Ks(h:fW g a=some w):w∈g.nodes:=by
 unfold fW at h;split at h
 ·exact fl h
 cases h
theorem bX.YH(h:g.sz<=8388608):g.nodes.length<=8388608:=by simp only[bX.sz,fb]at h;omega
theorem bX.zk(h:g.sz<=8388608)(hw:w∈g.nodes):w.outs.length<=8388608:=by
 have:=C6 (sz:=Node.sz) hw;simp only[bX.sz,fb]at h;have aU:w.outs.length<=w.sz:=by simp only[Node.sz];omega
 omega
theorem Dp(h:g.sz<=8388608):ay .i64 ((↑(g.nodes.map Node.e).length:Int)-1):=by
 have:=bX.YH h;exact⟨by simp;omega,by simp;omega⟩
theorem apx(g:bX)(op:Int)(au:g.sz<=8388608):av 250 [.agg g.e,.one (I op)] [.one (B (fW g op).isSome)]:=by
 cases h:fW g op with
 | none=>exact Rv ⟨Dp au,ix _ (Q0 h),aa⟩
 | some w=>exact Rv ⟨Dp au,ix _ (Dn h).2.2.2,aa⟩
theorem xz(g:bX)(op:Int)(r:Bool)(h:(fW g op).isSome=r)(au:g.sz<=8388608):av 250 [.agg g.e,.one (I op)] [.one (B r)]:=h▸apx g op au
def tC(g:bX)(op:Int):Node×Bool:=match fW g op with | some n=>(n,true) | none=>(⟨0,0,0,[]⟩,false)
theorem apy(n:Int):∀d∈a' n,∃x,d=.v x:=by
 intro d aD;simp only[a',eu,mT,or_false]at aD;subst aD;exact⟨_,rfl⟩
theorem apz(g:bX)(op:Int)(au:g.sz<=8388608):av 249 [.agg g.e,.one (I op)] [.agg (tC g op).1.e,.one (B (tC g op).2)]:=by
 unfold tC;cases h:fW g op with
 | none=>exact anW ⟨Dp au,fz _ (Q0 h),rfl,aa⟩
 | some w=>
  obtain⟨h1,U,aw,aH⟩:=Dn h;have aZ:=bX.zk au (Ks h);exact anX ⟨Dp au,fz _ aH,rfl,h1,U,aw,by simp;omega,by simp;omega,cf _ apy _,aa⟩
theorem Dq(g:bX)(op:Int)(r:Node×Bool)(h:tC g op=r)(au:g.sz<=8388608):av 249 [.agg g.e,.one (I op)] [.agg r.1.e,.one (B r.2)]:=h▸apz g op au
