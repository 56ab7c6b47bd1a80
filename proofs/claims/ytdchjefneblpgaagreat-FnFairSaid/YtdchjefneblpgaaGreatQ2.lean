import Derived.WalkKit
import Derived.Deep.RegionLaw
import Derived.Shelf.RegionOpenPlain
import Derived.Lib.SliceRun
import Derived.Lib.JoinLaws
import Derived.Lib.Overlaps
import Derived.Lib.AppendZerosOnto
import Derived.Laws.Externs
import Derived.Deep.LoopGhost
import Derived.Lib.Walk
import Derived.Test.YtdchjefneblpgaaGreatC0
set_option linter.unusedVariables false
set_option linter.unusedSimpArgs false
namespace Go.Proofs.YtdchjefneblpgaaGreat
open Go.Sx Go.RowKit Go.Shelf Go.Lib Go.Proofs.Tryz
variable{P:Program}{w:World}{ops:Array Oper}{o:Oper}{a:Act}{Q:Exit->Act->World->Prop}
theorem Uk{rest:List Oper}(JS:o.guard=none)(d s:Operand)(t du:TypeId)
  (a7:o.op=.call { callee:=.builtin .copy,args:=#[d,s],argTypes:=#[t,du] }) (v u:Value) (aE:a.eval d=v) (ao:a.eval s=u) {kR:Value} {aP:World}
  (aD:(Builtin.copy_ #[t,du] o.type #[v,u]).run P w=.ok kR aP) (h:wpList P ops Q rest (a.put o.dst kR) aP):wpList P ops Q (o::rest) a w:=
 wpList_plain JS fun _ ig=>by
  unfold Oper.wp execOp;simp only[a7,resolve,invoke,builtin,Sem.run_bind,Sem.run_pure,Result.andThen_ok,List.map_toArray,lN,List.map_nil,aE,ao,aD];exact ig _ _ h
theorem Ul{K:Act->World->Prop}{E:Prop}
  (ax:o.guard=none) (d x:Operand) (dh bb:TypeId) (re:o.op=Op.call { callee:=Callee.builtin Builtin.copy,args:=#[d,x],argTypes:=#[dh,bb] })
  (v u:Value) (aE:a.eval d=v) (af:a.eval x=u) {kR:Value} {aP:World} (aD:(Builtin.copy_ #[dh,bb] o.type #[v,u]).run P w=.ok kR aP) (ig:K (a.put o.dst kR) aP):
  if Region.wanted o (yielded ops a.tmps)=true then Oper.wp P o a w K Q else E:=by
 have hw:Region.wanted o (yielded ops a.tmps)=true:=by simp[Region.wanted,ax]
 rw[bn hw];unfold Oper.wp;simp[execOp,re,resolve,invoke,builtin,aE,af,aD,Result.andThen];exact ig
theorem NJ{rest:List Oper}(JS:o.guard=none)(d s:Operand)(t du:TypeId)
  (a7:o.op=.call { callee:=.builtin .append,args:=#[d,s],argTypes:=#[t,du] }) (v u:Value) (aE:a.eval d=v) (ao:a.eval s=u) {kR:Value} {aP:World}
  (aD:(Builtin.append_ #[t,du] o.type #[v,u]).run P w=.ok kR aP) (h:wpList P ops Q rest (a.put o.dst kR) aP):wpList P ops Q (o::rest) a w:=
 wpList_plain JS fun _ ig=>by
  unfold Oper.wp execOp;simp only[a7,resolve,invoke,builtin,Sem.run_bind,Sem.run_pure,Result.andThen_ok,List.map_toArray,lN,List.map_nil,aE,ao,aD];exact ig _ _ h
set_option maxHeartbeats 4000000 in
set_option maxRecDepth 1000000 in
theorem NK(base:Option Addr)(n cap gy hS vc:Nat)(w w1:World)(v:Value)(aZ:n<=cap)
  (fN:∀ty,(Builtin.append_ #[48,48] ty #[.slice base n cap,.slice (some ⟨gy,hS,none⟩) 1 vc]).run prog w=.ok v w1):
  Calls prog 305 #[.slice base n cap,.int .i64 n,.slice (some ⟨gy,hS,none⟩) 1 vc] w fun e aP=>e=.returned v/\aP=w1:=by
 have mixed:prog.follows .mixedOrders=true:=by kernel_rfl
 go_enter func305,Tryz.ntmps305
 cases base with
 | none=>
  go_wp2_with (at_builtin;refine NJ rfl _ _ _ _ rfl _ _ rfl rfl (fN _) ?_)
  all_goals (go_ret;exact⟨rfl,rfl⟩)
 | some a=>
  obtain⟨ab,aCb,aCe⟩:=a
  go_wp2_with (at_builtin;refine NJ rfl _ _ _ _ rfl _ _ rfl rfl (fN _) ?_)
  all_goals (go_ret;exact⟨rfl,rfl⟩)
set_option maxHeartbeats 4000000 in
set_option maxRecDepth 1000000 in
theorem aAq(b off n cap i gy hS vc:Nat)(arr:Array Value)(tb:TypeId)(oR:Array Value)(s8:TypeId)(x:List Value)(w:World)(aw:w.heap[b]?=some (.cells arr tb (0,0)))(bI:w.heap[gy]?=some (.cells oR s8 (0,0)))(RP:gy≠b)
  (hi:i<n) (aZ:n+1<=cap) (er:off+cap*4<=arr.size) (gm:x.length=4) (tN:∀j v,x[j]?=some v->oR[hS+j]?=some v) (Bd:∀v∈x,v.oneCell'=true)
  (h1:∀x v,off<=x->x<off+n*4->arr[x]?=some v->v.oneCell'=true) (E3:n<8388609):
  Calls prog 305 #[.slice (some ⟨b,off,none⟩) n cap,.int .i64 i,.slice (some ⟨gy,hS,none⟩) 1 vc] w fun e aP=>e=.returned (.slice (some ⟨b,off,none⟩) (n+1) cap)/\
   aP=(w.drew.setRow b (laid arr (off+(i+1)*4) ((arr.toList.drop (off+i*4)).take ((n-i)*4)))).setRow b (laid (laid arr (off+(i+1)*4) ((arr.toList.drop (off+i*4)).take ((n-i)*4))) (off+i*4) x):=by
 obtain⟨mid,ra⟩:∃mid,mid=(arr.toList.drop (off+i*4)).take ((n-i)*4):=⟨_,rfl⟩
 have sm:mid.length=(n-i)*4:=by rw[ra];simp;omega
 have sk:∀u∈mid,u.oneCell'=true:=by
  intro u hu;obtain⟨y,bD⟩:=pS.1 hu;rw[ra,kb]at bD;split at bD
  ·rw[lJ,mD]at bD;exact h1 _ u (by omega) (by omega) bD
  cases bD
 rw[<-ra];obtain⟨dL,q0⟩:∃dL,dL=laid arr (off+(i+1)*4) mid:=⟨_,rfl⟩
 have mj:dL.size=arr.size:=by rw[q0];exact rE (by omega)
 obtain⟨iG,mO⟩:∃iG,iG=w.drew.setRow b dL:=⟨_,rfl⟩
 have hl:iG.heap[b]?=some (.cells dL tb (0,0)):=by rw[mO];exact setRow_heap w.drew b arr dL tb (0,0) aw
 have tL:iG.heap[gy]?=some (.cells oR s8 (0,0)):=by rw[mO,setRow_other _ b gy _ RP];exact bI
 have dM:(prog.info? 141).map (·.size)=some 4:=by kernel_rfl
 have gK:prog.underlying 48=some (.slice 141):=by kernel_rfl
 have acf:∀ty nx lG,(Builtin.copy_ #[48,48] ty #[.slice (some ⟨b,off+(i+1)*4,none⟩) (n-i) nx,.slice (some ⟨b,off+i*4,none⟩) (n+1-i) lG]).run prog w.drew=.ok (goInt (Nat.min (n+1-i) (n-i))) iG:=by
  intro ty nx lG;have wW:Nat.min (n+1-i) (n-i)=n-i:=by simp only[Nat.min_def];split<;>omega
  rw[mO,q0];refine F1 w.drew _ _ ty _ 4 b (off+(i+1)*4) _ nx arr tb ⟨b,off+i*4,none⟩ _ lG mid gK dM aw (by rw[wW,sm]) (fun j v bk=>?_) (by omega) sk;rw[ra,kb]at bk;split at bk
  ·rw[lJ,mD]at bk;rw[Addr.add_lit];have ey:w.drew.heap[b]?=some (.cells arr tb (0,0)):=aw;simp[World.cell?,ey,bk]
  cases bk
 obtain⟨oP,q2⟩:∃oP,oP=iG.setRow b (laid dL (off+i*4) x):=⟨_,rfl⟩
 have acg:∀ty nx,(Builtin.copy_ #[48,48] ty #[.slice (some ⟨b,off+i*4,none⟩) (n+1-i) nx,.slice (some ⟨gy,hS,none⟩) 1 vc]).run prog iG=.ok (goInt (Nat.min 1 (n+1-i))) oP:=by
  intro ty nx;have wW:Nat.min 1 (n+1-i)=1:=by simp only[Nat.min_def];split<;>omega
  rw[q2];refine F1 iG _ _ ty _ 4 b (off+i*4) _ nx dL tb ⟨gy,hS,none⟩ _ vc x gK dM hl (by rw[wW,gm]) (fun j v bk=>?_) (by omega) Bd;rw[Addr.add_lit];simp[World.cell?,tL,tN j v bk]
 have adf:∀K0 I7,(callFunc 337 #[.slice (some ⟨gy,hS,none⟩) 1 vc,.slice (some ⟨b,off+(i+1)*4,none⟩) K0 I7]).run prog w=.ok (.value (.bool false)) w:=fun K0 I7=>by
  rw[run_callFunc_extern (P:=prog) func337 (by kernel_rfl) (by kernel_rfl) (by kernel_rfl) (e:=Extern.SlicesOverlaps.overlaps #[48,48] #[4]) (by kernel_rfl),
   Lib.run_overlaps_apart w 48 4 141 gK 4 (fun w=>by simp[sizeOf,typeInfo];kernel_rfl) ⟨gy,hS,none⟩ ⟨b,off+(i+1)*4,none⟩ 1 vc K0 I7 RP s8 tb oR.size arr.size (by simp[World.shape?,bI]) (by simp[World.shape?,aw]) (by omega) (by simp[World.frozen?,bI]) (by simp[World.frozen?,bI])]
  rfl
 have X:Aside (oP=(w.drew.setRow b dL).setRow b (laid dL (off+i*4) x)):=by rw[q2,mO];trivial
 have iI:i<=n:=by omega
 have adL:IntKind.i64.wrap ((i:Int)+1)=(i:Int)+1:=by rw[IntKind.wrap_i64];omega
 have adM:IntKind.i64.wrap ((n:Int)+1)=(n:Int)+1:=by rw[IntKind.wrap_i64];omega
 have ih:(0:Int)<=(i:Int)+1:=by omega
 have adB:((i:Int)+1).toNat=i+1:=by omega
 have aDA:((n:Int)+1).toNat=n+1:=by omega
 have h2:¬(cap=i+1):=by omega
 have E2:(i:Int)+1<=(n:Int)+1:=by omega
 have tA:¬(cap=i):=by omega
 have ab3:(i:Int)<=(n:Int)+1:=by omega
 have qh:¬((i:Int)=(n:Int)):=by omega
 have mixed:prog.follows .mixedOrders=true:=by kernel_rfl
 clear mO q2 hl tL aw bI ra sm sk mj dM gK h1 Bd tN gm
 go_enter func305,Tryz.ntmps305
 go_wp2_with (simp only[adf])
 go_region_law_o (refine Ul rfl _ _ 48 48 rfl _ _ (by simp[Act.eval,Act.put]) (by simp[Act.eval,Act.put]) (acf _ _ _) ?_)
 go_wp2_with (at_builtin;refine Uk rfl _ _ 48 48 rfl _ _ rfl rfl (acg _ _) ?_)
 go_ret
 exact⟨rfl,by rw[<-q0];exact X⟩
set_option maxHeartbeats 4000000 in
set_option maxRecDepth 1000000 in
theorem aAr(b off n cap i gy hS vc:Nat)(arr:Array Value)(tb:TypeId)(oR:Array Value)(s8:TypeId)(x:List Value)(w:World)(aw:w.heap[b]?=some (.cells arr tb (0,0)))(bI:w.heap[gy]?=some (.cells oR s8 (0,0)))
  (hi:i<n) (aZ:n<=cap) (ax:cap<n+1) (er:off+cap*4<=arr.size) (gm:x.length=4) (tN:∀j v,x[j]?=some v->oR[hS+j]?=some v) (Bd:∀v∈x,v.oneCell'=true)
  (h1:∀x v,off<=x->x<off+n*4->arr[x]?=some v->v.oneCell'=true) (E3:n<8388609):
  Calls prog 305 #[.slice (some ⟨b,off,none⟩) n cap,.int .i64 i,.slice (some ⟨gy,hS,none⟩) 1 vc] w fun e aP=>∃(G:Nat) (jM:Array Value),n+1<=G/\jM.size=G*4/\(∀y,y<i*4->jM[y]?=arr[off+y]?)/\e=.returned (.slice (some ⟨w.heap.size,0,none⟩) (n+1) G)/\
   aP=(((w.drew.alloc (.cells jM 141)).setRow w.heap.size (laid jM (i*4) x)).drew).setRow w.heap.size (laid (laid jM (i*4) x) ((i+1)*4) ((arr.toList.drop (off+i*4)).take ((n-i)*4))):=by
 obtain⟨mid,ra⟩:∃mid,mid=(arr.toList.drop (off+i*4)).take ((n-i)*4):=⟨_,rfl⟩
 have sm:mid.length=(n-i)*4:=by rw[ra];simp;omega
 have sk:∀u∈mid,u.oneCell'=true:=by
  intro u hu;obtain⟨y,bD⟩:=pS.1 hu;rw[ra,kb]at bD;split at bD
  ·rw[lJ,mD]at bD;exact h1 _ u (by omega) (by omega) bD
  cases bD
 rw[<-ra];have gK:prog.underlying 48=some (.slice 141):=by kernel_rfl
 have RM:prog.underlying 3=some (.int .i64):=by kernel_rfl
 have dM:(prog.info? 141).map (·.size)=some 4:=by kernel_rfl
 have JF:(prog.info? 141).map (fun x=>(x.bytes,x.zero))=some (32,some (.agg #[.int .i64 0,.int .i64 0,.int .i64 0,.int .i64 0])):=by kernel_rfl
 obtain⟨pk,holds⟩:∃pk,pk=(arr.toList.drop off).take (i*4):=⟨_,rfl⟩
 have rb:pk.length=i*4:=by rw[holds];simp;omega
 obtain⟨G,ht⟩:∃G,G=grownCap w (n+1) cap 141:=⟨_,rfl⟩
 have Bq:n+1<=G:=by rw[ht];exact grownCap_ge w _ _ _
 have aCF:G<=9223372036854775807:=by
  have:=grownCap_le_maxLen w (n+1) cap 141 (by unfold maxLen;omega);rw[<-ht]at this;unfold maxLen at this;omega
 obtain⟨jM,EX⟩:∃jM:Array Value,jM=pk.toArray++Builtin.zeroCells (Value.agg #[.int .i64 0,.int .i64 0,.int .i64 0,.int .i64 0]).cells (n+1-i)++Builtin.zeroCells (Value.agg #[.int .i64 0,.int .i64 0,.int .i64 0,.int .i64 0]).cells (G-(n+1)):=⟨_,rfl⟩
 have EZ:jM.size=G*4:=by
  rw[EX];simp only[uH,pP,size_zeroCells,rb];show i*4+(n+1-i)*4+(G-(n+1))*4=G*4;omega
 have EY:∀y,y<i*4->jM[y]?=arr[off+y]?:=by
  intro y bD;rw[EX,kc,bn (by simp[size_zeroCells];omega),kc,bn (by simp;omega)];simp only[pO];rw[holds,kb,bn bD,lJ,mD]
 obtain⟨lR,y3⟩:∃lR,lR=w.drew.alloc (.cells jM 141):=⟨_,rfl⟩
 have Jy:lR.heap[w.heap.size]?=some (.cells jM 141 (0,0)):=by rw[y3];exact ot w.drew _
 have wS:b<w.heap.size:=(kf.1 aw).1;have Kj:gy<w.heap.size:=(kf.1 bI).1;have ih:lR.heap[b]?=some (.cells arr tb (0,0)):=by rw[y3,xl w.drew _ wS];exact aw
 have Fm:lR.heap[gy]?=some (.cells oR s8 (0,0)):=by rw[y3,xl w.drew _ Kj];exact bI
 have ads:∀ty,(Builtin.append_ #[48,3] ty #[.slice (some ⟨b,off,none⟩) i cap,.int .i64 ((n:Int)+1-(i:Int))]).run prog w=.ok (.slice (some ⟨w.heap.size,0,none⟩) (n+1) G) lR:=by
  intro ty;cases lo:prog.info? 141 with
  | none=>rw[lo]at dM;cases dM
  | some i0=>
   rw[lo]at dM JF;have a':i0.size=4:=by simpa using dM
   obtain⟨bu,b1⟩:i0.bytes=32/\i0.zero=some (.agg #[.int .i64 0,.int .i64 0,.int .i64 0,.int .i64 0]):=by simpa using JF
   have hold:(Builtin.firstCells i0.size i (.slice (some ⟨b,off,none⟩) i cap)).run prog w.drew=.ok pk.toArray w.drew:=by
    rw[a'];refine run_firstCells_some w.drew 4 i ⟨b,off,none⟩ i cap pk rb (fun j v bk=>?_);rw[Addr.add_lit];rw[holds,kb]at bk;split at bk
    ·rw[lJ,mD]at bk;have ey:w.drew.heap[b]?=some (.cells arr tb (0,0)):=aw;simp[World.cell?,ey,bk]
    cases bk
   have Rn:i+(n+1-i)=n+1:=by omega
   have h:=Lib.run_append_grow_zeros w 48 3 ty 141 i0 _ .i64 .i64 gK RM lo b1 (some ⟨b,off,none⟩) i cap pk hold (n+1-i) (by omega) (by omega) (by omega) (by omega) (by rw[bu];omega) (by rw[bu,Rn];exact growslice_fits ax (by omega));rw[Rn,<-ht,<-EX,<-y3]at h;rw[show (n:Int)+1-(i:Int)=((n+1-i:Nat):Int) by omega];exact h
 obtain⟨dL,q0⟩:∃dL,dL=laid jM (i*4) x:=⟨_,rfl⟩
 have mj:dL.size=jM.size:=by rw[q0];exact rE (by omega)
 obtain⟨iG,mO⟩:∃iG,iG=lR.setRow w.heap.size dL:=⟨_,rfl⟩
 have Q5:iG.heap[w.heap.size]?=some (.cells dL 141 (0,0)):=by rw[mO];exact setRow_heap lR _ jM dL _ (0,0) Jy
 have hl:iG.heap[b]?=some (.cells arr tb (0,0)):=by rw[mO,setRow_other _ _ b _ (by omega)];exact ih
 have ach:∀ty nx,(Builtin.copy_ #[48,48] ty #[.slice (some ⟨w.heap.size,i*4,none⟩) (n+1-i) nx,.slice (some ⟨gy,hS,none⟩) 1 vc]).run prog lR=.ok (goInt (Nat.min 1 (n+1-i))) iG:=by
  intro ty nx;have wW:Nat.min 1 (n+1-i)=1:=by simp only[Nat.min_def];split<;>omega
  rw[mO,q0];refine F1 lR _ _ ty _ 4 _ (i*4) _ nx jM _ ⟨gy,hS,none⟩ _ vc x gK dM Jy (by rw[wW,gm]) (fun j v bk=>?_) (by omega) Bd;rw[Addr.add_lit];simp[World.cell?,Fm,tN j v bk]
 obtain⟨oP,q2⟩:∃oP,oP=iG.drew.setRow w.heap.size (laid dL ((i+1)*4) mid):=⟨_,rfl⟩
 have aci:∀ty nx lG,(Builtin.copy_ #[48,48] ty #[.slice (some ⟨w.heap.size,(i+1)*4,none⟩) (n-i) nx,.slice (some ⟨b,off+i*4,none⟩) (n-i) lG]).run prog iG.drew=.ok (goInt (Nat.min (n-i) (n-i))) oP:=by
  intro ty nx lG;have wW:Nat.min (n-i) (n-i)=n-i:=Nat.min_self _;rw[q2];refine F1 iG.drew _ _ ty _ 4 _ ((i+1)*4) _ nx dL _ ⟨b,off+i*4,none⟩ _ lG mid gK dM Q5 (by rw[wW,sm]) (fun j v bk=>?_) (by omega) sk;rw[Addr.add_lit];rw[ra,kb]at bk;split at bk
  ·rw[lJ,mD]at bk;have ey:iG.drew.heap[b]?=some (.cells arr tb (0,0)):=hl;simp[World.cell?,ey,bk]
  cases bk
 have X:Aside (oP=(((w.drew.alloc (.cells jM 141)).setRow w.heap.size dL).drew).setRow w.heap.size (laid dL ((i+1)*4) mid)):=by rw[q2,mO,y3];trivial
 have Y:Aside (n+1<=G/\jM.size=G*4/\∀y,y<i*4->jM[y]?=arr[off+y]?):=⟨Bq,EZ,EY⟩
 have qh:¬((i:Int)=(n:Int)):=by omega
 have RX:(cap:Int)<(n:Int)+1:=by omega
 have adL:IntKind.i64.wrap ((i:Int)+1)=(i:Int)+1:=by rw[IntKind.wrap_i64];omega
 have adM:IntKind.i64.wrap ((n:Int)+1)=(n:Int)+1:=by rw[IntKind.wrap_i64];omega
 have aDE:IntKind.i64.wrap ((n:Int)+1-(i:Int))=(n:Int)+1-(i:Int):=by rw[IntKind.wrap_i64];omega
 have aCO:(0:Int)<=(i:Int)+1:=by omega
 have iI:i<=n:=by omega
 have adB:((i:Int)+1).toNat=i+1:=by omega
 have E2:(i:Int)<=(n:Int):=by omega
 have ab3:(i:Int)<=(n:Int)+1:=by omega
 have aCQ:(i:Int)+1<=(n:Int)+1:=by omega
 have aCG:¬(G=i):=by omega
 have aCH:¬(G=i+1):=by omega
 have aCT:¬(cap=i):=by omega
 have aDb:i<=G:=by omega
 have acE:i<=cap:=by omega
 have mixed:prog.follows .mixedOrders=true:=by kernel_rfl
 clear mO q2 hl aw bI ra sm sk mj dM gK h1 Bd tN gm EY EZ Jy Q5 ih Fm y3 EX holds rb RM JF ht
 go_enter func305,Tryz.ntmps305
 go_wp2_with (first
  | (at_builtin;refine NJ rfl _ _ _ _ rfl _ _ rfl rfl (ads _) ?_)
  | (at_builtin;refine Uk rfl _ _ 48 48 rfl _ _ rfl rfl (ach _ _) ?_))
 go_region_law_o (refine Ul rfl _ _ 48 48 rfl _ _ (by simp[Act.eval,Act.put]) (by simp[Act.eval,Act.put]) (aci _ _ _) ?_)
 go_wp2
 go_ret
 exact⟨G,jM,Y.1,Y.2.1,Y.2.2,rfl,by rw[<-q0];exact X⟩
variable{b:Nat}
theorem Dj{aP:World}{off cap:Nat}{arr:Array Value}{tb:TypeId}{es:List (List Value)}(aD:Row w b off 4 cap arr tb es){x:List Value}{i:Nat}(hi:i<=es.length)(gm:x.length=4)(qg:∀v∈x,v.oneCell'=true)
  {dD o mL:Nat} {A:Array Value} {ty:TypeId} (bN:aP.heap[dD]?=some (.cells A ty (0,0))) (ak:es.length+1<=mL) (er:o+mL*4<=A.size)
  (Bp:∀p,p<i*4->A[o+p]?=arr[off+p]?) (sc:∀p,p<4->A[o+i*4+p]?=x[p]?) (hC:∀p,p<(es.length-i)*4->A[o+(i+1)*4+p]?=arr[off+i*4+p]?):
  Row aP dD o 4 mL A ty (es.take i++x::es.drop i):=by
 have al:(es.take i++x::es.drop i).length=es.length+1:=by simp;omega
 have BQ:(es.take i).length=i:=by simp;omega
 refine⟨bN,by rw[al];exact ak,er,?_,?_,?_⟩
 ·intro e he;rcases ia.1 he with h | h
  ·exact aD.len e (td h)
  rcases eH.1 h with rfl | h
  ·exact gm
  exact aD.len e (wq h)
 ·intro e he;rcases ia.1 he with h | h
  ·exact aD.one e (td h)
  rcases eH.1 h with rfl | h
  ·exact qg
  exact aD.one e (wq h)
 intro k j e v hk bk;have zb:=(gk.1 hk).1;rw[al]at zb;by_cases h1:k<i
 ·rw[AR (by omega),kb,bn h1]at hk;have kD:j<4:=by
   have:=(gk.1 bk).1;have:=aD.len e (gb hk);omega
  rw[IT,Bp _ (by omega),<-IT];exact aD.cell k j e v hk bk
 rw[wo (by omega),BQ]at hk;by_cases U:k=i
 ·subst U;rw[Nat.sub_self,mE,aX]at hk;subst hk;have kD:=(gk.1 bk).1;rw[sc j (by omega)];exact bk
 obtain⟨m,rfl⟩:∃m,k=i+1+m:=⟨k-(i+1),by omega⟩
 rw[show i+1+m-i=m+1 by omega,pR,lJ]at hk;have kD:j<4:=by
  have:=(gk.1 bk).1;have:=aD.len e (gb hk);omega
 have:=aD.cell (i+m) j e v hk bk;rw[<-this,show o+(i+1+m)*4+j=o+(i+1)*4+(m*4+j) by omega,hC _ (by omega)]
 congr 1
 omega
theorem aeT{off cap:Nat}{arr:Array Value}{tb:TypeId}{es:List (List Value)}(aD:Row w b off 4 cap arr tb es):∀x v,off<=x->x<off+es.length*4->arr[x]?=some v->v.oneCell'=true:=by
 intro x v qg km bI;have bS:(x-off) / 4<es.length:=by omega
 have he:=iD bS;have hlen:=aD.len _ (pU bS);have kj:(x-off) % 4<(es[(x-off) / 4]).length:=by omega
 have:=aD.cell _ _ _ _ he (iD kj);rw[show off+(x-off) / 4*4+(x-off) % 4=x by omega,bI]at this;rw[gJ this];exact aD.one _ (pU bS) _ (pU kj)
variable{own:Nat->Prop}
theorem aeU(aw:own b)(dL:Array Value):wz ⟨w,own,fun _=>(0,undef)⟩ (w.setRow b dL):=by
 refine⟨rfl,rfl,rfl,by simp,fun k hk ax=>?_,fun _=>fg _⟩;have:k≠b:=fun e=>ax (by rw[e];exact aw)
 rw[setRow_other _ b k _ this]
theorem Um{o:Obj}:wz ⟨w,own,fun _=>(0,undef)⟩ (w.drew.alloc o):=by
 refine⟨rfl,rfl,rfl,by simp[World.alloc],fun k hk _=>?_,fun _=>?_⟩
 ·rw[xl w.drew o hk];rfl
 show w.drawn<=w.drawn+1;omega
theorem aeV{o:Obj}{dL IV:Array Value}:wz ⟨w,own,fun _=>(0,undef)⟩ ((((w.drew.alloc o).setRow w.heap.size dL).drew).setRow w.heap.size IV):=by
 refine⟨rfl,rfl,rfl,by simp[World.alloc],fun k hk _=>?_,fun _=>?_⟩
 ·rw[setRow_other _ _ k _ (by simp only at hk;omega)];show ((w.drew.alloc o).setRow w.heap.size dL).heap[k]?=w.heap[k]?;rw[setRow_other _ _ k _ (by simp only at hk;omega),xl w.drew o hk];rfl
 show w.drawn<=w.drawn+1+1;omega
theorem aeW:∃i0,prog.info? 141=some i0/\i0.size=4/\i0.bytes=32/\i0.zero=some (.agg #[.int .i64 0,.int .i64 0,.int .i64 0,.int .i64 0]):=by
 have dM:(prog.info? 141).map (fun x=>(x.size,x.bytes,x.zero))=some (4,32,some (.agg #[.int .i64 0,.int .i64 0,.int .i64 0,.int .i64 0])):=by kernel_rfl
 cases h:prog.info? 141 with
 | none=>rw[h]at dM;cases dM
 | some i0=>
  rw[h]at dM;simp only[tc,aX,bK]at dM;exact⟨i0,rfl,dM.1,dM.2.1,dM.2.2⟩
theorem aeX(es:List (List Value))(x:List Value)(i:Nat)(hi:i<=es.length)(al:es.length<=8388608):kY prog 305 [.one (.fk 4 (gD es) none),.one (.ro (I i)),.one (.fk 4 (gD [x]) none)] [.one (.J 4 (gD (es.take i++x::es.drop i)))]:=by
 rintro w vs ω ⟨ax,aZ,ai⟩ o6;obtain⟨y,bD,lu⟩:=ai 0 _ rfl;obtain⟨gO,gU,Ki⟩:=ai 1 _ rfl;obtain⟨z,bd,qh⟩:=ai 2 _ rfl;have e1:gO=.int .i64 i:=b4.Jd Ki;subst e1;have ss:=QJ aZ bD gU bd;subst ss;have gK:prog.underlying 48=some (.slice 141):=by kernel_rfl
 obtain⟨i0,lo,a',bu,b1⟩:=aeW;rcases ax.row qh with⟨h,_⟩ | ⟨gy,hS,vc,oR,s8,RZ,rfl,w2⟩
 ·cases h
 have gm:x.length=4:=w2.len x (by simp);have qg:∀v∈x,v.oneCell'=true:=w2.one x (by simp);have tN:∀j v,x[j]?=some v->oR[hS+j]?=some v:=fun j v bk=>by simpa using w2.cell 0 j x v rfl bk
 have Fp:∀j v,x[j]?=some v->w.cell? ((⟨gy,hS,none⟩:Addr).add j)=some v:=fun j v bk=>by
  rw[Addr.add_lit];simp[World.cell?,w2.heap,tN j v bk]
 have fin:∀{e:Ending} {aP:World},(∃v,e=.returned v/\Ew w aP (fun b=>ω b≠.bM) 4 (es.take i++x::es.drop i) v)->∃v,e=.returned v/\hd ⟨w,fun b=>ω b≠.bM,fun _=>(0,undef)⟩ aP/\
   ∃bf:Own,(∀b,b<w.heap.size->ω b=.bM->bf b=.bM)/\(∀b,bf b≠.bM->(∃t q,bf b=.tok t q)/\∃arr ty,aP.heap[b]?=some (.cells arr ty (0,0)))/\Kept aP bf [.one (.fk 4 (gD es) none),.one (.ro (I i)),.one (.fk 4 (gD [x]) none)] #[y,.int .i64 i,.slice (some ⟨gy,hS,none⟩) [x].length vc]/\nH aP bf [.one (.J 4 (gD (es.take i++x::es.drop i)))] v:=by
  rintro e aP ⟨v,he,cH⟩;obtain⟨bf,U,aA,aJ⟩:=cH.res;refine⟨v,he,cH.QL.full o6,bf,U,aA,Ti ?_,aJ⟩;intro f' kH fi k dR cD jt ak
  match f' with
  | 0=>simp at jt;subst jt;simp only[GA.cell]at ak;split at ak<;>simp at ak
  | 1=>simp at jt;subst jt;simp only[GA.cell]at ak;split at ak<;>simp at ak
  | 2=>simp at jt;subst jt;simp only[GA.cell]at ak;split at ak<;>simp at ak
  | _+3=>simp at jt
 rcases ax.row lu with⟨rfl,a,rfl⟩ | ⟨b,off,cap,arr,tb,dt,rfl,aD⟩
 ·
  have acD:i=0:=by simpa using hi
  subst acD;obtain⟨G,ht⟩:∃G,G=grownCap w 1 0 141:=⟨_,rfl⟩
  have Bq:1<=G:=by rw[ht];exact grownCap_ge w _ _ _
  have fN:∀ty,(Builtin.append_ #[48,48] ty #[.slice a 0 0,.slice (some ⟨gy,hS,none⟩) 1 vc]).run prog w=.ok (.slice (some ⟨w.heap.size,0,none⟩) 1 G) (w.drew.alloc (.cells (x.toArray++Builtin.zeroCells (Value.agg #[.int .i64 0,.int .i64 0,.int .i64 0,.int .i64 0]).cells (G-1)) 141)):=by
   intro ty;cases a with
   | none=>
    have:=run_append_nil (P:=prog) w 48 ty 141 i0 _ gK lo b1 ⟨gy,hS,none⟩ 1 vc x (by rw[a',gm]) Fp (by omega) (by omega) (by rw[bu];omega);rw[<-ht]at this;exact this
   | some b6=>
    have:=run_append_grow (P:=prog) w 48 ty 141 i0 _ gK lo b1 b6 0 0 [] (by simp) (fun j v bI=>by simp at bI) ⟨gy,hS,none⟩ 1 vc x (by rw[a',gm]) Fp (by omega) (by omega) (growslice_fits (by omega) (by rw[bu];omega));simp only[dV,<-ht]at this;simpa using this
  refine (NK a 0 0 gy hS vc w _ _ (fg _) fN).mono ?_;rintro e aP ⟨rfl,rfl⟩;have aBl:Row w gy 0 4 0 oR s8 []:=⟨w2.heap,fg _,by omega,by simp,by simp,by simp⟩
  refine fin ⟨_,rfl,Um,.inr ⟨w.heap.size,0,G,_,_,.inr (fg _),rfl,Dj aBl (fg _) gm qg (ot w.drew _) Bq ?_ ?_ ?_ ?_⟩⟩
  ·simp only[uH,pP,size_zeroCells,gm];show 0+G*4<=4+(G-1)*4;omega
  ·intro p hp;simp at hp
  ·intro p hp;rw[kc,bn (by simp;omega)];simp
  intro p hp;simp at hp
 have cX:gy≠b:=by
  rintro rfl;rw[dt]at RZ;simp only[dr.tok.injEq,fM]at RZ;omega
 have mS:ω b≠.bM:=by rw[dt];simp
 have o3:=aD.room;have er:=aD.fit;have h1:=aeT aD;rcases qI i es.length with bS | qa
 ·rcases qI cap (es.length+1) with fZ | fZ
  ·
   refine (aAr b off es.length cap i gy hS vc arr tb oR s8 x w aD.heap w2.heap bS o3 fZ er gm tN qg h1 (by omega)).mono ?_;rintro e aP ⟨G,jM,ht,EZ,EY,rfl,rfl⟩;have iZ:i*4+x.length<=jM.size:=by omega
   have mj:=rE iZ;have sm:((arr.toList.drop (off+i*4)).take ((es.length-i)*4)).length=(es.length-i)*4:=by simp;omega
   have c3:(i+1)*4+((arr.toList.drop (off+i*4)).take ((es.length-i)*4)).length<=(laid jM (i*4) x).size:=by omega
   refine fin ⟨_,rfl,aeV,.inr ⟨w.heap.size,0,G,_,_,.inr (fg _),by simp;omega,Dj aD hi gm qg (setRow_heap _ _ _ _ _ (0,0) (setRow_heap (w.drew.alloc _) _ _ _ _ (0,0) (ot w.drew _))) ht ?_ ?_ ?_ ?_⟩⟩
   ·rw[rE c3,mj,EZ];omega
   ·intro p hp;rw[dV,mX c3,bw (by omega),mX iZ,bw (by omega)];exact EY p hp
   ·intro p hp;rw[dV,mX c3,bw (by omega),mX iZ,bn (by omega)];rw[show i*4+p-i*4=p by omega]
   intro p hp;rw[dV,mX c3,bn (by omega),kb,bn (by omega),lJ,mD];rw[show (i+1)*4+p-(i+1)*4=p by omega]
  -- in abw,there is room
  refine (aAq b off es.length cap i gy hS vc arr tb oR s8 x w aD.heap w2.heap cX bS fZ er gm tN qg h1 (by omega)).mono ?_;rintro e aP ⟨rfl,rfl⟩;have sm:((arr.toList.drop (off+i*4)).take ((es.length-i)*4)).length=(es.length-i)*4:=by simp;omega
  have iZ:off+(i+1)*4+((arr.toList.drop (off+i*4)).take ((es.length-i)*4)).length<=arr.size:=by omega
  have mj:=rE iZ;have c3:off+i*4+x.length<=(laid arr (off+(i+1)*4) ((arr.toList.drop (off+i*4)).take ((es.length-i)*4))).size:=by omega
  refine fin ⟨_,rfl,Tj mS _ _,.inr ⟨b,off,cap,_,tb,.inl mS,by simp;omega,Dj aD hi gm qg (setRow_heap _ _ _ _ _ (0,0) (setRow_heap w.drew b arr _ tb (0,0) aD.heap)) fZ ?_ ?_ ?_ ?_⟩⟩
  ·rw[rE c3,mj];exact er
  ·intro p hp;rw[mX c3,bw (by omega),mX iZ,bw (by omega)]
  ·intro p hp;rw[mX c3,bn (by omega)];rw[show off+i*4+p-(off+i*4)=p by omega]
  intro p hp;rw[mX c3,bw (by omega),mX iZ,bn (by omega),kb,bn (by omega),lJ,mD];rw[show off+(i+1)*4+p-(off+(i+1)*4)=p by omega]
 have acG:i=es.length:=by omega
 subst acG;rcases qI cap (es.length+1) with fZ | fZ
 ·
  obtain⟨pk,holds⟩:∃pk,pk=(arr.toList.drop off).take (es.length*4):=⟨_,rfl⟩
  have rb:pk.length=es.length*4:=by rw[holds];simp;omega
  obtain⟨G,ht⟩:∃G,G=grownCap w (es.length+1) cap 141:=⟨_,rfl⟩
  have Bq:es.length+1<=G:=by rw[ht];exact grownCap_ge w _ _ _
  have fN:∀ty,(Builtin.append_ #[48,48] ty #[.slice (some ⟨b,off,none⟩) es.length cap,.slice (some ⟨gy,hS,none⟩) 1 vc]).run prog w=.ok (.slice (some ⟨w.heap.size,0,none⟩) (es.length+1) G) (w.drew.alloc (.cells (pk.toArray++x.toArray++Builtin.zeroCells (Value.agg #[.int .i64 0,.int .i64 0,.int .i64 0,.int .i64 0]).cells (G-(es.length+1))) 141)):=by
   intro ty;have:=run_append_grow (P:=prog) w 48 ty 141 i0 _ gK lo b1 ⟨b,off,none⟩ es.length cap pk (by rw[a',rb]) (fun j v bk=>by
    rw[holds,kb]at bk;split at bk
    ·rw[lJ,mD]at bk;rw[Addr.add_lit];simp[World.cell?,aD.heap,bk]
    cases bk) ⟨gy,hS,none⟩ 1 vc x (by rw[a',gm]) Fp (by omega) (by omega) (growslice_fits (by omega) (by rw[bu];omega))
   rw[<-ht]at this;exact this
  refine (NK (some ⟨b,off,none⟩) es.length cap gy hS vc w _ _ o3 fN).mono ?_;rintro e aP ⟨rfl,rfl⟩;refine fin ⟨_,rfl,Um,.inr ⟨w.heap.size,0,G,_,_,.inr (fg _),by simp,Dj aD hi gm qg (ot w.drew _) Bq ?_ ?_ ?_ ?_⟩⟩
  ·simp only[uH,pP,size_zeroCells,gm,rb];show 0+G*4<=es.length*4+4+(G-(es.length+1))*4;omega
  ·intro p hp;rw[dV,kc,bn (by simp[rb];omega),kc,bn (by simp[rb];omega)];simp only[pO];rw[holds,kb,bn hp,lJ,mD]
  ·intro p hp;rw[dV,kc,bn (by simp[rb];omega),kc,bw (by simp[rb])];simp only[pO,pP,rb];rw[show es.length*4+p-es.length*4=p by omega]
  intro p hp;simp at hp
 -- at AK end,there is room
 have fN:∀ty,(Builtin.append_ #[48,48] ty #[.slice (some ⟨b,off,none⟩) es.length cap,.slice (some ⟨gy,hS,none⟩) 1 vc]).run prog w=.ok (.slice (some ⟨b,off,none⟩) (es.length+1) cap) (w.setRow b (laid arr (off+es.length*4) x)):=by
  intro ty;have:=FQ (P:=prog) (t:=48) (ty:=ty) gK lo w b off es.length cap arr tb aD.heap ⟨gy,hS,none⟩ 1 vc x (by rw[a',gm]) Fp qg fZ (by rw[a',gm];omega);rw[a']at this;exact this
 refine (NK (some ⟨b,off,none⟩) es.length cap gy hS vc w _ _ o3 fN).mono ?_;rintro e aP ⟨rfl,rfl⟩;have iZ:off+es.length*4+x.length<=arr.size:=by omega
 refine fin ⟨_,rfl,aeU mS _,.inr ⟨b,off,cap,_,tb,.inl mS,by simp,Dj aD hi gm qg (setRow_heap _ _ _ _ _ (0,0) aD.heap) fZ ?_ ?_ ?_ ?_⟩⟩
 ·rw[rE iZ];exact er
 ·intro p hp;rw[mX iZ,bw (by omega)]
 ·intro p hp;rw[mX iZ,bn (by omega)];rw[show off+es.length*4+p-(off+es.length*4)=p by omega]
 intro p hp;simp at hp
theorem Cell.yQ(xs:List Cell):xs.map Cell.e=gD (xs.map fun r=>r.e.map D.AL):=by
 simp only[gD,List.map_map];rfl
theorem aeY(xs:List Cell)(x:Cell)(i:Nat)(hi:i<=xs.length)(al:xs.length<=8388608):kY prog 305 [.one (.fk 4 (xs.map Cell.e) none),.one (.ro (I i)),.one (.fk 4 [x.e] none)] [.one (.J 4 ((xs.take i++x::xs.drop i).map Cell.e))]:=by
 have:=aeX (xs.map fun r=>r.e.map D.AL) (x.e.map D.AL) i (by simpa using hi) (by simpa using al);rw[Cell.yQ,Cell.yQ];simp only[gi,lN,qJ,List.map_drop]at this ⊢;exact this
end Go.Proofs.YtdchjefneblpgaaGreat
namespace Go.Proofs.YtdchjefneblpgaaGreat
open Go.Sx Go.RowKit Go.Proofs.Tryz
def nK(xs:List Cell)(x:Cell):Bool:=xs.any fun a=>decide (a=x)
def mB(xs:List Cell)(x:Cell):Nat:=(xs.findIdx? fun a=>!decide (iN a x<0)).getD xs.length
def kq(xs:List Cell)(x:Cell):List Cell:=if nK xs x then xs else xs.take (mB xs x)++x::xs.drop (mB xs x)
theorem NL(xs:List Cell)(x:Cell):mB xs x<=xs.length:=by
 unfold mB;cases h:xs.findIdx? (fun a=>!decide (iN a x<0)) with
 | none=>simp
 | some i=>
  rw[uG]at h;have:=h.1;simp;omega
theorem Un(xs:List Cell)(x:Cell):(kq xs x).length<=xs.length+1:=by
 unfold kq;split
 ·omega
 have:=NL xs x;simp;omega
theorem Uo(xs:List Cell)(x:Cell)(al:xs.length<=8388608):aq 306 [.one (.J 4 (xs.map Cell.e)),.agg x.e] [.one (B (nK xs x))]:=by
 have l:=gv (P:=prog) (c:=(ap f306 0)) xs (fun a=>decide (a=x)) (fun i=>x4 (xs.map Cell.e) x.op x.a8 x.key x.val i) (X:=fun _ _=>L9 true) e5 (cn 0)
  (fun i a ai h=>aAV ⟨b5 (a1 ai),bA,bH (a1 ai),bC Cell.e ai,(Ma a x).trans h,db (a1 ai) al,aa⟩)
  (fun i a ai h=>aAU ⟨b5 (a1 ai),bA,bH (a1 ai),bC Cell.e ai,(Ma a x).trans h,aa⟩)
  (aAW ⟨dw,aa⟩)
 unfold nK;rcases l with⟨_,_,h1,U⟩ | ⟨i,a,_,_,_,_,h1,U⟩
 ·rw[h1];exact aAY ⟨U,aa⟩
 rw[h1];exact aAX ⟨U,aa⟩
theorem VP(xs:List Cell)(x:Cell)(r:Bool)(h:nK xs x=r)(al:xs.length<=8388608):aq 306 [.one (.J 4 (xs.map Cell.e)),.agg x.e] [.one (B r)]:=h▸Uo xs x al
def Fs(xs:List Cell)(x:Cell):Int:=match xs.findIdx? (fun a=>decide (a=x)) with | some i=>i | none=>-1
theorem aeZ(xs:List Cell)(x:Cell):decide (Fs xs x>=0)=nK xs x:=by
 unfold Fs nK;cases h:xs.findIdx? (fun a=>decide (a=x)) with
 | none=>
  have:xs.any (fun a=>decide (a=x))=false:=by
   rw[ft];rw[IM]at h;exact fun a ai=>by simpa using h a ai
  rw[this];rfl
 | some i=>
  rw[uG]at h;obtain⟨hi,U,_⟩:=h;have:xs.any (fun a=>decide (a=x))=true:=oK.2 ⟨_,pU hi,U⟩;rw[this];simp
theorem ae0(xs:List Cell)(x:Cell)(al:xs.length<=8388608):aq 365 [.one (.J 4 (xs.map Cell.e)),.agg x.e] [.one (I (Fs xs x))]:=by
 have l:=gv (P:=prog) (c:=(ap f365 0)) xs (fun a=>decide (a=x)) (fun i=>x1 (xs.map Cell.e) x.op x.a8 x.key x.val i) (X:=fun i _=>L6 i) e5 (cn 0)
  (fun i a ai h=>azu ⟨b5 (a1 ai),bA,bH (a1 ai),bC Cell.e ai,(Uz a x).trans h,db (a1 ai) al,aa⟩)
  (fun i a ai h=>azt ⟨b5 (a1 ai),bA,bH (a1 ai),bC Cell.e ai,(Uz a x).trans h,aa⟩)
  (azv ⟨dw,aa⟩)
 unfold Fs;rcases l with⟨_,h1,_,U⟩ | ⟨i,a,_,_,_,h1,_,U⟩
 ·simp only[h1];exact azx ⟨U,aa⟩
 simp only[h1];exact azw ⟨U,aa⟩
theorem VQ(xs:List Cell)(x:Cell)(al:xs.length<=8388608):aq 303 [.one (.J 4 (xs.map Cell.e)),.agg x.e] [.one (B (nK xs x))]:=by
 rw[<-aeZ];exact aAg ⟨azs ⟨ae0 xs x al,aa⟩,aa⟩
theorem VR(xs:List Cell)(x:Cell)(r:Bool)(h:nK xs x=r)(al:xs.length<=8388608):aq 303 [.one (.J 4 (xs.map Cell.e)),.agg x.e] [.one (B r)]:=h▸VQ xs x al
theorem vN(xs:List Cell)(al:xs.length<=8388608):aq 297 [.one (.J 4 (xs.map Cell.e))] [.one (.J 4 (xs.map Cell.e))]:=
 aAf ⟨by simp;omega,by simp;omega,dz _ Cell.flat _,aa⟩
theorem Dk(xs:List Cell)(x:Cell)(al:xs.length<=8388608):aq 238 [.one (.J 4 (xs.map Cell.e)),.agg x.e] [.one (.J 4 ((kq xs x).map Cell.e))]:=by
 unfold kq;cases h:nK xs x with
 | true=>
  rw[bn rfl];exact aAZ ⟨VP xs x true h al,rfl,by simp;omega,by simp;omega,dz _ Cell.flat _,aa⟩
 | false=>
  rw[bw (by simp)];have l:c8 prog (ap f238 0) (x5 (xs.map Cell.e) x.op x.a8 x.key x.val 0) (hV.exit 0) (Di (xs.map Cell.e) x.op x.a8 x.key x.val (mB xs x)):=by
   have l:=gv (P:=prog) (c:=(ap f238 0)) xs (fun a=>!decide (iN a x<0)) (fun i=>x5 (xs.map Cell.e) x.op x.a8 x.key x.val i) (X:=fun i _=>Di (xs.map Cell.e) x.op x.a8 x.key x.val i) (cn 0) (cn 0)
    (fun i a ai h=>aA0 ⟨b5 (a1 ai),bA,bH (a1 ai),bC Cell.e ai,Hh a x,by simpa using h,db (a1 ai) al,aa⟩)
    (fun i a ai h=>aA1 ⟨b5 (a1 ai),bA,bH (a1 ai),bC Cell.e ai,Hh a x,by simpa using h,aa⟩)
    (aA2 ⟨dw,aa⟩)
   unfold mB;rcases l with⟨_,h1,_,U⟩ | ⟨i,a,_,_,_,h1,_,U⟩
   ·rw[h1];exact U
   rw[h1];exact U
  have hp:=NL xs x;generalize mB xs x=p at*;refine aAF (aA3 ⟨VP xs x false h al,rfl,l,by simp,by simp,by simp;omega,by simp;omega,by simp;omega,?_,by simp;omega,by simp;omega,fE x.flat,by simp,by simp;omega,by simp,by simp;omega,by simp;omega,?_,aa⟩) ?_
  ·simp only[lL,kU,Nat.sub_zero,yB,<-qJ];exact dz _ Cell.flat _
  ·simp only[lL,kU,<-qJ,<-List.map_drop];exact dz _ Cell.flat _
  simp only[lL,kU,Nat.sub_zero,yB,List.nil_append,<-qJ,<-List.map_drop,gi,lN,nT]
  congr 1
  rw[yz (by simp)];rfl
theorem VS(xs:List Cell)(x:Cell)(al:xs.length<=8388608):aq 237 [.one (.J 4 (xs.map Cell.e)),.agg x.e] [.one (.J 4 ((kq xs x).map Cell.e))]:=by
 have c:=vN xs al;unfold kq;cases h:nK xs x with
 | true=>
  rw[bn rfl];exact azy ⟨c,VR xs x true h al,rfl,aa⟩
 | false=>
  rw[bw (by simp)];have l:c8 prog (ap f237 0) (x2 (xs.map Cell.e) x.op x.a8 x.key x.val (xs.map Cell.e) 0) (hV.exit 0) (Dh x.op x.a8 x.key x.val (xs.map Cell.e) (mB xs x)):=by
   have l:=gv (P:=prog) (c:=(ap f237 0)) xs (fun a=>!decide (iN a x<0)) (fun i=>x2 (xs.map Cell.e) x.op x.a8 x.key x.val (xs.map Cell.e) i) (X:=fun i _=>Dh x.op x.a8 x.key x.val (xs.map Cell.e) i) (cn 0) (cn 0)
    (fun i a ai h=>azz ⟨b5 (a1 ai),bA,bH (a1 ai),bC Cell.e ai,Hg a x,by simpa using h,db (a1 ai) al,aa⟩)
    (fun i a ai h=>azA ⟨b5 (a1 ai),bA,bH (a1 ai),bC Cell.e ai,Hg a x,by simpa using h,aa⟩)
    (azB ⟨dw,aa⟩)
   unfold mB;rcases l with⟨_,h1,_,U⟩ | ⟨i,a,_,_,_,h1,_,U⟩
   ·rw[h1];exact U
   rw[h1];exact U
  exact azC ⟨c,VR xs x false h al,rfl,l,aeY xs x (mB xs x) (NL xs x) al,aa⟩
end Go.Proofs.YtdchjefneblpgaaGreat
namespace Go.Proofs.YtdchjefneblpgaaGreat
open Go.Sx Go.RowKit Go.Proofs.Tryz
def fS(g:bV)(op:Int):Option Node:=if 0<=op then g.nodes[op.toNat]? else none
variable{g:bV}{a:Int}{w:Node}
theorem Hk(h:fS g a=some w):0<=a/\a<(↑(g.nodes.map Node.e).length:Int)/\(g.nodes.map Node.e)[a.toNat]?=some w.e/\av a 0 (↑(g.nodes.map Node.e).length-1)=true:=by
 unfold fS at h;split at h
 ·have:=(gk.1 h).1;refine⟨‹_›,by simp;omega,by simp[h],?_⟩;simp only[av,ct,ck];omega
 cases h
theorem VT(h:fS g a=none):av a 0 (↑(g.nodes.map Node.e).length-1)=false:=by
 unfold fS at h;simp only[av,ct,mG];split at h
 ·rw[List.getElem?_eq_none_iff]at h;omega
 omega
theorem NM(h:fS g a=some w):w∈g.nodes:=by
 unfold fS at h;split at h
 ·exact gb h
 cases h
theorem bV.ad8(h:g.sz<=8388608):g.nodes.length<=8388608:=by simp only[bV.sz,fs]at h;omega
theorem bV.Cd(h:g.sz<=8388608)(hw:w∈g.nodes):w.outs.length<=8388608:=by
 have:=Af (sz:=Node.sz) hw;simp only[bV.sz,fs]at h;have a':w.outs.length<=w.sz:=by simp only[Node.sz];omega
 omega
theorem Hl(h:g.sz<=8388608):aL .i64 ((↑(g.nodes.map Node.e).length:Int)-1):=by
 have:=bV.ad8 h;exact⟨by simp;omega,by simp;omega⟩
theorem ae1(g:bV)(op:Int)(ax:g.sz<=8388608):aq 250 [.agg g.e,.one (I op)] [.one (B (fS g op).isSome)]:=by
 cases h:fS g op with
 | none=>exact Ut ⟨Hl ax,hM _ (VT h),aa⟩
 | some w=>exact Ut ⟨Hl ax,hM _ (Hk h).2.2.2,aa⟩
theorem Ao(g:bV)(op:Int)(r:Bool)(h:(fS g op).isSome=r)(ax:g.sz<=8388608):aq 250 [.agg g.e,.one (I op)] [.one (B r)]:=h▸ae1 g op ax
def vO(g:bV)(op:Int):Node×Bool:=match fS g op with | some n=>(n,true) | none=>(⟨0,0,0,[]⟩,false)
theorem NN(n:Int):∀d∈bc n,∃x,d=.v x:=by
 intro d aE;simp only[bc,eH,pW,or_false]at aE;subst aE;exact⟨_,rfl⟩
theorem ae2(g:bV)(op:Int)(ax:g.sz<=8388608):aq 249 [.agg g.e,.one (I op)] [.agg (vO g op).1.e,.one (B (vO g op).2)]:=by
 unfold vO;cases h:fS g op with
 | none=>exact aA4 ⟨Hl ax,gg _ _ _ _ (VT h),rfl,aa⟩
 | some w=>
  obtain⟨h1,U,aA,aJ⟩:=Hk h;have a7:=bV.Cd ax (NM h);exact aA5 ⟨Hl ax,gg _ _ _ _ aJ,rfl,h1,U,aA,by simp;omega,by simp;omega,dz _ NN _,aa⟩
theorem Hm(g:bV)(op:Int)(r:Node×Bool)(h:vO g op=r)(ax:g.sz<=8388608):aq 249 [.agg g.e,.one (I op)] [.agg r.1.e,.one (B r.2)]:=h▸ae2 g op ax
