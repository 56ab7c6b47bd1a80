import Derived.Test.YtdchjefneblpgaaGreatC5
import Derived.Test.YtdchjefneblpgaaGreatG1
import Derived.WalkKit
import Derived.Deep.RegionLaw
import Derived.Shelf.RegionOpenPlain
import Derived.Lib.SliceRun
import Derived.Lib.JoinLaws
import Derived.Lib.Overlaps
import Derived.Lib.AppendZerosOnto
import Derived.Laws.Externs
import Derived.Deep.LoopGhost
import Derived.Lib.Walk
set_option linter.unusedVariables false
set_option linter.unusedSimpArgs false
namespace Go.Proofs.YtdchjefneblpgaaGreat
open Go.Sx Go.RowKit Go.Proofs.Tryz
theorem Se(a b:bD):(a.a8==b.a8&&a.cD==b.cD)=decide (a=b):=by
 cases a;cases b;rw[Bool.eq_iff_iff];simp
theorem aol(xs ys:List bD)(aa:xs.length<=8388608):aK 109 [.one (.J 2 (xs.map bD.e)),.one (.J 2 (ys.map bD.e))] [.one (B (decide (xs=ys)))]:=by
 by_cases af:xs.length=ys.length
 ·have l:=aoN (P:=prog) (c:=(az f109 0)) xs ys af (fun i=>vY (xs.map bD.e) (ys.map bD.e) i) (X:=KE false) hd (cL 0)
   (fun i a b ag ah h=>aoR ⟨cg (bh ag),bG,bJ (bh ag),bF bD.e ag,bG,bJ (bh ah),bF bD.e ah,Zj ((Se a b).trans h),cY (bh ag) aa,aj⟩)
   (fun i a b ag ah h=>aoQ ⟨cg (bh ag),bG,bJ (bh ag),bF bD.e ag,bG,bJ (bh ah),bF bD.e ah,Zi ((Se a b).trans h),aj⟩)
   (aoi ⟨dH,aj⟩)
  rcases l with⟨h,l⟩ | ⟨h,l⟩
  ·rw[dU h];exact aok ⟨Ol af,l,aj⟩
  rw[eX h];exact aoj ⟨Ol af,l,aj⟩
 rw[eX (fun e=>af (by rw[e]))];exact aoP ⟨aoO af,aj⟩
end Go.Proofs.YtdchjefneblpgaaGreat
namespace Go.Proofs.YtdchjefneblpgaaGreat
open Go.Sx Go.RowKit Go.Shelf Go.Lib Go.Proofs.Tryz
variable{P:Program}{w:World}{ops:Array Oper}{o:Oper}{a:Act}{Q:Exit->Act->World->Prop}
theorem Sf{rest:List Oper}(GY:o.guard=none)(d s:Operand)(t c4:TypeId)
  (aN:o.op=.call { callee:=.builtin .copy,args:=#[d,s],argTypes:=#[t,c4] }) (v u:Value) (ax:a.eval d=v) (ae:a.eval s=u) {la:Value} {aG:World}
  (ar:(Builtin.copy_ #[t,c4] o.type #[v,u]).run P w=.ok la aG) (h:wpList P ops Q rest (a.put o.dst la) aG):wpList P ops Q (o::rest) a w:=
 wpList_plain GY fun _ gR=>by
  unfold Oper.wp execOp;simp only[aN,resolve,invoke,builtin,Sem.run_bind,Sem.run_pure,Result.andThen_ok,List.map_toArray,iT,List.map_nil,ax,ae,ar];exact gR _ _ h
theorem Sg{K:Act->World->Prop}{E:Prop}
  (ao:o.guard=none) (d x:Operand) (dU bi:TypeId) (sx:o.op=Op.call { callee:=Callee.builtin Builtin.copy,args:=#[d,x],argTypes:=#[dU,bi] })
  (v u:Value) (ax:a.eval d=v) (aa:a.eval x=u) {la:Value} {aG:World} (ar:(Builtin.copy_ #[dU,bi] o.type #[v,u]).run P w=.ok la aG) (gR:K (a.put o.dst la) aG):
  if Region.wanted o (yielded ops a.tmps)=true then Oper.wp P o a w K Q else E:=by
 have hw:Region.wanted o (yielded ops a.tmps)=true:=by simp[Region.wanted,ao]
 rw[a6 hw];unfold Oper.wp;simp[execOp,sx,resolve,invoke,builtin,ax,aa,ar,Result.andThen];exact gR
theorem KF{rest:List Oper}(GY:o.guard=none)(d s:Operand)(t c4:TypeId)
  (aN:o.op=.call { callee:=.builtin .append,args:=#[d,s],argTypes:=#[t,c4] }) (v u:Value) (ax:a.eval d=v) (ae:a.eval s=u) {la:Value} {aG:World}
  (ar:(Builtin.append_ #[t,c4] o.type #[v,u]).run P w=.ok la aG) (h:wpList P ops Q rest (a.put o.dst la) aG):wpList P ops Q (o::rest) a w:=
 wpList_plain GY fun _ gR=>by
  unfold Oper.wp execOp;simp only[aN,resolve,invoke,builtin,Sem.run_bind,Sem.run_pure,Result.andThen_ok,List.map_toArray,iT,List.map_nil,ax,ae,ar];exact gR _ _ h
set_option maxHeartbeats 4000000 in
set_option maxRecDepth 1000000 in
theorem KG(base:Option Addr)(n cap gf hz vc:Nat)(w w1:World)(v:Value)(aL:n<=cap)
  (eZ:∀ty,(Builtin.append_ #[48,48] ty #[.slice base n cap,.slice (some ⟨gf,hz,none⟩) 1 vc]).run prog w=.ok v w1):
  Calls prog 305 #[.slice base n cap,.int .i64 n,.slice (some ⟨gf,hz,none⟩) 1 vc] w fun e aG=>e=.returned v/\aG=w1:=by
 have mixed:prog.follows .mixedOrders=true:=by kernel_rfl
 go_enter func305,Tryz.ntmps305
 cases base with
 | none=>
  go_wp2_with (at_builtin;refine KF rfl _ _ _ _ rfl _ _ rfl rfl (eZ _) ?_)
  all_goals (go_ret;exact⟨rfl,rfl⟩)
 | some a=>
  obtain⟨ab,aqX,aq0⟩:=a
  go_wp2_with (at_builtin;refine KF rfl _ _ _ _ rfl _ _ rfl rfl (eZ _) ?_)
  all_goals (go_ret;exact⟨rfl,rfl⟩)
set_option maxHeartbeats 4000000 in
set_option maxRecDepth 1000000 in
theorem aom(b off n cap i gf hz vc:Nat)(arr:Array Value)(tb:TypeId)(n':Array Value)(rW:TypeId)(x:List Value)(w:World)(ah:w.heap[b]?=some (.cells arr tb (0,0)))(bj:w.heap[gf]?=some (.cells n' rW (0,0)))(N3:gf≠b)
  (hi:i<n) (aL:n+1<=cap) (dD:off+cap*4<=arr.size) (gk:x.length=4) (sI:∀j v,x[j]?=some v->n'[hz+j]?=some v) (zx:∀v∈x,v.oneCell'=true)
  (h1:∀x v,off<=x->x<off+n*4->arr[x]?=some v->v.oneCell'=true) (CV:n<8388609):
  Calls prog 305 #[.slice (some ⟨b,off,none⟩) n cap,.int .i64 i,.slice (some ⟨gf,hz,none⟩) 1 vc] w fun e aG=>e=.returned (.slice (some ⟨b,off,none⟩) (n+1) cap)/\
   aG=(w.drew.setRow b (laid arr (off+(i+1)*4) ((arr.toList.drop (off+i*4)).take ((n-i)*4)))).setRow b (laid (laid arr (off+(i+1)*4) ((arr.toList.drop (off+i*4)).take ((n-i)*4))) (off+i*4) x):=by
 obtain⟨mid,p4⟩:∃mid,mid=(arr.toList.drop (off+i*4)).take ((n-i)*4):=⟨_,rfl⟩
 have q8:mid.length=(n-i)*4:=by rw[p4];simp;omega
 have o8:∀u∈mid,u.oneCell'=true:=by
  intro u hu;obtain⟨y,a1⟩:=ng.1 hu;rw[p4,gX]at a1;split at a1
  ·rw[gV,jg]at a1;exact h1 _ u (by omega) (by omega) a1
  cases a1
 rw[<-p4];obtain⟨hQ,vn⟩:∃hQ,hQ=laid arr (off+(i+1)*4) mid:=⟨_,rfl⟩
 have lY:hQ.size=arr.size:=by rw[vn];exact uo (by omega)
 obtain⟨j8,pV⟩:∃j8,j8=w.drew.setRow b hQ:=⟨_,rfl⟩
 have gr:j8.heap[b]?=some (.cells hQ tb (0,0)):=by rw[pV];exact setRow_heap w.drew b arr hQ tb (0,0) ah
 have sF:j8.heap[gf]?=some (.cells n' rW (0,0)):=by rw[pV,setRow_other _ b gf _ N3];exact bj
 have di:(prog.info? 141).map (·.size)=some 4:=by kernel_rfl
 have gj:prog.underlying 48=some (.slice 141):=by kernel_rfl
 have Xf:∀ty lm kM,(Builtin.copy_ #[48,48] ty #[.slice (some ⟨b,off+(i+1)*4,none⟩) (n-i) lm,.slice (some ⟨b,off+i*4,none⟩) (n+1-i) kM]).run prog w.drew=.ok (goInt (Nat.min (n+1-i) (n-i))) j8:=by
  intro ty lm kM;have vE:Nat.min (n+1-i) (n-i)=n-i:=by simp only[Nat.min_def];split<;>omega
  rw[pV,vn];refine Dt w.drew _ _ ty _ 4 b (off+(i+1)*4) _ lm arr tb ⟨b,off+i*4,none⟩ _ kM mid gj di ah (by rw[vE,q8]) (fun j v aM=>?_) (by omega) o8;rw[p4,gX]at aM;split at aM
  ·rw[gV,jg]at aM;rw[Addr.add_lit];have c7:w.drew.heap[b]?=some (.cells arr tb (0,0)):=ah;simp[World.cell?,c7,aM]
  cases aM
 obtain⟨r5,vq⟩:∃r5,r5=j8.setRow b (laid hQ (off+i*4) x):=⟨_,rfl⟩
 have Xg:∀ty lm,(Builtin.copy_ #[48,48] ty #[.slice (some ⟨b,off+i*4,none⟩) (n+1-i) lm,.slice (some ⟨gf,hz,none⟩) 1 vc]).run prog j8=.ok (goInt (Nat.min 1 (n+1-i))) r5:=by
  intro ty lm;have vE:Nat.min 1 (n+1-i)=1:=by simp only[Nat.min_def];split<;>omega
  rw[vq];refine Dt j8 _ _ ty _ 4 b (off+i*4) _ lm hQ tb ⟨gf,hz,none⟩ _ vc x gj di gr (by rw[vE,gk]) (fun j v aM=>?_) (by omega) zx;rw[Addr.add_lit];simp[World.cell?,sF,sI j v aM]
 have Yl:∀HM F9,(callFunc 337 #[.slice (some ⟨gf,hz,none⟩) 1 vc,.slice (some ⟨b,off+(i+1)*4,none⟩) HM F9]).run prog w=.ok (.value (.bool false)) w:=fun HM F9=>by
  rw[run_callFunc_extern (P:=prog) func337 (by kernel_rfl) (by kernel_rfl) (by kernel_rfl) (e:=Extern.SlicesOverlaps.overlaps #[48,48] #[4]) (by kernel_rfl),
   Lib.run_overlaps_apart w 48 4 141 gj 4 (fun w=>by simp[sizeOf,typeInfo];kernel_rfl) ⟨gf,hz,none⟩ ⟨b,off+(i+1)*4,none⟩ 1 vc HM F9 N3 rW tb n'.size arr.size (by simp[World.shape?,bj]) (by simp[World.shape?,ah]) (by omega) (by simp[World.frozen?,bj]) (by simp[World.frozen?,bj])]
  rfl
 have X:Aside (r5=(w.drew.setRow b hQ).setRow b (laid hQ (off+i*4) x)):=by rw[vq,pV];trivial
 have ig:i<=n:=by omega
 have YT:IntKind.i64.wrap ((i:Int)+1)=(i:Int)+1:=by rw[IntKind.wrap_i64];omega
 have YU:IntKind.i64.wrap ((n:Int)+1)=(n:Int)+1:=by rw[IntKind.wrap_i64];omega
 have hS:(0:Int)<=(i:Int)+1:=by omega
 have YI:((i:Int)+1).toNat=i+1:=by omega
 have ar0:((n:Int)+1).toNat=n+1:=by omega
 have gg:¬(cap=i+1):=by omega
 have CU:(i:Int)+1<=(n:Int)+1:=by omega
 have vr:¬(cap=i):=by omega
 have W3:(i:Int)<=(n:Int)+1:=by omega
 have p':¬((i:Int)=(n:Int)):=by omega
 have mixed:prog.follows .mixedOrders=true:=by kernel_rfl
 clear pV vq gr sF ah bj p4 q8 o8 lY di gj h1 zx sI gk
 go_enter func305,Tryz.ntmps305
 go_wp2_with (simp only[Yl])
 go_region_law_o (refine Sg rfl _ _ 48 48 rfl _ _ (by simp[Act.eval,Act.put]) (by simp[Act.eval,Act.put]) (Xf _ _ _) ?_)
 go_wp2_with (at_builtin;refine Sf rfl _ _ 48 48 rfl _ _ rfl rfl (Xg _ _) ?_)
 go_ret
 exact⟨rfl,by rw[<-vn];exact X⟩
set_option maxHeartbeats 4000000 in
set_option maxRecDepth 1000000 in
theorem aon(b off n cap i gf hz vc:Nat)(arr:Array Value)(tb:TypeId)(n':Array Value)(rW:TypeId)(x:List Value)(w:World)(ah:w.heap[b]?=some (.cells arr tb (0,0)))(bj:w.heap[gf]?=some (.cells n' rW (0,0)))
  (hi:i<n) (aL:n<=cap) (ao:cap<n+1) (dD:off+cap*4<=arr.size) (gk:x.length=4) (sI:∀j v,x[j]?=some v->n'[hz+j]?=some v) (zx:∀v∈x,v.oneCell'=true)
  (h1:∀x v,off<=x->x<off+n*4->arr[x]?=some v->v.oneCell'=true) (CV:n<8388609):
  Calls prog 305 #[.slice (some ⟨b,off,none⟩) n cap,.int .i64 i,.slice (some ⟨gf,hz,none⟩) 1 vc] w fun e aG=>∃(G:Nat) (jm:Array Value),n+1<=G/\jm.size=G*4/\(∀y,y<i*4->jm[y]?=arr[off+y]?)/\e=.returned (.slice (some ⟨w.heap.size,0,none⟩) (n+1) G)/\
   aG=(((w.drew.alloc (.cells jm 141)).setRow w.heap.size (laid jm (i*4) x)).drew).setRow w.heap.size (laid (laid jm (i*4) x) ((i+1)*4) ((arr.toList.drop (off+i*4)).take ((n-i)*4))):=by
 obtain⟨mid,p4⟩:∃mid,mid=(arr.toList.drop (off+i*4)).take ((n-i)*4):=⟨_,rfl⟩
 have q8:mid.length=(n-i)*4:=by rw[p4];simp;omega
 have o8:∀u∈mid,u.oneCell'=true:=by
  intro u hu;obtain⟨y,a1⟩:=ng.1 hu;rw[p4,gX]at a1;split at a1
  ·rw[gV,jg]at a1;exact h1 _ u (by omega) (by omega) a1
  cases a1
 rw[<-p4];have gj:prog.underlying 48=some (.slice 141):=by kernel_rfl
 have N0:prog.underlying 3=some (.int .i64):=by kernel_rfl
 have di:(prog.info? 141).map (·.size)=some 4:=by kernel_rfl
 have GH:(prog.info? 141).map (fun x=>(x.bytes,x.zero))=some (32,some (.agg #[.int .i64 0,.int .i64 0,.int .i64 0,.int .i64 0])):=by kernel_rfl
 obtain⟨oB,holds⟩:∃oB,oB=(arr.toList.drop off).take (i*4):=⟨_,rfl⟩
 have p5:oB.length=i*4:=by rw[holds];simp;omega
 obtain⟨G,gZ⟩:∃G,G=grownCap w (n+1) cap 141:=⟨_,rfl⟩
 have zC:n+1<=G:=by rw[gZ];exact grownCap_ge w _ _ _
 have arp:G<=9223372036854775807:=by
  have:=grownCap_le_maxLen w (n+1) cap 141 (by unfold maxLen;omega);rw[<-gZ]at this;unfold maxLen at this;omega
 obtain⟨jm,CQ⟩:∃jm:Array Value,jm=oB.toArray++Builtin.zeroCells (Value.agg #[.int .i64 0,.int .i64 0,.int .i64 0,.int .i64 0]).cells (n+1-i)++Builtin.zeroCells (Value.agg #[.int .i64 0,.int .i64 0,.int .i64 0,.int .i64 0]).cells (G-(n+1)):=⟨_,rfl⟩
 have CS:jm.size=G*4:=by
  rw[CQ];simp only[qM,kN,size_zeroCells,p5];show i*4+(n+1-i)*4+(G-(n+1))*4=G*4;omega
 have CR:∀y,y<i*4->jm[y]?=arr[off+y]?:=by
  intro y a1;rw[CQ,hj,a6 (by simp[size_zeroCells];omega),hj,a6 (by simp;omega)];simp only[nf];rw[holds,gX,a6 a1,gV,jg]
 obtain⟨qS,xz⟩:∃qS,qS=w.drew.alloc (.cells jm 141):=⟨_,rfl⟩
 have Gw:qS.heap[w.heap.size]?=some (.cells jm 141 (0,0)):=by rw[xz];exact nJ w.drew _
 have vt:b<w.heap.size:=(hA.1 ah).1;have Hr:gf<w.heap.size:=(hA.1 bj).1;have hS:qS.heap[b]?=some (.cells arr tb (0,0)):=by rw[xz,wI w.drew _ vt];exact ah
 have Dd:qS.heap[gf]?=some (.cells n' rW (0,0)):=by rw[xz,wI w.drew _ Hr];exact bj
 have YA:∀ty,(Builtin.append_ #[48,3] ty #[.slice (some ⟨b,off,none⟩) i cap,.int .i64 ((n:Int)+1-(i:Int))]).run prog w=.ok (.slice (some ⟨w.heap.size,0,none⟩) (n+1) G) qS:=by
  intro ty;cases kb:prog.info? 141 with
  | none=>rw[kb]at di;cases di
  | some i0=>
   rw[kb]at di GH;have ba:i0.size=4:=by simpa using di
   obtain⟨br,b7⟩:i0.bytes=32/\i0.zero=some (.agg #[.int .i64 0,.int .i64 0,.int .i64 0,.int .i64 0]):=by simpa using GH
   have hold:(Builtin.firstCells i0.size i (.slice (some ⟨b,off,none⟩) i cap)).run prog w.drew=.ok oB.toArray w.drew:=by
    rw[ba];refine run_firstCells_some w.drew 4 i ⟨b,off,none⟩ i cap oB p5 (fun j v aM=>?_);rw[Addr.add_lit];rw[holds,gX]at aM;split at aM
    ·rw[gV,jg]at aM;have c7:w.drew.heap[b]?=some (.cells arr tb (0,0)):=ah;simp[World.cell?,c7,aM]
    cases aM
   have Nw:i+(n+1-i)=n+1:=by omega
   have h:=Lib.run_append_grow_zeros w 48 3 ty 141 i0 _ .i64 .i64 gj N0 kb b7 (some ⟨b,off,none⟩) i cap oB hold (n+1-i) (by omega) (by omega) (by omega) (by omega) (by rw[br];omega) (by rw[br,Nw];exact growslice_fits ao (by omega));rw[Nw,<-gZ,<-CQ,<-xz]at h;rw[show (n:Int)+1-(i:Int)=((n+1-i:Nat):Int) by omega];exact h
 obtain⟨hQ,vn⟩:∃hQ,hQ=laid jm (i*4) x:=⟨_,rfl⟩
 have lY:hQ.size=jm.size:=by rw[vn];exact uo (by omega)
 obtain⟨j8,pV⟩:∃j8,j8=qS.setRow w.heap.size hQ:=⟨_,rfl⟩
 have M6:j8.heap[w.heap.size]?=some (.cells hQ 141 (0,0)):=by rw[pV];exact setRow_heap qS _ jm hQ _ (0,0) Gw
 have gr:j8.heap[b]?=some (.cells arr tb (0,0)):=by rw[pV,setRow_other _ _ b _ (by omega)];exact hS
 have Xh:∀ty lm,(Builtin.copy_ #[48,48] ty #[.slice (some ⟨w.heap.size,i*4,none⟩) (n+1-i) lm,.slice (some ⟨gf,hz,none⟩) 1 vc]).run prog qS=.ok (goInt (Nat.min 1 (n+1-i))) j8:=by
  intro ty lm;have vE:Nat.min 1 (n+1-i)=1:=by simp only[Nat.min_def];split<;>omega
  rw[pV,vn];refine Dt qS _ _ ty _ 4 _ (i*4) _ lm jm _ ⟨gf,hz,none⟩ _ vc x gj di Gw (by rw[vE,gk]) (fun j v aM=>?_) (by omega) zx;rw[Addr.add_lit];simp[World.cell?,Dd,sI j v aM]
 obtain⟨r5,vq⟩:∃r5,r5=j8.drew.setRow w.heap.size (laid hQ ((i+1)*4) mid):=⟨_,rfl⟩
 have Xi:∀ty lm kM,(Builtin.copy_ #[48,48] ty #[.slice (some ⟨w.heap.size,(i+1)*4,none⟩) (n-i) lm,.slice (some ⟨b,off+i*4,none⟩) (n-i) kM]).run prog j8.drew=.ok (goInt (Nat.min (n-i) (n-i))) r5:=by
  intro ty lm kM;have vE:Nat.min (n-i) (n-i)=n-i:=Nat.min_self _;rw[vq];refine Dt j8.drew _ _ ty _ 4 _ ((i+1)*4) _ lm hQ _ ⟨b,off+i*4,none⟩ _ kM mid gj di M6 (by rw[vE,q8]) (fun j v aM=>?_) (by omega) o8;rw[Addr.add_lit];rw[p4,gX]at aM;split at aM
  ·rw[gV,jg]at aM;have c7:j8.drew.heap[b]?=some (.cells arr tb (0,0)):=gr;simp[World.cell?,c7,aM]
  cases aM
 have X:Aside (r5=(((w.drew.alloc (.cells jm 141)).setRow w.heap.size hQ).drew).setRow w.heap.size (laid hQ ((i+1)*4) mid)):=by rw[vq,pV,xz];trivial
 have Y:Aside (n+1<=G/\jm.size=G*4/\∀y,y<i*4->jm[y]?=arr[off+y]?):=⟨zC,CS,CR⟩
 have p':¬((i:Int)=(n:Int)):=by omega
 have YZ:(cap:Int)<(n:Int)+1:=by omega
 have YT:IntKind.i64.wrap ((i:Int)+1)=(i:Int)+1:=by rw[IntKind.wrap_i64];omega
 have YU:IntKind.i64.wrap ((n:Int)+1)=(n:Int)+1:=by rw[IntKind.wrap_i64];omega
 have ar1:IntKind.i64.wrap ((n:Int)+1-(i:Int))=(n:Int)+1-(i:Int):=by rw[IntKind.wrap_i64];omega
 have arv:(0:Int)<=(i:Int)+1:=by omega
 have ig:i<=n:=by omega
 have YI:((i:Int)+1).toNat=i+1:=by omega
 have CU:(i:Int)<=(n:Int):=by omega
 have W3:(i:Int)<=(n:Int)+1:=by omega
 have arx:(i:Int)+1<=(n:Int)+1:=by omega
 have arq:¬(G=i):=by omega
 have ars:¬(G=i+1):=by omega
 have arz:¬(cap=i):=by omega
 have arK:i<=G:=by omega
 have arL:i<=cap:=by omega
 have mixed:prog.follows .mixedOrders=true:=by kernel_rfl
 clear pV vq gr ah bj p4 q8 o8 lY di gj h1 zx sI gk CR CS Gw M6 hS Dd xz CQ holds p5 N0 GH gZ
 go_enter func305,Tryz.ntmps305
 go_wp2_with (first
  | (at_builtin;refine KF rfl _ _ _ _ rfl _ _ rfl rfl (YA _) ?_)
  | (at_builtin;refine Sf rfl _ _ 48 48 rfl _ _ rfl rfl (Xh _ _) ?_))
 go_region_law_o (refine Sg rfl _ _ 48 48 rfl _ _ (by simp[Act.eval,Act.put]) (by simp[Act.eval,Act.put]) (Xi _ _ _) ?_)
 go_wp2
 go_ret
 exact⟨G,jm,Y.1,Y.2.1,Y.2.2,rfl,by rw[<-vn];exact X⟩
variable{b:Nat}
theorem Ax{aG:World}{off cap:Nat}{arr:Array Value}{tb:TypeId}{es:List (List Value)}(ar:Row w b off 4 cap arr tb es){x:List Value}{i:Nat}(hi:i<=es.length)(gk:x.length=4)(p9:∀v∈x,v.oneCell'=true)
  {cT o lT:Nat} {A:Array Value} {ty:TypeId} (bI:aG.heap[cT]?=some (.cells A ty (0,0))) (ad:es.length+1<=lT) (dD:o+lT*4<=A.size)
  (zB:∀p,p<i*4->A[o+p]?=arr[off+p]?) (od:∀p,p<4->A[o+i*4+p]?=x[p]?) (hC:∀p,p<(es.length-i)*4->A[o+(i+1)*4+p]?=arr[off+i*4+p]?):
  Row aG cT o 4 lT A ty (es.take i++x::es.drop i):=by
 have af:(es.take i++x::es.drop i).length=es.length+1:=by simp;omega
 have zZ:(es.take i).length=i:=by simp;omega
 refine⟨bI,by rw[af];exact ad,dD,?_,?_,?_⟩
 ·intro e he;rcases gY.1 he with h | h
  ·exact ar.len e (uY h)
  rcases dG.1 h with rfl | h
  ·exact gk
  exact ar.len e (zc h)
 ·intro e he;rcases gY.1 he with h | h
  ·exact ar.one e (uY h)
  rcases dG.1 h with rfl | h
  ·exact p9
  exact ar.one e (zc h)
 intro k j e v hk aM;have xH:=(dK.1 hk).1;rw[af]at xH;by_cases h1:k<i
 ·rw[xf (by omega),gX,a6 h1]at hk;have h4:j<4:=by
   have:=(dK.1 aM).1;have:=ar.len e (e4 hk);omega
  rw[u4,zB _ (by omega),<-u4];exact ar.cell k j e v hk aM
 rw[rY (by omega),zZ]at hk;by_cases U:k=i
 ·subst U;rw[Nat.sub_self,iy,aQ]at hk;subst hk;have h4:=(dK.1 aM).1;rw[od j (by omega)];exact aM
 obtain⟨m,rfl⟩:∃m,k=i+1+m:=⟨k-(i+1),by omega⟩
 rw[show i+1+m-i=m+1 by omega,nY,gV]at hk;have h4:j<4:=by
  have:=(dK.1 aM).1;have:=ar.len e (e4 hk);omega
 have:=ar.cell (i+m) j e v hk aM;rw[<-this,show o+(i+1+m)*4+j=o+(i+1)*4+(m*4+j) by omega,hC _ (by omega)]
 congr 1
 omega
theorem aoo{off cap:Nat}{arr:Array Value}{tb:TypeId}{es:List (List Value)}(ar:Row w b off 4 cap arr tb es):∀x v,off<=x->x<off+es.length*4->arr[x]?=some v->v.oneCell'=true:=by
 intro x v p9 jE bj;have bq:(x-off) / 4<es.length:=by omega
 have he:=fC bq;have hlen:=ar.len _ (rZ bq);have iC:(x-off) % 4<(es[(x-off) / 4]).length:=by omega
 have:=ar.cell _ _ _ _ he (fC iC);rw[show off+(x-off) / 4*4+(x-off) % 4=x by omega,bj]at this;rw[ei this];exact ar.one _ (rZ bq) _ (rZ iC)
variable{own:Nat->Prop}
theorem aop(ah:own b)(hQ:Array Value):oZ ⟨w,own,fun _=>(0,undef)⟩ (w.setRow b hQ):=by
 refine⟨rfl,rfl,rfl,by simp,fun k hk ao=>?_,fun _=>dm _⟩;have:k≠b:=fun e=>ao (by rw[e];exact ah)
 rw[setRow_other _ b k _ this]
theorem Sh{o:Obj}:oZ ⟨w,own,fun _=>(0,undef)⟩ (w.drew.alloc o):=by
 refine⟨rfl,rfl,rfl,by simp[World.alloc],fun k hk _=>?_,fun _=>?_⟩
 ·rw[wI w.drew o hk];rfl
 show w.drawn<=w.drawn+1;omega
theorem aoq{o:Obj}{hQ FR:Array Value}:oZ ⟨w,own,fun _=>(0,undef)⟩ ((((w.drew.alloc o).setRow w.heap.size hQ).drew).setRow w.heap.size FR):=by
 refine⟨rfl,rfl,rfl,by simp[World.alloc],fun k hk _=>?_,fun _=>?_⟩
 ·rw[setRow_other _ _ k _ (by simp only at hk;omega)];show ((w.drew.alloc o).setRow w.heap.size hQ).heap[k]?=w.heap[k]?;rw[setRow_other _ _ k _ (by simp only at hk;omega),wI w.drew o hk];rfl
 show w.drawn<=w.drawn+1+1;omega
theorem aor:∃i0,prog.info? 141=some i0/\i0.size=4/\i0.bytes=32/\i0.zero=some (.agg #[.int .i64 0,.int .i64 0,.int .i64 0,.int .i64 0]):=by
 have di:(prog.info? 141).map (fun x=>(x.size,x.bytes,x.zero))=some (4,32,some (.agg #[.int .i64 0,.int .i64 0,.int .i64 0,.int .i64 0])):=by kernel_rfl
 cases h:prog.info? 141 with
 | none=>rw[h]at di;cases di
 | some i0=>
  rw[h]at di;simp only[mn,aQ,bw]at di;exact⟨i0,rfl,di.1,di.2.1,di.2.2⟩
theorem apT(es:List (List Value))(x:List Value)(i:Nat)(hi:i<=es.length)(af:es.length<=8388608):nm prog 305 [.one (.eM 4 (fE es) none),.one (.ro (I i)),.one (.eM 4 (fE [x]) none)] [.one (.J 4 (fE (es.take i++x::es.drop i)))]:=by
 rintro w vs ω ⟨ao,aL,ag⟩ kE;obtain⟨y,a1,sJ⟩:=ag 0 _ rfl;obtain⟨qI,fJ,YO⟩:=ag 1 _ rfl;obtain⟨z,aR,p'⟩:=ag 2 _ rfl;have e1:qI=.int .i64 i:=bR.Gi YO;subst e1;have oo:=Wh aL a1 fJ aR;subst oo;have gj:prog.underlying 48=some (.slice 141):=by kernel_rfl
 obtain⟨i0,kb,ba,br,b7⟩:=aor;rcases ao.row p' with⟨h,_⟩ | ⟨gf,hz,vc,n',rW,Oa,rfl,vM⟩
 ·cases h
 have gk:x.length=4:=vM.len x (by simp);have p9:∀v∈x,v.oneCell'=true:=vM.one x (by simp);have sI:∀j v,x[j]?=some v->n'[hz+j]?=some v:=fun j v aM=>by simpa using vM.cell 0 j x v rfl aM
 have Dg:∀j v,x[j]?=some v->w.cell? ((⟨gf,hz,none⟩:Addr).add j)=some v:=fun j v aM=>by
  rw[Addr.add_lit];simp[World.cell?,vM.heap,sI j v aM]
 have fin:∀{e:Ending} {aG:World},(∃v,e=.returned v/\FX w aG (fun b=>ω b≠.bx) 4 (es.take i++x::es.drop i) v)->∃v,e=.returned v/\gn ⟨w,fun b=>ω b≠.bx,fun _=>(0,undef)⟩ aG/\
   ∃aY:Own,(∀b,b<w.heap.size->ω b=.bx->aY b=.bx)/\(∀b,aY b≠.bx->(∃t q,aY b=.tok t q)/\∃arr ty,aG.heap[b]?=some (.cells arr ty (0,0)))/\Kept aG aY [.one (.eM 4 (fE es) none),.one (.ro (I i)),.one (.eM 4 (fE [x]) none)] #[y,.int .i64 i,.slice (some ⟨gf,hz,none⟩) [x].length vc]/\mY aG aY [.one (.J 4 (fE (es.take i++x::es.drop i)))] v:=by
  rintro e aG ⟨v,he,fv⟩;obtain⟨aY,U,au,aH⟩:=fv.res;refine⟨v,he,fv.Wk.full kE,aY,U,au,akA ?_,aH⟩;intro fy ke ed k dx cp fw ad
  match fy with
  | 0=>simp at fw;subst fw;simp only[GA.cell]at ad;split at ad<;>simp at ad
  | 1=>simp at fw;subst fw;simp only[GA.cell]at ad;split at ad<;>simp at ad
  | 2=>simp at fw;subst fw;simp only[GA.cell]at ad;split at ad<;>simp at ad
  | _+3=>simp at fw
 rcases ao.row sJ with⟨rfl,a,rfl⟩ | ⟨b,off,cap,arr,tb,cQ,rfl,ar⟩
 ·
  have XJ:i=0:=by simpa using hi
  subst XJ;obtain⟨G,gZ⟩:∃G,G=grownCap w 1 0 141:=⟨_,rfl⟩
  have zC:1<=G:=by rw[gZ];exact grownCap_ge w _ _ _
  have eZ:∀ty,(Builtin.append_ #[48,48] ty #[.slice a 0 0,.slice (some ⟨gf,hz,none⟩) 1 vc]).run prog w=.ok (.slice (some ⟨w.heap.size,0,none⟩) 1 G) (w.drew.alloc (.cells (x.toArray++Builtin.zeroCells (Value.agg #[.int .i64 0,.int .i64 0,.int .i64 0,.int .i64 0]).cells (G-1)) 141)):=by
   intro ty;cases a with
   | none=>
    have:=run_append_nil (P:=prog) w 48 ty 141 i0 _ gj kb b7 ⟨gf,hz,none⟩ 1 vc x (by rw[ba,gk]) Dg (by omega) (by omega) (by rw[br];omega);rw[<-gZ]at this;exact this
   | some cf=>
    have:=run_append_grow (P:=prog) w 48 ty 141 i0 _ gj kb b7 cf 0 0 [] (by simp) (fun j v bj=>by simp at bj) ⟨gf,hz,none⟩ 1 vc x (by rw[ba,gk]) Dg (by omega) (by omega) (growslice_fits (by omega) (by rw[br];omega));simp only[c',<-gZ]at this;simpa using this
  refine (KG a 0 0 gf hz vc w _ _ (dm _) eZ).mono ?_;rintro e aG ⟨rfl,rfl⟩;have aqm:Row w gf 0 4 0 n' rW []:=⟨vM.heap,dm _,by omega,by simp,by simp,by simp⟩
  refine fin ⟨_,rfl,Sh,.inr ⟨w.heap.size,0,G,_,_,.inr (dm _),rfl,Ax aqm (dm _) gk p9 (nJ w.drew _) zC ?_ ?_ ?_ ?_⟩⟩
  ·simp only[qM,kN,size_zeroCells,gk];show 0+G*4<=4+(G-1)*4;omega
  ·intro p hp;simp at hp
  ·intro p hp;rw[hj,a6 (by simp;omega)];simp
  intro p hp;simp at hp
 have b5:gf≠b:=by
  rintro rfl;rw[cQ]at Oa;simp only[cS.tok.injEq,eL]at Oa;omega
 have jC:ω b≠.bx:=by rw[cQ];simp
 have nD:=ar.room;have dD:=ar.fit;have h1:=aoo ar;rcases lN i es.length with bq | mD
 ·rcases lN cap (es.length+1) with eY | eY
  ·
   refine (aon b off es.length cap i gf hz vc arr tb n' rW x w ar.heap vM.heap bq nD eY dD gk sI p9 h1 (by omega)).mono ?_;rintro e aG ⟨G,jm,gZ,CS,CR,rfl,rfl⟩;have jB:i*4+x.length<=jm.size:=by omega
   have lY:=uo jB;have q8:((arr.toList.drop (off+i*4)).take ((es.length-i)*4)).length=(es.length-i)*4:=by simp;omega
   have cU:(i+1)*4+((arr.toList.drop (off+i*4)).take ((es.length-i)*4)).length<=(laid jm (i*4) x).size:=by omega
   refine fin ⟨_,rfl,aoq,.inr ⟨w.heap.size,0,G,_,_,.inr (dm _),by simp;omega,Ax ar hi gk p9 (setRow_heap _ _ _ _ _ (0,0) (setRow_heap (w.drew.alloc _) _ _ _ _ (0,0) (nJ w.drew _))) gZ ?_ ?_ ?_ ?_⟩⟩
   ·rw[uo cU,lY,CS];omega
   ·intro p hp;rw[c',nN cU,aX (by omega),nN jB,aX (by omega)];exact CR p hp
   ·intro p hp;rw[c',nN cU,aX (by omega),nN jB,a6 (by omega)];rw[show i*4+p-i*4=p by omega]
   intro p hp;rw[c',nN cU,a6 (by omega),gX,a6 (by omega),gV,jg];rw[show (i+1)*4+p-(i+1)*4=p by omega]
  -- in Wm,there is room
  refine (aom b off es.length cap i gf hz vc arr tb n' rW x w ar.heap vM.heap b5 bq eY dD gk sI p9 h1 (by omega)).mono ?_;rintro e aG ⟨rfl,rfl⟩;have q8:((arr.toList.drop (off+i*4)).take ((es.length-i)*4)).length=(es.length-i)*4:=by simp;omega
  have jB:off+(i+1)*4+((arr.toList.drop (off+i*4)).take ((es.length-i)*4)).length<=arr.size:=by omega
  have lY:=uo jB;have cU:off+i*4+x.length<=(laid arr (off+(i+1)*4) ((arr.toList.drop (off+i*4)).take ((es.length-i)*4))).size:=by omega
  refine fin ⟨_,rfl,akB jC _ _,.inr ⟨b,off,cap,_,tb,.inl jC,by simp;omega,Ax ar hi gk p9 (setRow_heap _ _ _ _ _ (0,0) (setRow_heap w.drew b arr _ tb (0,0) ar.heap)) eY ?_ ?_ ?_ ?_⟩⟩
  ·rw[uo cU,lY];exact dD
  ·intro p hp;rw[nN cU,aX (by omega),nN jB,aX (by omega)]
  ·intro p hp;rw[nN cU,a6 (by omega)];rw[show off+i*4+p-(off+i*4)=p by omega]
  intro p hp;rw[nN cU,aX (by omega),nN jB,a6 (by omega),gX,a6 (by omega),gV,jg];rw[show off+(i+1)*4+p-(off+(i+1)*4)=p by omega]
 have XL:i=es.length:=by omega
 subst XL;rcases lN cap (es.length+1) with eY | eY
 ·
  obtain⟨oB,holds⟩:∃oB,oB=(arr.toList.drop off).take (es.length*4):=⟨_,rfl⟩
  have p5:oB.length=es.length*4:=by rw[holds];simp;omega
  obtain⟨G,gZ⟩:∃G,G=grownCap w (es.length+1) cap 141:=⟨_,rfl⟩
  have zC:es.length+1<=G:=by rw[gZ];exact grownCap_ge w _ _ _
  have eZ:∀ty,(Builtin.append_ #[48,48] ty #[.slice (some ⟨b,off,none⟩) es.length cap,.slice (some ⟨gf,hz,none⟩) 1 vc]).run prog w=.ok (.slice (some ⟨w.heap.size,0,none⟩) (es.length+1) G) (w.drew.alloc (.cells (oB.toArray++x.toArray++Builtin.zeroCells (Value.agg #[.int .i64 0,.int .i64 0,.int .i64 0,.int .i64 0]).cells (G-(es.length+1))) 141)):=by
   intro ty;have:=run_append_grow (P:=prog) w 48 ty 141 i0 _ gj kb b7 ⟨b,off,none⟩ es.length cap oB (by rw[ba,p5]) (fun j v aM=>by
    rw[holds,gX]at aM;split at aM
    ·rw[gV,jg]at aM;rw[Addr.add_lit];simp[World.cell?,ar.heap,aM]
    cases aM) ⟨gf,hz,none⟩ 1 vc x (by rw[ba,gk]) Dg (by omega) (by omega) (growslice_fits (by omega) (by rw[br];omega))
   rw[<-gZ]at this;exact this
  refine (KG (some ⟨b,off,none⟩) es.length cap gf hz vc w _ _ nD eZ).mono ?_;rintro e aG ⟨rfl,rfl⟩;refine fin ⟨_,rfl,Sh,.inr ⟨w.heap.size,0,G,_,_,.inr (dm _),by simp,Ax ar hi gk p9 (nJ w.drew _) zC ?_ ?_ ?_ ?_⟩⟩
  ·simp only[qM,kN,size_zeroCells,gk,p5];show 0+G*4<=es.length*4+4+(G-(es.length+1))*4;omega
  ·intro p hp;rw[c',hj,a6 (by simp[p5];omega),hj,a6 (by simp[p5];omega)];simp only[nf];rw[holds,gX,a6 hp,gV,jg]
  ·intro p hp;rw[c',hj,a6 (by simp[p5];omega),hj,aX (by simp[p5])];simp only[nf,kN,p5];rw[show es.length*4+p-es.length*4=p by omega]
  intro p hp;simp at hp
 -- at y7 end,there is room
 have eZ:∀ty,(Builtin.append_ #[48,48] ty #[.slice (some ⟨b,off,none⟩) es.length cap,.slice (some ⟨gf,hz,none⟩) 1 vc]).run prog w=.ok (.slice (some ⟨b,off,none⟩) (es.length+1) cap) (w.setRow b (laid arr (off+es.length*4) x)):=by
  intro ty;have:=Iy (P:=prog) (t:=48) (ty:=ty) gj kb w b off es.length cap arr tb ar.heap ⟨gf,hz,none⟩ 1 vc x (by rw[ba,gk]) Dg p9 eY (by rw[ba,gk];omega);rw[ba]at this;exact this
 refine (KG (some ⟨b,off,none⟩) es.length cap gf hz vc w _ _ nD eZ).mono ?_;rintro e aG ⟨rfl,rfl⟩;have jB:off+es.length*4+x.length<=arr.size:=by omega
 refine fin ⟨_,rfl,aop jC _,.inr ⟨b,off,cap,_,tb,.inl jC,by simp,Ax ar hi gk p9 (setRow_heap _ _ _ _ _ (0,0) ar.heap) eY ?_ ?_ ?_ ?_⟩⟩
 ·rw[uo jB];exact dD
 ·intro p hp;rw[nN jB,aX (by omega)]
 ·intro p hp;rw[nN jB,a6 (by omega)];rw[show off+es.length*4+p-(off+es.length*4)=p by omega]
 intro p hp;simp at hp
theorem Cell.CF(xs:List Cell):xs.map Cell.e=fE (xs.map fun r=>r.e.map D.tn):=by
 simp only[fE,List.map_map];rfl
theorem apU(xs:List Cell)(x:Cell)(i:Nat)(hi:i<=xs.length)(af:xs.length<=8388608):nm prog 305 [.one (.eM 4 (xs.map Cell.e) none),.one (.ro (I i)),.one (.eM 4 [x.e] none)] [.one (.J 4 ((xs.take i++x::xs.drop i).map Cell.e))]:=by
 have:=apT (xs.map fun r=>r.e.map D.tn) (x.e.map D.tn) i (by simpa using hi) (by simpa using af);rw[Cell.CF,Cell.CF];simp only[e3,iT,lO,List.map_drop]at this ⊢;exact this
end Go.Proofs.YtdchjefneblpgaaGreat
namespace Go.Proofs.YtdchjefneblpgaaGreat
open Go.Sx Go.RowKit Go.Proofs.Tryz
def nQ(xs:List Cell)(x:Cell):Bool:=xs.any fun a=>decide (a=x)
def lC(xs:List Cell)(x:Cell):Nat:=(xs.findIdx? fun a=>!decide (ik a x<0)).getD xs.length
def kk(xs:List Cell)(x:Cell):List Cell:=if nQ xs x then xs else xs.take (lC xs x)++x::xs.drop (lC xs x)
theorem KH(xs:List Cell)(x:Cell):lC xs x<=xs.length:=by
 unfold lC;cases h:xs.findIdx? (fun a=>!decide (ik a x<0)) with
 | none=>simp
 | some i=>
  rw[qK]at h;have:=h.1;simp;omega
theorem KI(xs:List Cell)(x:Cell):(kk xs x).length<=xs.length+1:=by
 unfold kk;split
 ·omega
 have:=KH xs x;simp;omega
theorem Si(xs:List Cell)(x:Cell)(af:xs.length<=8388608):aK 306 [.one (.J 4 (xs.map Cell.e)),.agg x.e] [.one (B (nQ xs x))]:=by
 have l:=jb (P:=prog) (c:=(az f306 0)) xs (fun a=>decide (a=x)) (fun i=>wF (xs.map Cell.e) x.op x.a8 x.key x.val i) (X:=fun _ _=>IZ true) hd (cL 0)
  (fun i a ag h=>an7 ⟨cg (bh ag),bG,bJ (bh ag),bF Cell.e ag,(I1 a x).trans h,cY (bh ag) af,aj⟩)
  (fun i a ag h=>an6 ⟨cg (bh ag),bG,bJ (bh ag),bF Cell.e ag,(I1 a x).trans h,aj⟩)
  (an8 ⟨dH,aj⟩)
 unfold nQ;rcases l with⟨_,_,h1,U⟩ | ⟨i,a,_,_,_,_,h1,U⟩
 ·rw[h1];exact aoa ⟨U,aj⟩
 rw[h1];exact an9 ⟨U,aj⟩
theorem Sj(xs:List Cell)(x:Cell)(r:Bool)(h:nQ xs x=r)(af:xs.length<=8388608):aK 306 [.one (.J 4 (xs.map Cell.e)),.agg x.e] [.one (B r)]:=h▸Si xs x af
def Dh(xs:List Cell)(x:Cell):Int:=match xs.findIdx? (fun a=>decide (a=x)) with | some i=>i | none=>-1
theorem apV(xs:List Cell)(x:Cell):decide (Dh xs x>=0)=nQ xs x:=by
 unfold Dh nQ;cases h:xs.findIdx? (fun a=>decide (a=x)) with
 | none=>
  have:xs.any (fun a=>decide (a=x))=false:=by
   rw[eW];rw[Cj]at h;exact fun a ag=>by simpa using h a ag
  rw[this];rfl
 | some i=>
  rw[qK]at h;obtain⟨hi,U,_⟩:=h;have:xs.any (fun a=>decide (a=x))=true:=lg.2 ⟨_,rZ hi,U⟩;rw[this];simp
theorem apW(xs:List Cell)(x:Cell)(af:xs.length<=8388608):aK 365 [.one (.J 4 (xs.map Cell.e)),.agg x.e] [.one (I (Dh xs x))]:=by
 have l:=jb (P:=prog) (c:=(az f365 0)) xs (fun a=>decide (a=x)) (fun i=>wB (xs.map Cell.e) x.op x.a8 x.key x.val i) (X:=fun i _=>IW i) hd (cL 0)
  (fun i a ag h=>amL ⟨cg (bh ag),bG,bJ (bh ag),bF Cell.e ag,(RC a x).trans h,cY (bh ag) af,aj⟩)
  (fun i a ag h=>amK ⟨cg (bh ag),bG,bJ (bh ag),bF Cell.e ag,(RC a x).trans h,aj⟩)
  (amM ⟨dH,aj⟩)
 unfold Dh;rcases l with⟨_,h1,_,U⟩ | ⟨i,a,_,_,_,h1,_,U⟩
 ·simp only[h1];exact amO ⟨U,aj⟩
 simp only[h1];exact amN ⟨U,aj⟩
theorem apX(xs:List Cell)(x:Cell)(af:xs.length<=8388608):aK 303 [.one (.J 4 (xs.map Cell.e)),.agg x.e] [.one (B (nQ xs x))]:=by
 rw[<-apV];exact amH ⟨amJ ⟨apW xs x af,aj⟩,aj⟩
theorem Sk(xs:List Cell)(x:Cell)(r:Bool)(h:nQ xs x=r)(af:xs.length<=8388608):aK 303 [.one (.J 4 (xs.map Cell.e)),.agg x.e] [.one (B r)]:=h▸apX xs x af
theorem apY(xs:List Cell)(af:xs.length<=8388608):aK 297 [.one (.J 4 (xs.map Cell.e))] [.one (.J 4 (xs.map Cell.e))]:=
 amG ⟨by simp;omega,by simp;omega,cn _ Cell.flat _,aj⟩
theorem x6(xs:List Cell)(x:Cell)(af:xs.length<=8388608):aK 238 [.one (.J 4 (xs.map Cell.e)),.agg x.e] [.one (.J 4 ((kk xs x).map Cell.e))]:=by
 unfold kk;cases h:nQ xs x with
 | true=>
  rw[a6 rfl];exact aob ⟨Sj xs x true h af,rfl,by simp;omega,by simp;omega,cn _ Cell.flat _,aj⟩
 | false=>
  rw[aX (by simp)];have l:dd prog (az f238 0) (wG (xs.map Cell.e) x.op x.a8 x.key x.val 0) (gO.exit 0) (A1 (xs.map Cell.e) x.op x.a8 x.key x.val (lC xs x)):=by
   have l:=jb (P:=prog) (c:=(az f238 0)) xs (fun a=>!decide (ik a x<0)) (fun i=>wG (xs.map Cell.e) x.op x.a8 x.key x.val i) (X:=fun i _=>A1 (xs.map Cell.e) x.op x.a8 x.key x.val i) (cL 0) (cL 0)
    (fun i a ag h=>aoc ⟨cg (bh ag),bG,bJ (bh ag),bF Cell.e ag,EY a x,by simpa using h,cY (bh ag) af,aj⟩)
    (fun i a ag h=>aod ⟨cg (bh ag),bG,bJ (bh ag),bF Cell.e ag,EY a x,by simpa using h,aj⟩)
    (aoe ⟨dH,aj⟩)
   unfold lC;rcases l with⟨_,h1,_,U⟩ | ⟨i,a,_,_,_,h1,_,U⟩
   ·rw[h1];exact U
   rw[h1];exact U
  have hp:=KH xs x;generalize lC xs x=p at*;refine aoW (aof ⟨Sj xs x false h af,rfl,l,by simp,by simp,by simp;omega,by simp;omega,by simp;omega,?_,by simp;omega,by simp;omega,dk x.flat,by simp,by simp;omega,by simp,by simp;omega,by simp;omega,?_,aj⟩) ?_
  ·simp only[hl,jh,Nat.sub_zero,oX,<-lO];exact cn _ Cell.flat _
  ·simp only[hl,jh,<-lO,<-List.map_drop];exact cn _ Cell.flat _
  simp only[hl,jh,Nat.sub_zero,oX,List.nil_append,<-lO,<-List.map_drop,e3,iT,mo]
  congr 1
  rw[tp (by simp)];rfl
theorem apZ{xs:List Cell}(x:Cell)(af:xs.length<=8388608):aK 237 [.one (.J 4 (xs.map Cell.e)),.agg x.e] [.one (.J 4 ((kk xs x).map Cell.e))]:=by
 have c:=apY xs af;unfold kk;cases h:nQ xs x with
 | true=>
  rw[a6 rfl];exact amf ⟨c,Sk xs x true h af,rfl,aj⟩
 | false=>
  rw[aX (by simp)];have l:dd prog (az f237 0) (wC (xs.map Cell.e) x.op x.a8 x.key x.val (xs.map Cell.e) 0) (gO.exit 0) (AZ x.op x.a8 x.key x.val (xs.map Cell.e) (lC xs x)):=by
   have l:=jb (P:=prog) (c:=(az f237 0)) xs (fun a=>!decide (ik a x<0)) (fun i=>wC (xs.map Cell.e) x.op x.a8 x.key x.val (xs.map Cell.e) i) (X:=fun i _=>AZ x.op x.a8 x.key x.val (xs.map Cell.e) i) (cL 0) (cL 0)
    (fun i a ag h=>amg ⟨cg (bh ag),bG,bJ (bh ag),bF Cell.e ag,QQ a x,by simpa using h,cY (bh ag) af,aj⟩)
    (fun i a ag h=>amh ⟨cg (bh ag),bG,bJ (bh ag),bF Cell.e ag,QQ a x,by simpa using h,aj⟩)
    (ami ⟨dH,aj⟩)
   unfold lC;rcases l with⟨_,h1,_,U⟩ | ⟨i,a,_,_,_,h1,_,U⟩
   ·rw[h1];exact U
   rw[h1];exact U
  exact amj ⟨c,Sk xs x false h af,rfl,l,apU xs x (lC xs x) (KH xs x) af,aj⟩
def l7(out xs:List Cell):List Cell:=xs.foldl kk out
def sZ(c:aU):List Cell:=c.ap.foldl (fun out w=>l7 out w.cells) []
theorem KJ:∀(xs out:List Cell),(l7 out xs).length<=out.length+xs.length
 | [],out=>by simp[l7]
 | x::xs,out=>by
  have h1:=KI out x;have U:=KJ xs (kk out x);simp only[l7,List.foldl_cons,dn]at U ⊢;omega
theorem KK:∀(ws:List aP) (out:List Cell),(ws.foldl (fun out w=>l7 out w.cells) out).length<=out.length+(ws.map aP.sz).sum
 | [],out=>by simp
 | w::ws,out=>by
  have h1:=KJ w.cells out;have U:=KK ws (l7 out w.cells);have au:w.cells.length<=w.sz:=by simp only[aP.sz];omega
  simp only[List.foldl_cons,iT,oY];omega
variable{c:aU}
theorem aU.Fq(h:c.sz<=8388608):(c.ap.map aP.sz).sum<=8388608:=by
 simp only[aU.sz,fp]at h;omega
theorem x7(h:c.sz<=8388608):(sZ c).length<=8388608:=by
 have:=KK c.ap [];have:=aU.Fq h;unfold sZ;simp only[b1] at*;omega
theorem Sl(h:c.sz<=8388608){i:Nat}{w:aP}(hw:c.ap[i]?=some w)(j:Nat):(l7 (jw (fun out w=>l7 out w.cells) [] c.ap i) (w.cells.take j)).length<=8388608:=by
 have h1:=KJ (w.cells.take j) (jw (fun out w=>l7 out w.cells) [] c.ap i);have U:=KK (c.ap.take i) [];have au:=aU.Fq h;have aH:xc aP.sz c.ap (i+1)<=(c.ap.map aP.sz).sum:=akq;rw[akp hw]at aH;have ba:w.cells.length<=w.sz:=by simp only[aP.sz];omega
 simp only[jw,xc,b1,lJ] at*;omega
theorem Sm{out xs:List Cell}{i:Nat}{a:Cell}(h:xs[i]?=some a):l7 out (xs.take (i+1))=kk (l7 out (xs.take i)) a:=by
 simp[l7,lK,h,List.foldl_append]
theorem Sn(c:aU)(ad:c.sz<=8388608):aK 105 [.agg c.e] [.one (.J 4 ((sZ c).map Cell.e))]:=by
 have af:c.ap.length<=8388608:=by have h:=ad;simp only[aU.sz,fp]at h;omega
 let f:=fun (out:List Cell) (w:aP)=>l7 out w.cells
 have inner:∀(i:Nat) (w:aP),c.ap[i]?=some w->dd prog (az f105 1) (yy (c.aF.nodes.map Node.e) c.aF.ap c.aF.cap (c.ap.map aP.e) (c.bQ.map bC.e) (c.tokens.map b'.e) (c.news.map cA.e) i (0:Nat) ((jw f [] c.ap i).map Cell.e)) (gO.exit 2)
   (I0 (c.aF.nodes.map Node.e) c.aF.ap c.aF.cap (c.ap.map aP.e) (c.bQ.map bC.e) (c.tokens.map b'.e) (c.news.map cA.e) i ((jw f [] c.ap (i+1)).map Cell.e)):=by
  intro i w hw;have pa:w.cells.length<=8388608:=by
   have:=yn (sz:=aP.sz) (c8 hw);have:=aU.Fq ad;have ba:w.cells.length<=w.sz:=by simp only[aP.sz];omega
   omega
  have l:=ef (P:=prog) (c:=(az f105 1)) (cL 2) w.cells.length (fun j:Nat=>yy (c.aF.nodes.map Node.e) c.aF.ap c.aF.cap (c.ap.map aP.e) (c.bQ.map bC.e) (c.tokens.map b'.e) (c.news.map cA.e) i j ((l7 (jw f [] c.ap i) (w.cells.take j)).map Cell.e)) (fun j aM=>by
   obtain⟨a,ag⟩:=dv aM;have hle:=Sl ad hw j;rw[Sm ag];exact anw ⟨bG,bJ (bh hw),bF aP.e hw,cg aM,bG,bJ (bh hw),bF aP.e hw,bG,bJ aM,bF Cell.e ag,x6 _ a hle,cY aM pa,aj⟩) (anx ⟨bG,bJ (bh hw),bF aP.e hw,dH,aj⟩)
  rw[hP]at l;rw[sS hw];exact l
 have l:=ef (P:=prog) (c:=(az f105 0)) (cL 0) c.ap.length (fun i:Nat=>A2 (c.aF.nodes.map Node.e) c.aF.ap c.aF.cap (c.ap.map aP.e) (c.bQ.map bC.e) (c.tokens.map b'.e) (c.news.map cA.e) i ((jw f [] c.ap i).map Cell.e)) (fun i hi=>by
  obtain⟨w,hw⟩:=dv hi;exact anz ⟨cg hi,inner i w hw,cY hi af,aj⟩) (anA ⟨dH,aj⟩)
 rw[AS]at l;exact anB ⟨l,aj⟩
theorem Sp(c:aU)(ad:c.sz<=8388608):aK 104 [.agg c.e] [.one (.J 4 ((sZ c).map Cell.e))]:=by
 have af:c.ap.length<=8388608:=by have h:=ad;simp only[aU.sz,fp]at h;omega
 let f:=fun (out:List Cell) (w:aP)=>l7 out w.cells
 have inner:∀(i:Nat) (w:aP),c.ap[i]?=some w->dd prog (az f104 1) (yx (c.ap.map aP.e) i (w.cells.map Cell.e) (0:Nat) ((jw f [] c.ap i).map Cell.e)) (gO.exit 2)
   (IX (c.ap.map aP.e) i ((jw f [] c.ap (i+1)).map Cell.e)):=by
  intro i w hw;have pa:w.cells.length<=8388608:=by
   have:=yn (sz:=aP.sz) (c8 hw);have:=aU.Fq ad;have ba:w.cells.length<=w.sz:=by simp only[aP.sz];omega
   omega
  have l:=ef (P:=prog) (c:=(az f104 1)) (cL 2) w.cells.length (fun j:Nat=>yx (c.ap.map aP.e) i (w.cells.map Cell.e) j ((l7 (jw f [] c.ap i) (w.cells.take j)).map Cell.e)) (fun j aM=>by
   obtain⟨a,ag⟩:=dv aM;have hle:=Sl ad hw j;rw[Sm ag];exact anS ⟨cg aM,bG,bJ aM,bF Cell.e ag,apZ a hle,cY aM pa,aj⟩) (anT ⟨dH,aj⟩)
  rw[hP]at l;rw[sS hw];exact l
 have l:=ef (P:=prog) (c:=(az f104 0)) (cL 0) c.ap.length (fun i:Nat=>A0 (c.ap.map aP.e) i ((jw f [] c.ap i).map Cell.e)) (fun i hi=>by
  obtain⟨w,hw⟩:=dv hi;exact anU ⟨cg hi,bG,bJ hi,bF aP.e hw,inner i w hw,cY hi af,aj⟩) (anV ⟨dH,aj⟩)
 rw[AS]at l;exact anW ⟨l,aj⟩
end Go.Proofs.YtdchjefneblpgaaGreat
namespace Go.Proofs.YtdchjefneblpgaaGreat
open Go.Sx Go.RowKit Go.Proofs.Tryz
def fY(g:bW)(op:Int):Option Node:=if 0<=op then g.nodes[op.toNat]? else none
def kF(g:bW)(x:Cell):Bool:=match fY g x.op with | some n=>n.kind==8 | none=>false
def x8(g:bW)(xs:List Cell):List Cell:=xs.filter (kF g)
variable{g:bW}{a:Int}{w:Node}
theorem Eh(h:fY g a=some w):0<=a/\a<(↑(g.nodes.map Node.e).length:Int)/\(g.nodes.map Node.e)[a.toNat]?=some w.e/\aW a 0 (↑(g.nodes.map Node.e).length-1)=true:=by
 unfold fY at h;split at h
 ·have:=(dK.1 h).1;refine⟨‹_›,by simp;omega,by simp[h],?_⟩;simp only[aW,bp,ci];omega
 cases h
theorem Sq(h:fY g a=none):aW a 0 (↑(g.nodes.map Node.e).length-1)=false:=by
 unfold fY at h;simp only[aW,bp,jO];split at h
 ·rw[List.getElem?_eq_none_iff]at h;omega
 omega
theorem Sr(h:fY g a=some w):w∈g.nodes:=by
 unfold fY at h;split at h
 ·exact e4 h
 cases h
theorem bW.Zg(h:g.sz<=8388608):g.nodes.length<=8388608:=by simp only[bW.sz,fp]at h;omega
theorem bW.H2(h:g.sz<=8388608)(hw:w∈g.nodes):w.outs.length<=8388608:=by
 have:=yn (sz:=Node.sz) hw;simp only[bW.sz,fp]at h;have ba:w.outs.length<=w.sz:=by simp only[Node.sz];omega
 omega
theorem Ei(h:g.sz<=8388608):bf .i64 ((↑(g.nodes.map Node.e).length:Int)-1):=by
 have:=bW.Zg h;exact⟨by simp;omega,by simp;omega⟩
theorem ap0(g:bW)(op:Int)(ao:g.sz<=8388608):aK 250 [.agg g.e,.one (I op)] [.one (B (fY g op).isSome)]:=by
 cases h:fY g op with
 | none=>exact Rr ⟨Ei ao,RB (Sq h),aj⟩
 | some w=>exact Rr ⟨Ei ao,RB (Eh h).2.2.2,aj⟩
theorem Ss(g:bW)(op:Int)(r:Bool)(h:(fY g op).isSome=r)(ao:g.sz<=8388608):aK 250 [.agg g.e,.one (I op)] [.one (B r)]:=h▸ap0 g op ao
def rB(g:bW)(op:Int):Node×Bool:=match fY g op with | some n=>(n,true) | none=>(⟨0,0,0,[]⟩,false)
theorem ap1(n:Int):∀d∈cv n,∃x,d=.v x:=by
 intro d ax;simp only[cv,dG,mr,or_false]at ax;subst ax;exact⟨_,rfl⟩
theorem ap2(g:bW)(op:Int)(ao:g.sz<=8388608):aK 249 [.agg g.e,.one (I op)] [.agg (rB g op).1.e,.one (B (rB g op).2)]:=by
 unfold rB;cases h:fY g op with
 | none=>exact aog ⟨Ei ao,fL _ (Sq h),rfl,aj⟩
 | some w=>
  obtain⟨h1,U,au,aH⟩:=Eh h;have aN:=bW.H2 ao (Sr h);exact aoh ⟨Ei ao,fL _ aH,rfl,h1,U,au,by simp;omega,by simp;omega,cn _ ap1 _,aj⟩
theorem x9(g:bW)(op:Int)(r:Node×Bool)(h:rB g op=r)(ao:g.sz<=8388608):aK 249 [.agg g.e,.one (I op)] [.agg r.1.e,.one (B r.2)]:=h▸ap2 g op ao
theorem ap3(g:bW)(xs:List Cell)(ao:g.sz<=8388608)(af:xs.length<=8388608):aK 133 [.agg g.e,.one (.J 4 (xs.map Cell.e))] [.one (.J 4 ((x8 g xs).map Cell.e))]:=by
 have l:=ef (P:=prog) (c:=(az f133 0)) (cL 0) xs.length (fun i:Nat=>sX (xs.map Cell.e) i (((xs.take i).filter (kF g)).map Cell.e) (g.nodes.map Node.e) g.ap g.cap) (fun i hi=>by
  obtain⟨a,ag⟩:=dv hi;have bl:=vV (kF g) xs i;have ae:=ua (kF g) ag;cases h:fY g a.op with
  | none=>
   have hp:kF g a=false:=by simp[kF,h]
   rw[aX (by simp[hp]),ix]at ae;rw[ae];exact ant ⟨cg hi,bG,bJ hi,bF Cell.e ag,x9 g a.op _ (by unfold rB;rw[h]) ao,rfl,cY hi af,aj⟩
  | some w=>
   have n:=x9 g a.op (w,true) (by unfold rB;rw[h]) ao;by_cases hk:(w.kind==8)=true
   ·have hp:kF g a=true:=by simp only[kF,h];exact hk
    rw[a6 hp]at ae;rw[ae,e3];exact anq ⟨cg hi,bG,bJ hi,bF Cell.e ag,n,rfl,hk,bG,bJ hi,bF Cell.e ag,by simp;omega,by simp;omega,dk a.flat,cY hi af,aj⟩
   have hp:kF g a=false:=by simp only[kF,h];simpa using hk
   rw[aX (by simp[hp]),ix]at ae;rw[ae];exact anr ⟨cg hi,bG,bJ hi,bF Cell.e ag,n,rfl,by simpa using hk,cY hi af,aj⟩) (anu ⟨dH,aj⟩)
 rw[hP]at l;exact anv ⟨l,aj⟩
theorem ap4(g:bW)(xs:List Cell)(ao:g.sz<=8388608)(af:xs.length<=8388608):aK 134 [.agg g.e,.one (.J 4 (xs.map Cell.e))] [.one (.J 4 ((x8 g xs).map Cell.e))]:=by
 have l:=ef (P:=prog) (c:=(az f134 0)) (cL 0) xs.length (fun i:Nat=>sW (xs.map Cell.e) i (((xs.take i).filter (kF g)).map Cell.e) (g.nodes.map Node.e) g.ap g.cap) (fun i hi=>by
  obtain⟨a,ag⟩:=dv hi;have bl:=vV (kF g) xs i;have ae:=ua (kF g) ag;cases h:fY g a.op with
  | none=>
   have hp:kF g a=false:=by simp[kF,h]
   rw[aX (by simp[hp]),ix]at ae;rw[ae];exact amm ⟨cg hi,bG,bJ hi,bF Cell.e ag,Ss g a.op false (by rw[h];rfl) ao,rfl,cY hi af,aj⟩
  | some w=>
   have n:=Ss g a.op true (by rw[h];rfl) ao;obtain⟨h1,U,au,aH⟩:=Eh h;by_cases hk:(w.kind==8)=true
   ·have hp:kF g a=true:=by simp only[kF,h];exact hk
    rw[a6 hp]at ae;rw[ae,e3];exact amk ⟨cg hi,bG,bJ hi,bF Cell.e ag,n,rfl,h1,U,au,hk,by simp;omega,by simp;omega,dk a.flat,cY hi af,aj⟩
   have hp:kF g a=false:=by simp only[kF,h];simpa using hk
   rw[aX (by simp[hp]),ix]at ae;rw[ae];exact aml ⟨cg hi,bG,bJ hi,bF Cell.e ag,n,rfl,h1,U,au,by simpa using hk,cY hi af,aj⟩) (amn ⟨dH,aj⟩)
 rw[hP]at l;exact amo ⟨l,aj⟩
def Ay(c:aU)(e:Int):List Cell:=(x8 c.aF (sZ c)).filter fun x=>x.a8==e
theorem KL{g:bW}{xs:List Cell}(h:xs.length<=8388608):(x8 g xs).length<=8388608:=ni (qL ..) h
theorem ap5{c:aU}{e:Int}(h:c.sz<=8388608):(Ay c e).length<=8388608:=ni (qL ..) (KL (x7 h))
theorem aU.M4{c:aU}(h:c.sz<=8388608):c.aF.sz<=8388608:=by simp only[aU.sz]at h;omega
theorem ap6(c:aU)(e:Int)(ad:c.sz<=8388608):aK 20 [.agg c.e,.one (I e)] [.one (.J 4 ((Ay c e).map Cell.e))]:=by
 have o:=ap3 c.aF (sZ c) (aU.M4 ad) (x7 ad);have af:=KL (g:=c.aF) (x7 ad);unfold Ay;generalize x8 c.aF (sZ c)=xs at*
 let p:=fun x:Cell=>x.a8==e
 have l:=ef (P:=prog) (c:=(az f20 0)) (cL 0) xs.length (fun i:Nat=>wH e (xs.map Cell.e) i (((xs.take i).filter p).map Cell.e)) (fun i hi=>by
  obtain⟨a,ag⟩:=dv hi;have bl:=vV p xs i;have ae:=ua p ag;by_cases hp:p a=true
  ·rw[a6 hp]at ae;rw[ae,e3];exact anC ⟨cg hi,bG,bJ hi,bF Cell.e ag,hp,bG,bJ hi,bF Cell.e ag,by simp;omega,by simp;omega,dk a.flat,cY hi af,aj⟩
  rw[aX hp,ix]at ae;rw[ae];exact anD ⟨cg hi,bG,bJ hi,bF Cell.e ag,kq.2 hp,cY hi af,aj⟩) (anE ⟨dH,aj⟩)
 rw[hP]at l;exact anF ⟨Sn c ad,o,l,aj⟩
theorem ap7(c:aU)(e:Int)(ad:c.sz<=8388608):aK 114 [.agg c.e,.one (I e)] [.one (.J 4 ((Ay c e).map Cell.e))]:=by
 have o:=ap4 c.aF (sZ c) (aU.M4 ad) (x7 ad);have af:=KL (g:=c.aF) (x7 ad);unfold Ay;generalize x8 c.aF (sZ c)=xs at*
 let p:=fun x:Cell=>x.a8==e
 have l:=ef (P:=prog) (c:=(az f114 0)) (cL 0) xs.length (fun i:Nat=>wD e (xs.map Cell.e) i (((xs.take i).filter p).map Cell.e)) (fun i hi=>by
  obtain⟨a,ag⟩:=dv hi;have bl:=vV p xs i;have ae:=ua p ag;by_cases hp:p a=true
  ·rw[a6 hp]at ae;rw[ae,e3];exact anX ⟨cg hi,bG,bJ hi,bF Cell.e ag,hp,by simp;omega,by simp;omega,dk a.flat,cY hi af,aj⟩
  rw[aX hp,ix]at ae;rw[ae];exact anY ⟨cg hi,bG,bJ hi,bF Cell.e ag,kq.2 hp,cY hi af,aj⟩) (anZ ⟨dH,aj⟩)
 rw[hP]at l;exact an0 ⟨Sp c ad,o,l,aj⟩
