import Derived.WalkKit
import Derived.Deep.RegionLaw
import Derived.Shelf.RegionOpenPlain
import Derived.Lib.SliceRun
import Derived.Lib.JoinLaws
import Derived.Lib.Overlaps
import Derived.Lib.AppendZerosOnto
import Derived.Laws.Externs
import Derived.Deep.LoopGhost
import Derived.Lib.Walk
import Derived.Test.YtdchjefneblpgaaGreatC0
set_option linter.unusedVariables false
set_option linter.unusedSimpArgs false
namespace Go.Proofs.YtdchjefneblpgaaGreat
open Go.Sx Go.RowKit Go.Shelf Go.Lib Go.Proofs.Tryz
variable{P:Program}{w:World}{ops:Array Oper}{o:Oper}{a:Act}{Q:Exit->Act->World->Prop}
theorem Rc{rest:List Oper}(FR:o.guard=none)(d s:Operand)(t c5:TypeId)
  (aZ:o.op=.call { callee:=.builtin .copy,args:=#[d,s],argTypes:=#[t,c5] }) (v u:Value) (aG:a.eval d=v) (ai:a.eval s=u) {ot:Value} {aM:World}
  (aH:(Builtin.copy_ #[t,c5] o.type #[v,u]).run P w=.ok ot aM) (h:wpList P ops Q rest (a.put o.dst ot) aM):wpList P ops Q (o::rest) a w:=
 wpList_plain FR fun _ ho=>by
  unfold Oper.wp execOp;simp only[aZ,resolve,invoke,builtin,Sem.run_bind,Sem.run_pure,Result.andThen_ok,List.map_toArray,lL,List.map_nil,aG,ai,aH];exact ho _ _ h
theorem Re{K:Act->World->Prop}{E:Prop}
  (av:o.guard=none) (d x:Operand) (dM bd:TypeId) (ri:o.op=Op.call { callee:=Callee.builtin Builtin.copy,args:=#[d,x],argTypes:=#[dM,bd] })
  (v u:Value) (aG:a.eval d=v) (ak:a.eval x=u) {ot:Value} {aM:World} (aH:(Builtin.copy_ #[dM,bd] o.type #[v,u]).run P w=.ok ot aM) (ho:K (a.put o.dst ot) aM):
  if Region.wanted o (yielded ops a.tmps)=true then Oper.wp P o a w K Q else E:=by
 have hw:Region.wanted o (yielded ops a.tmps)=true:=by simp[Region.wanted,av]
 rw[bM hw];unfold Oper.wp;simp[execOp,ri,resolve,invoke,builtin,aG,ak,aH,Result.andThen];exact ho
theorem J1{rest:List Oper}(FR:o.guard=none)(d s:Operand)(t c5:TypeId)
  (aZ:o.op=.call { callee:=.builtin .append,args:=#[d,s],argTypes:=#[t,c5] }) (v u:Value) (aG:a.eval d=v) (ai:a.eval s=u) {ot:Value} {aM:World}
  (aH:(Builtin.append_ #[t,c5] o.type #[v,u]).run P w=.ok ot aM) (h:wpList P ops Q rest (a.put o.dst ot) aM):wpList P ops Q (o::rest) a w:=
 wpList_plain FR fun _ ho=>by
  unfold Oper.wp execOp;simp only[aZ,resolve,invoke,builtin,Sem.run_bind,Sem.run_pure,Result.andThen_ok,List.map_toArray,lL,List.map_nil,aG,ai,aH];exact ho _ _ h
set_option maxHeartbeats 4000000 in
set_option maxRecDepth 1000000 in
theorem J2(base:Option Addr)(n cap fw gA vc:Nat)(w w1:World)(v:Value)(a8:n<=cap)
  (e5:∀ty,(Builtin.append_ #[48,48] ty #[.slice base n cap,.slice (some ⟨fw,gA,none⟩) 1 vc]).run prog w=.ok v w1):
  Calls prog 305 #[.slice base n cap,.int .i64 n,.slice (some ⟨fw,gA,none⟩) 1 vc] w fun e aM=>e=.returned v/\aM=w1:=by
 have mixed:prog.follows .mixedOrders=true:=by kernel_rfl
 go_enter func305,Tryz.ntmps305
 cases base with
 | none=>
  go_wp2_with (at_builtin;refine J1 rfl _ _ _ _ rfl _ _ rfl rfl (e5 _) ?_)
  all_goals (go_ret;exact⟨rfl,rfl⟩)
 | some a=>
  obtain⟨ab,as8,atb⟩:=a
  go_wp2_with (at_builtin;refine J1 rfl _ _ _ _ rfl _ _ rfl rfl (e5 _) ?_)
  all_goals (go_ret;exact⟨rfl,rfl⟩)
set_option maxHeartbeats 4000000 in
set_option maxRecDepth 1000000 in
theorem aoL(b off n cap i fw gA vc:Nat)(arr:Array Value)(tb:TypeId)(mB:Array Value)(qI:TypeId)(x:List Value)(w:World)(aw:w.heap[b]?=some (.cells arr tb (0,0)))(bz:w.heap[fw]?=some (.cells mB qI (0,0)))(Nx:fw≠b)
  (hi:i<n) (a8:n+1<=cap) (dX:off+cap*4<=arr.size) (fA:x.length=4) (rq:∀j v,x[j]?=some v->mB[gA+j]?=some v) (xY:∀v∈x,v.oneCell'=true)
  (h1:∀x v,off<=x->x<off+n*4->arr[x]?=some v->v.oneCell'=true) (BF:n<8388609):
  Calls prog 305 #[.slice (some ⟨b,off,none⟩) n cap,.int .i64 i,.slice (some ⟨fw,gA,none⟩) 1 vc] w fun e aM=>e=.returned (.slice (some ⟨b,off,none⟩) (n+1) cap)/\
   aM=(w.drew.setRow b (laid arr (off+(i+1)*4) ((arr.toList.drop (off+i*4)).take ((n-i)*4)))).setRow b (laid (laid arr (off+(i+1)*4) ((arr.toList.drop (off+i*4)).take ((n-i)*4))) (off+i*4) x):=by
 obtain⟨mid,oY⟩:∃mid,mid=(arr.toList.drop (off+i*4)).take ((n-i)*4):=⟨_,rfl⟩
 have p5:mid.length=(n-i)*4:=by rw[oY];simp;omega
 have rh:∀u∈mid,u.oneCell'=true:=by
  intro u hu;obtain⟨y,bD⟩:=ox.1 hu;rw[oY,jY]at bD;split at bD
  ·rw[k',lK]at bD;exact h1 _ u (by omega) (by omega) bD
  cases bD
 rw[<-oY];obtain⟨fD,ub⟩:∃fD,fD=laid arr (off+(i+1)*4) mid:=⟨_,rfl⟩
 have mQ:fD.size=arr.size:=by rw[ub];exact sZ (by omega)
 obtain⟨jy,oS⟩:∃jy,jy=w.drew.setRow b fD:=⟨_,rfl⟩
 have gH:jy.heap[b]?=some (.cells fD tb (0,0)):=by rw[oS];exact setRow_heap w.drew b arr fD tb (0,0) aw
 have sD:jy.heap[fw]?=some (.cells mB qI (0,0)):=by rw[oS,setRow_other _ b fw _ Nx];exact bz
 have dN:(prog.info? 141).map (·.size)=some 4:=by kernel_rfl
 have gT:prog.underlying 48=some (.slice 141):=by kernel_rfl
 have Wp:∀ty j3 jr,(Builtin.copy_ #[48,48] ty #[.slice (some ⟨b,off+(i+1)*4,none⟩) (n-i) j3,.slice (some ⟨b,off+i*4,none⟩) (n+1-i) jr]).run prog w.drew=.ok (goInt (Nat.min (n+1-i) (n-i))) jy:=by
  intro ty j3 jr;have uo:Nat.min (n+1-i) (n-i)=n-i:=by simp only[Nat.min_def];split<;>omega
  rw[oS,ub];refine C' w.drew _ _ ty _ 4 b (off+(i+1)*4) _ j3 arr tb ⟨b,off+i*4,none⟩ _ jr mid gT dN aw (by rw[uo,p5]) (fun j v bg=>?_) (by omega) rh;rw[oY,jY]at bg;split at bg
  ·rw[k',lK]at bg;rw[Addr.add_lit];have eh:w.drew.heap[b]?=some (.cells arr tb (0,0)):=aw;simp[World.cell?,eh,bg]
  cases bg
 obtain⟨qR,ud⟩:∃qR,qR=jy.setRow b (laid fD (off+i*4) x):=⟨_,rfl⟩
 have Wq:∀ty j3,(Builtin.copy_ #[48,48] ty #[.slice (some ⟨b,off+i*4,none⟩) (n+1-i) j3,.slice (some ⟨fw,gA,none⟩) 1 vc]).run prog jy=.ok (goInt (Nat.min 1 (n+1-i))) qR:=by
  intro ty j3;have uo:Nat.min 1 (n+1-i)=1:=by simp only[Nat.min_def];split<;>omega
  rw[ud];refine C' jy _ _ ty _ 4 b (off+i*4) _ j3 fD tb ⟨fw,gA,none⟩ _ vc x gT dN gH (by rw[uo,fA]) (fun j v bg=>?_) (by omega) xY;rw[Addr.add_lit];simp[World.cell?,sD,rq j v bg]
 have Xn:∀G9 E7,(callFunc 337 #[.slice (some ⟨fw,gA,none⟩) 1 vc,.slice (some ⟨b,off+(i+1)*4,none⟩) G9 E7]).run prog w=.ok (.value (.bool false)) w:=fun G9 E7=>by
  rw[run_callFunc_extern (P:=prog) func337 (by kernel_rfl) (by kernel_rfl) (by kernel_rfl) (e:=Extern.SlicesOverlaps.overlaps #[48,48] #[4]) (by kernel_rfl),
   Lib.run_overlaps_apart w 48 4 141 gT 4 (fun w=>by simp[sizeOf,typeInfo];kernel_rfl) ⟨fw,gA,none⟩ ⟨b,off+(i+1)*4,none⟩ 1 vc G9 E7 Nx qI tb mB.size arr.size (by simp[World.shape?,bz]) (by simp[World.shape?,aw]) (by omega) (by simp[World.frozen?,bz]) (by simp[World.frozen?,bz])]
  rfl
 have X:Aside (qR=(w.drew.setRow b fD).setRow b (laid fD (off+i*4) x)):=by rw[ud,oS];trivial
 have mN:i<=n:=by omega
 have XN:IntKind.i64.wrap ((i:Int)+1)=(i:Int)+1:=by rw[IntKind.wrap_i64];omega
 have XO:IntKind.i64.wrap ((n:Int)+1)=(n:Int)+1:=by rw[IntKind.wrap_i64];omega
 have ha:(0:Int)<=(i:Int)+1:=by omega
 have XD:((i:Int)+1).toNat=i+1:=by omega
 have aug:((n:Int)+1).toNat=n+1:=by omega
 have gI:¬(cap=i+1):=by omega
 have BE:(i:Int)+1<=(n:Int)+1:=by omega
 have yb:¬(cap=i):=by omega
 have Wd:(i:Int)<=(n:Int)+1:=by omega
 have p':¬((i:Int)=(n:Int)):=by omega
 have mixed:prog.follows .mixedOrders=true:=by kernel_rfl
 clear oS ud gH sD aw bz oY p5 rh mQ dN gT h1 xY rq fA
 go_enter func305,Tryz.ntmps305
 go_wp2_with (simp only[Xn])
 go_region_law_o (refine Re rfl _ _ 48 48 rfl _ _ (by simp[Act.eval,Act.put]) (by simp[Act.eval,Act.put]) (Wp _ _ _) ?_)
 go_wp2_with (at_builtin;refine Rc rfl _ _ 48 48 rfl _ _ rfl rfl (Wq _ _) ?_)
 go_ret
 exact⟨rfl,by rw[<-ub];exact X⟩
set_option maxHeartbeats 4000000 in
set_option maxRecDepth 1000000 in
theorem aoM(b off n cap i fw gA vc:Nat)(arr:Array Value)(tb:TypeId)(mB:Array Value)(qI:TypeId)(x:List Value)(w:World)(aw:w.heap[b]?=some (.cells arr tb (0,0)))(bz:w.heap[fw]?=some (.cells mB qI (0,0)))
  (hi:i<n) (a8:n<=cap) (av:cap<n+1) (dX:off+cap*4<=arr.size) (fA:x.length=4) (rq:∀j v,x[j]?=some v->mB[gA+j]?=some v) (xY:∀v∈x,v.oneCell'=true)
  (h1:∀x v,off<=x->x<off+n*4->arr[x]?=some v->v.oneCell'=true) (BF:n<8388609):
  Calls prog 305 #[.slice (some ⟨b,off,none⟩) n cap,.int .i64 i,.slice (some ⟨fw,gA,none⟩) 1 vc] w fun e aM=>∃(G:Nat) (h':Array Value),n+1<=G/\h'.size=G*4/\(∀y,y<i*4->h'[y]?=arr[off+y]?)/\e=.returned (.slice (some ⟨w.heap.size,0,none⟩) (n+1) G)/\
   aM=(((w.drew.alloc (.cells h' 141)).setRow w.heap.size (laid h' (i*4) x)).drew).setRow w.heap.size (laid (laid h' (i*4) x) ((i+1)*4) ((arr.toList.drop (off+i*4)).take ((n-i)*4))):=by
 obtain⟨mid,oY⟩:∃mid,mid=(arr.toList.drop (off+i*4)).take ((n-i)*4):=⟨_,rfl⟩
 have p5:mid.length=(n-i)*4:=by rw[oY];simp;omega
 have rh:∀u∈mid,u.oneCell'=true:=by
  intro u hu;obtain⟨y,bD⟩:=ox.1 hu;rw[oY,jY]at bD;split at bD
  ·rw[k',lK]at bD;exact h1 _ u (by omega) (by omega) bD
  cases bD
 rw[<-oY];have gT:prog.underlying 48=some (.slice 141):=by kernel_rfl
 have Nt:prog.underlying 3=some (.int .i64):=by kernel_rfl
 have dN:(prog.info? 141).map (·.size)=some 4:=by kernel_rfl
 have FE:(prog.info? 141).map (fun x=>(x.bytes,x.zero))=some (32,some (.agg #[.int .i64 0,.int .i64 0,.int .i64 0,.int .i64 0])):=by kernel_rfl
 obtain⟨nc,holds⟩:∃nc,nc=(arr.toList.drop off).take (i*4):=⟨_,rfl⟩
 have o0:nc.length=i*4:=by rw[holds];simp;omega
 obtain⟨G,gg⟩:∃G,G=grownCap w (n+1) cap 141:=⟨_,rfl⟩
 have x':n+1<=G:=by rw[gg];exact grownCap_ge w _ _ _
 have atx:G<=9223372036854775807:=by
  have:=grownCap_le_maxLen w (n+1) cap 141 (by unfold maxLen;omega);rw[<-gg]at this;unfold maxLen at this;omega
 obtain⟨h',BA⟩:∃h':Array Value,h'=nc.toArray++Builtin.zeroCells (Value.agg #[.int .i64 0,.int .i64 0,.int .i64 0,.int .i64 0]).cells (n+1-i)++Builtin.zeroCells (Value.agg #[.int .i64 0,.int .i64 0,.int .i64 0,.int .i64 0]).cells (G-(n+1)):=⟨_,rfl⟩
 have BC:h'.size=G*4:=by
  rw[BA];simp only[sb,nC,size_zeroCells,o0];show i*4+(n+1-i)*4+(G-(n+1))*4=G*4;omega
 have BB:∀y,y<i*4->h'[y]?=arr[off+y]?:=by
  intro y bD;rw[BA,iD,bM (by simp[size_zeroCells];omega),iD,bM (by simp;omega)];simp only[nB];rw[holds,jY,bM bD,k',lK]
 obtain⟨mz,vU⟩:∃mz,mz=w.drew.alloc (.cells h' 141):=⟨_,rfl⟩
 have Fy:mz.heap[w.heap.size]?=some (.cells h' 141 (0,0)):=by rw[vU];exact ma w.drew _
 have ue:b<w.heap.size:=(iE.1 aw).1;have Gi:fw<w.heap.size:=(iE.1 bz).1;have ha:mz.heap[b]?=some (.cells arr tb (0,0)):=by rw[vU,u4 w.drew _ ue];exact aw
 have B1:mz.heap[fw]?=some (.cells mB qI (0,0)):=by rw[vU,u4 w.drew _ Gi];exact bz
 have Xw:∀ty,(Builtin.append_ #[48,3] ty #[.slice (some ⟨b,off,none⟩) i cap,.int .i64 ((n:Int)+1-(i:Int))]).run prog w=.ok (.slice (some ⟨w.heap.size,0,none⟩) (n+1) G) mz:=by
  intro ty;cases j8:prog.info? 141 with
  | none=>rw[j8]at dN;cases dN
  | some i0=>
   rw[j8]at dN FE;have aX:i0.size=4:=by simpa using dN
   obtain⟨bx,bN⟩:i0.bytes=32/\i0.zero=some (.agg #[.int .i64 0,.int .i64 0,.int .i64 0,.int .i64 0]):=by simpa using FE
   have hold:(Builtin.firstCells i0.size i (.slice (some ⟨b,off,none⟩) i cap)).run prog w.drew=.ok nc.toArray w.drew:=by
    rw[aX];refine run_firstCells_some w.drew 4 i ⟨b,off,none⟩ i cap nc o0 (fun j v bg=>?_);rw[Addr.add_lit];rw[holds,jY]at bg;split at bg
    ·rw[k',lK]at bg;have eh:w.drew.heap[b]?=some (.cells arr tb (0,0)):=aw;simp[World.cell?,eh,bg]
    cases bg
   have M4:i+(n+1-i)=n+1:=by omega
   have h:=Lib.run_append_grow_zeros w 48 3 ty 141 i0 _ .i64 .i64 gT Nt j8 bN (some ⟨b,off,none⟩) i cap nc hold (n+1-i) (by omega) (by omega) (by omega) (by omega) (by rw[bx];omega) (by rw[bx,M4];exact growslice_fits av (by omega));rw[M4,<-gg,<-BA,<-vU]at h;rw[show (n:Int)+1-(i:Int)=((n+1-i:Nat):Int) by omega];exact h
 obtain⟨fD,ub⟩:∃fD,fD=laid h' (i*4) x:=⟨_,rfl⟩
 have mQ:fD.size=h'.size:=by rw[ub];exact sZ (by omega)
 obtain⟨jy,oS⟩:∃jy,jy=mz.setRow w.heap.size fD:=⟨_,rfl⟩
 have MJ:jy.heap[w.heap.size]?=some (.cells fD 141 (0,0)):=by rw[oS];exact setRow_heap mz _ h' fD _ (0,0) Fy
 have gH:jy.heap[b]?=some (.cells arr tb (0,0)):=by rw[oS,setRow_other _ _ b _ (by omega)];exact ha
 have Wr:∀ty j3,(Builtin.copy_ #[48,48] ty #[.slice (some ⟨w.heap.size,i*4,none⟩) (n+1-i) j3,.slice (some ⟨fw,gA,none⟩) 1 vc]).run prog mz=.ok (goInt (Nat.min 1 (n+1-i))) jy:=by
  intro ty j3;have uo:Nat.min 1 (n+1-i)=1:=by simp only[Nat.min_def];split<;>omega
  rw[oS,ub];refine C' mz _ _ ty _ 4 _ (i*4) _ j3 h' _ ⟨fw,gA,none⟩ _ vc x gT dN Fy (by rw[uo,fA]) (fun j v bg=>?_) (by omega) xY;rw[Addr.add_lit];simp[World.cell?,B1,rq j v bg]
 obtain⟨qR,ud⟩:∃qR,qR=jy.drew.setRow w.heap.size (laid fD ((i+1)*4) mid):=⟨_,rfl⟩
 have Ws:∀ty j3 jr,(Builtin.copy_ #[48,48] ty #[.slice (some ⟨w.heap.size,(i+1)*4,none⟩) (n-i) j3,.slice (some ⟨b,off+i*4,none⟩) (n-i) jr]).run prog jy.drew=.ok (goInt (Nat.min (n-i) (n-i))) qR:=by
  intro ty j3 jr;have uo:Nat.min (n-i) (n-i)=n-i:=Nat.min_self _;rw[ud];refine C' jy.drew _ _ ty _ 4 _ ((i+1)*4) _ j3 fD _ ⟨b,off+i*4,none⟩ _ jr mid gT dN MJ (by rw[uo,p5]) (fun j v bg=>?_) (by omega) rh;rw[Addr.add_lit];rw[oY,jY]at bg;split at bg
  ·rw[k',lK]at bg;have eh:jy.drew.heap[b]?=some (.cells arr tb (0,0)):=gH;simp[World.cell?,eh,bg]
  cases bg
 have X:Aside (qR=(((w.drew.alloc (.cells h' 141)).setRow w.heap.size fD).drew).setRow w.heap.size (laid fD ((i+1)*4) mid)):=by rw[ud,oS,vU];trivial
 have Y:Aside (n+1<=G/\h'.size=G*4/\∀y,y<i*4->h'[y]?=arr[off+y]?):=⟨x',BC,BB⟩
 have p':¬((i:Int)=(n:Int)):=by omega
 have XS:(cap:Int)<(n:Int)+1:=by omega
 have XN:IntKind.i64.wrap ((i:Int)+1)=(i:Int)+1:=by rw[IntKind.wrap_i64];omega
 have XO:IntKind.i64.wrap ((n:Int)+1)=(n:Int)+1:=by rw[IntKind.wrap_i64];omega
 have auk:IntKind.i64.wrap ((n:Int)+1-(i:Int))=(n:Int)+1-(i:Int):=by rw[IntKind.wrap_i64];omega
 have atD:(0:Int)<=(i:Int)+1:=by omega
 have mN:i<=n:=by omega
 have XD:((i:Int)+1).toNat=i+1:=by omega
 have BE:(i:Int)<=(n:Int):=by omega
 have Wd:(i:Int)<=(n:Int)+1:=by omega
 have atF:(i:Int)+1<=(n:Int)+1:=by omega
 have aty:¬(G=i):=by omega
 have atz:¬(G=i+1):=by omega
 have atH:¬(cap=i):=by omega
 have atX:i<=G:=by omega
 have atY:i<=cap:=by omega
 have mixed:prog.follows .mixedOrders=true:=by kernel_rfl
 clear oS ud gH aw bz oY p5 rh mQ dN gT h1 xY rq fA BB BC Fy MJ ha B1 vU BA holds o0 Nt FE gg
 go_enter func305,Tryz.ntmps305
 go_wp2_with (first
  | (at_builtin;refine J1 rfl _ _ _ _ rfl _ _ rfl rfl (Xw _) ?_)
  | (at_builtin;refine Rc rfl _ _ 48 48 rfl _ _ rfl rfl (Wr _ _) ?_))
 go_region_law_o (refine Re rfl _ _ 48 48 rfl _ _ (by simp[Act.eval,Act.put]) (by simp[Act.eval,Act.put]) (Ws _ _ _) ?_)
 go_wp2
 go_ret
 exact⟨G,h',Y.1,Y.2.1,Y.2.2,rfl,by rw[<-ub];exact X⟩
variable{b:Nat}
theorem zN{aM:World}{off cap:Nat}{arr:Array Value}{tb:TypeId}{es:List (List Value)}(aH:Row w b off 4 cap arr tb es){x:List Value}{i:Nat}(hi:i<=es.length)(fA:x.length=4)(o9:∀v∈x,v.oneCell'=true)
  {da o kQ:Nat} {A:Array Value} {ty:TypeId} (bH:aM.heap[da]?=some (.cells A ty (0,0))) (al:es.length+1<=kQ) (dX:o+kQ*4<=A.size)
  (x9:∀p,p<i*4->A[o+p]?=arr[off+p]?) (vT:∀p,p<4->A[o+i*4+p]?=x[p]?) (hC:∀p,p<(es.length-i)*4->A[o+(i+1)*4+p]?=arr[off+i*4+p]?):
  Row aM da o 4 kQ A ty (es.take i++x::es.drop i):=by
 have ap:(es.take i++x::es.drop i).length=es.length+1:=by simp;omega
 have yz:(es.take i).length=i:=by simp;omega
 refine⟨bH,by rw[ap];exact al,dX,?_,?_,?_⟩
 ·intro e he;rcases lM.1 he with h | h
  ·exact aH.len e (A0 h)
  rcases ev.1 h with rfl | h
  ·exact fA
  exact aH.len e (EK h)
 ·intro e he;rcases lM.1 he with h | h
  ·exact aH.one e (A0 h)
  rcases ev.1 h with rfl | h
  ·exact o9
  exact aH.one e (EK h)
 intro k j e v hk bg;have ym:=(fy.1 hk).1;rw[ap]at ym;by_cases h1:k<i
 ·rw[EJ (by omega),jY,bM h1]at hk;have jR:j<4:=by
   have:=(fy.1 bg).1;have:=aH.len e (fl hk);omega
  rw[ER,x9 _ (by omega),<-ER];exact aH.cell k j e v hk bg
 rw[EI (by omega),yz]at hk;by_cases U:k=i
 ·subst U;rw[Nat.sub_self,kJ,aS]at hk;subst hk;have jR:=(fy.1 bg).1;rw[vT j (by omega)];exact bg
 obtain⟨m,rfl⟩:∃m,k=i+1+m:=⟨k-(i+1),by omega⟩
 rw[show i+1+m-i=m+1 by omega,nE,k']at hk;have jR:j<4:=by
  have:=(fy.1 bg).1;have:=aH.len e (fl hk);omega
 have:=aH.cell (i+m) j e v hk bg;rw[<-this,show o+(i+1+m)*4+j=o+(i+1)*4+(m*4+j) by omega,hC _ (by omega)]
 congr 1
 omega
theorem aoN{off cap:Nat}{arr:Array Value}{tb:TypeId}{es:List (List Value)}(aH:Row w b off 4 cap arr tb es):∀x v,off<=x->x<off+es.length*4->arr[x]?=some v->v.oneCell'=true:=by
 intro x v o9 ji bz;have bJ:(x-off) / 4<es.length:=by omega
 have he:=iZ bJ;have hlen:=aH.len _ (qM bJ);have jS:(x-off) % 4<(es[(x-off) / 4]).length:=by omega
 have:=aH.cell _ _ _ _ he (iZ jS);rw[show off+(x-off) / 4*4+(x-off) % 4=x by omega,bz]at this;rw[gQ this];exact aH.one _ (qM bJ) _ (qM jS)
variable{own:Nat->Prop}
theorem aoO(aw:own b)(fD:Array Value):tN ⟨w,own,fun _=>(0,undef)⟩ (w.setRow b fD):=by
 refine⟨rfl,rfl,rfl,by simp,fun k hk av=>?_,fun _=>ga _⟩;have:k≠b:=fun e=>av (by rw[e];exact aw)
 rw[setRow_other _ b k _ this]
theorem Rf{o:Obj}:tN ⟨w,own,fun _=>(0,undef)⟩ (w.drew.alloc o):=by
 refine⟨rfl,rfl,rfl,by simp[World.alloc],fun k hk _=>?_,fun _=>?_⟩
 ·rw[u4 w.drew o hk];rfl
 show w.drawn<=w.drawn+1;omega
theorem aoP{o:Obj}{fD ET:Array Value}:tN ⟨w,own,fun _=>(0,undef)⟩ ((((w.drew.alloc o).setRow w.heap.size fD).drew).setRow w.heap.size ET):=by
 refine⟨rfl,rfl,rfl,by simp[World.alloc],fun k hk _=>?_,fun _=>?_⟩
 ·rw[setRow_other _ _ k _ (by simp only at hk;omega)];show ((w.drew.alloc o).setRow w.heap.size fD).heap[k]?=w.heap[k]?;rw[setRow_other _ _ k _ (by simp only at hk;omega),u4 w.drew o hk];rfl
 show w.drawn<=w.drawn+1+1;omega
theorem aoQ:∃i0,prog.info? 141=some i0/\i0.size=4/\i0.bytes=32/\i0.zero=some (.agg #[.int .i64 0,.int .i64 0,.int .i64 0,.int .i64 0]):=by
 have dN:(prog.info? 141).map (fun x=>(x.size,x.bytes,x.zero))=some (4,32,some (.agg #[.int .i64 0,.int .i64 0,.int .i64 0,.int .i64 0])):=by kernel_rfl
 cases h:prog.info? 141 with
 | none=>rw[h]at dN;cases dN
 | some i0=>
  rw[h]at dN;simp only[qL,aS,bq]at dN;exact⟨i0,rfl,dN.1,dN.2.1,dN.2.2⟩
theorem aoR(es:List (List Value))(x:List Value)(i:Nat)(hi:i<=es.length)(ap:es.length<=8388608):kj prog 305 [.one (.eV 4 (fK es) none),.one (.ro (I i)),.one (.eV 4 (fK [x]) none)] [.one (.J 4 (fK (es.take i++x::es.drop i)))]:=by
 rintro w vs ω ⟨av,a8,ag⟩ o8;obtain⟨y,bD,ks⟩:=ag 0 _ rfl;obtain⟨nA,gv,XH⟩:=ag 1 _ rfl;obtain⟨z,bk,p'⟩:=ag 2 _ rfl;have e1:nA=.int .i64 i:=bQ.VT XH;subst e1;have sE:=VA a8 bD gv bk;subst sE;have gT:prog.underlying 48=some (.slice 141):=by kernel_rfl
 obtain⟨i0,j8,aX,bx,bN⟩:=aoQ;rcases av.row p' with⟨h,_⟩ | ⟨fw,gA,vc,mB,qI,NF,rfl,uv⟩
 ·cases h
 have fA:x.length=4:=uv.len x (by simp);have o9:∀v∈x,v.oneCell'=true:=uv.one x (by simp);have rq:∀j v,x[j]?=some v->mB[gA+j]?=some v:=fun j v bg=>by simpa using uv.cell 0 j x v rfl bg
 have B3:∀j v,x[j]?=some v->w.cell? ((⟨fw,gA,none⟩:Addr).add j)=some v:=fun j v bg=>by
  rw[Addr.add_lit];simp[World.cell?,uv.heap,rq j v bg]
 have fin:∀{e:Ending} {aM:World},(∃v,e=.returned v/\EX w aM (fun b=>ω b≠.bt) 4 (es.take i++x::es.drop i) v)->∃v,e=.returned v/\fO ⟨w,fun b=>ω b≠.bt,fun _=>(0,undef)⟩ aM/\
   ∃a7:Own,(∀b,b<w.heap.size->ω b=.bt->a7 b=.bt)/\(∀b,a7 b≠.bt->(∃t q,a7 b=.tok t q)/\∃arr ty,aM.heap[b]?=some (.cells arr ty (0,0)))/\Kept aM a7 [.one (.eV 4 (fK es) none),.one (.ro (I i)),.one (.eV 4 (fK [x]) none)] #[y,.int .i64 i,.slice (some ⟨fw,gA,none⟩) [x].length vc]/\lE aM a7 [.one (.J 4 (fK (es.take i++x::es.drop i)))] v:=by
  rintro e aM ⟨v,he,cv⟩;obtain⟨a7,U,ax,aI⟩:=cv.res;refine⟨v,he,cv.VC.full o8,a7,U,ax,aki ?_,aI⟩;intro fm jT eF k dx cm kV al
  match fm with
  | 0=>simp at kV;subst kV;simp only[GA.cell]at al;split at al<;>simp at al
  | 1=>simp at kV;subst kV;simp only[GA.cell]at al;split at al<;>simp at al
  | 2=>simp at kV;subst kV;simp only[GA.cell]at al;split at al<;>simp at al
  | _+3=>simp at kV
 rcases av.row ks with⟨rfl,a,rfl⟩ | ⟨b,off,cap,arr,tb,c7,rfl,aH⟩
 ·-- no element
  have WS:i=0:=by simpa using hi
  subst WS;obtain⟨G,gg⟩:∃G,G=grownCap w 1 0 141:=⟨_,rfl⟩
  have x':1<=G:=by rw[gg];exact grownCap_ge w _ _ _
  have e5:∀ty,(Builtin.append_ #[48,48] ty #[.slice a 0 0,.slice (some ⟨fw,gA,none⟩) 1 vc]).run prog w=.ok (.slice (some ⟨w.heap.size,0,none⟩) 1 G) (w.drew.alloc (.cells (x.toArray++Builtin.zeroCells (Value.agg #[.int .i64 0,.int .i64 0,.int .i64 0,.int .i64 0]).cells (G-1)) 141)):=by
   intro ty;cases a with
   | none=>
    have:=run_append_nil (P:=prog) w 48 ty 141 i0 _ gT j8 bN ⟨fw,gA,none⟩ 1 vc x (by rw[aX,fA]) B3 (by omega) (by omega) (by rw[bx];omega);rw[<-gg]at this;exact this
   | some cc=>
    have:=run_append_grow (P:=prog) w 48 ty 141 i0 _ gT j8 bN cc 0 0 [] (by simp) (fun j v bz=>by simp at bz) ⟨fw,gA,none⟩ 1 vc x (by rw[aX,fA]) B3 (by omega) (by omega) (growslice_fits (by omega) (by rw[bx];omega));simp only[dF,<-gg]at this;simpa using this
  refine (J2 a 0 0 fw gA vc w _ _ (ga _) e5).mono ?_;rintro e aM ⟨rfl,rfl⟩;have asd:Row w fw 0 4 0 mB qI []:=⟨uv.heap,ga _,by omega,by simp,by simp,by simp⟩
  refine fin ⟨_,rfl,Rf,.inr ⟨w.heap.size,0,G,_,_,.inr (ga _),rfl,zN asd (ga _) fA o9 (ma w.drew _) x' ?_ ?_ ?_ ?_⟩⟩
  ·simp only[sb,nC,size_zeroCells,fA];show 0+G*4<=4+(G-1)*4;omega
  ·intro p hp;simp at hp
  ·intro p hp;rw[iD,bM (by simp;omega)];simp
  intro p hp;simp at hp
 have c3:fw≠b:=by
  rintro rfl;rw[c7]at NF;simp only[c0.tok.injEq,e4]at NF;omega
 have o2:ω b≠.bt:=by rw[c7];simp
 have o6:=aH.room;have dX:=aH.fit;have h1:=aoN aH;rcases oB i es.length with bJ | nW
 ·rcases oB cap (es.length+1) with fS | fS
  ·-- in VE,no room
   refine (aoM b off es.length cap i fw gA vc arr tb mB qI x w aH.heap uv.heap bJ o6 fS dX fA rq o9 h1 (by omega)).mono ?_;rintro e aM ⟨G,h',gg,BC,BB,rfl,rfl⟩;have jf:i*4+x.length<=h'.size:=by omega
   have mQ:=sZ jf;have p5:((arr.toList.drop (off+i*4)).take ((es.length-i)*4)).length=(es.length-i)*4:=by simp;omega
   have cR:(i+1)*4+((arr.toList.drop (off+i*4)).take ((es.length-i)*4)).length<=(laid h' (i*4) x).size:=by omega
   refine fin ⟨_,rfl,aoP,.inr ⟨w.heap.size,0,G,_,_,.inr (ga _),by simp;omega,zN aH hi fA o9 (setRow_heap _ _ _ _ _ (0,0) (setRow_heap (w.drew.alloc _) _ _ _ _ (0,0) (ma w.drew _))) gg ?_ ?_ ?_ ?_⟩⟩
   ·rw[sZ cR,mQ,BC];omega
   ·intro p hp;rw[dF,mf cR,bG (by omega),mf jf,bG (by omega)];exact BB p hp
   ·intro p hp;rw[dF,mf cR,bG (by omega),mf jf,bM (by omega)];rw[show i*4+p-i*4=p by omega]
   intro p hp;rw[dF,mf cR,bM (by omega),jY,bM (by omega),k',lK];rw[show (i+1)*4+p-(i+1)*4=p by omega]
  -- in VE,there is room
  refine (aoL b off es.length cap i fw gA vc arr tb mB qI x w aH.heap uv.heap c3 bJ fS dX fA rq o9 h1 (by omega)).mono ?_;rintro e aM ⟨rfl,rfl⟩;have p5:((arr.toList.drop (off+i*4)).take ((es.length-i)*4)).length=(es.length-i)*4:=by simp;omega
  have jf:off+(i+1)*4+((arr.toList.drop (off+i*4)).take ((es.length-i)*4)).length<=arr.size:=by omega
  have mQ:=sZ jf;have cR:off+i*4+x.length<=(laid arr (off+(i+1)*4) ((arr.toList.drop (off+i*4)).take ((es.length-i)*4))).size:=by omega
  refine fin ⟨_,rfl,akj o2 _ _,.inr ⟨b,off,cap,_,tb,.inl o2,by simp;omega,zN aH hi fA o9 (setRow_heap _ _ _ _ _ (0,0) (setRow_heap w.drew b arr _ tb (0,0) aH.heap)) fS ?_ ?_ ?_ ?_⟩⟩
  ·rw[sZ cR,mQ];exact dX
  ·intro p hp;rw[mf cR,bG (by omega),mf jf,bG (by omega)]
  ·intro p hp;rw[mf cR,bM (by omega)];rw[show off+i*4+p-(off+i*4)=p by omega]
  intro p hp;rw[mf cR,bG (by omega),mf jf,bM (by omega),jY,bM (by omega),k',lK];rw[show off+(i+1)*4+p-(off+(i+1)*4)=p by omega]
 have WU:i=es.length:=by omega
 subst WU;rcases oB cap (es.length+1) with fS | fS
 ·-- at TN end,no room
  obtain⟨nc,holds⟩:∃nc,nc=(arr.toList.drop off).take (es.length*4):=⟨_,rfl⟩
  have o0:nc.length=es.length*4:=by rw[holds];simp;omega
  obtain⟨G,gg⟩:∃G,G=grownCap w (es.length+1) cap 141:=⟨_,rfl⟩
  have x':es.length+1<=G:=by rw[gg];exact grownCap_ge w _ _ _
  have e5:∀ty,(Builtin.append_ #[48,48] ty #[.slice (some ⟨b,off,none⟩) es.length cap,.slice (some ⟨fw,gA,none⟩) 1 vc]).run prog w=.ok (.slice (some ⟨w.heap.size,0,none⟩) (es.length+1) G) (w.drew.alloc (.cells (nc.toArray++x.toArray++Builtin.zeroCells (Value.agg #[.int .i64 0,.int .i64 0,.int .i64 0,.int .i64 0]).cells (G-(es.length+1))) 141)):=by
   intro ty;have:=run_append_grow (P:=prog) w 48 ty 141 i0 _ gT j8 bN ⟨b,off,none⟩ es.length cap nc (by rw[aX,o0]) (fun j v bg=>by
    rw[holds,jY]at bg;split at bg
    ·rw[k',lK]at bg;rw[Addr.add_lit];simp[World.cell?,aH.heap,bg]
    cases bg) ⟨fw,gA,none⟩ 1 vc x (by rw[aX,fA]) B3 (by omega) (by omega) (growslice_fits (by omega) (by rw[bx];omega))
   rw[<-gg]at this;exact this
  refine (J2 (some ⟨b,off,none⟩) es.length cap fw gA vc w _ _ o6 e5).mono ?_;rintro e aM ⟨rfl,rfl⟩;refine fin ⟨_,rfl,Rf,.inr ⟨w.heap.size,0,G,_,_,.inr (ga _),by simp,zN aH hi fA o9 (ma w.drew _) x' ?_ ?_ ?_ ?_⟩⟩
  ·simp only[sb,nC,size_zeroCells,fA,o0];show 0+G*4<=es.length*4+4+(G-(es.length+1))*4;omega
  ·intro p hp;rw[dF,iD,bM (by simp[o0];omega),iD,bM (by simp[o0];omega)];simp only[nB];rw[holds,jY,bM hp,k',lK]
  ·intro p hp;rw[dF,iD,bM (by simp[o0];omega),iD,bG (by simp[o0])];simp only[nB,nC,o0];rw[show es.length*4+p-es.length*4=p by omega]
  intro p hp;simp at hp
 -- at TN end,there is room
 have e5:∀ty,(Builtin.append_ #[48,48] ty #[.slice (some ⟨b,off,none⟩) es.length cap,.slice (some ⟨fw,gA,none⟩) 1 vc]).run prog w=.ok (.slice (some ⟨b,off,none⟩) (es.length+1) cap) (w.setRow b (laid arr (off+es.length*4) x)):=by
  intro ty;have:=HZ (P:=prog) (t:=48) (ty:=ty) gT j8 w b off es.length cap arr tb aH.heap ⟨fw,gA,none⟩ 1 vc x (by rw[aX,fA]) B3 o9 fS (by rw[aX,fA];omega);rw[aX]at this;exact this
 refine (J2 (some ⟨b,off,none⟩) es.length cap fw gA vc w _ _ o6 e5).mono ?_;rintro e aM ⟨rfl,rfl⟩;have jf:off+es.length*4+x.length<=arr.size:=by omega
 refine fin ⟨_,rfl,aoO o2 _,.inr ⟨b,off,cap,_,tb,.inl o2,by simp,zN aH hi fA o9 (setRow_heap _ _ _ _ _ (0,0) aH.heap) fS ?_ ?_ ?_ ?_⟩⟩
 ·rw[sZ jf];exact dX
 ·intro p hp;rw[mf jf,bG (by omega)]
 ·intro p hp;rw[mf jf,bM (by omega)];rw[show off+es.length*4+p-(off+es.length*4)=p by omega]
 intro p hp;simp at hp
theorem Cell.Br(xs:List Cell):xs.map Cell.e=fK (xs.map fun r=>r.e.map D.Ak):=by
 simp only[fK,List.map_map];rfl
theorem aoS(xs:List Cell)(x:Cell)(i:Nat)(hi:i<=xs.length)(ap:xs.length<=8388608):kj prog 305 [.one (.eV 4 (xs.map Cell.e) none),.one (.ro (I i)),.one (.eV 4 [x.e] none)] [.one (.J 4 ((xs.take i++x::xs.drop i).map Cell.e))]:=by
 have:=aoR (xs.map fun r=>r.e.map D.Ak) (x.e.map D.Ak) i (by simpa using hi) (by simpa using ap);rw[Cell.Br,Cell.Br];simp only[gY,lL,qQ,List.map_drop]at this ⊢;exact this
end Go.Proofs.YtdchjefneblpgaaGreat
namespace Go.Proofs.YtdchjefneblpgaaGreat
open Go.Sx Go.RowKit Go.Proofs.Tryz
def nq(xs:List Cell)(x:Cell):Bool:=xs.any fun a=>decide (a=x)
def k3(xs:List Cell)(x:Cell):Nat:=(xs.findIdx? fun a=>!decide (ht a x<0)).getD xs.length
def jG(xs:List Cell)(x:Cell):List Cell:=if nq xs x then xs else xs.take (k3 xs x)++x::xs.drop (k3 xs x)
theorem J3(xs:List Cell)(x:Cell):k3 xs x<=xs.length:=by
 unfold k3;cases h:xs.findIdx? (fun a=>!decide (ht a x<0)) with
 | none=>simp
 | some i=>
  rw[tG]at h;have:=h.1;simp;omega
theorem Rg(xs:List Cell)(x:Cell):(jG xs x).length<=xs.length+1:=by
 unfold jG;split
 ·omega
 have:=J3 xs x;simp;omega
theorem Rh(xs:List Cell)(x:Cell)(ap:xs.length<=8388608):ar 306 [.one (.J 4 (xs.map Cell.e)),.agg x.e] [.one (B (nq xs x))]:=by
 have l:=gy (P:=prog) (c:=(ao f306 0)) xs (fun a=>decide (a=x)) (fun i=>uL (xs.map Cell.e) x.op x.bc x.key x.val i) (X:=fun _ _=>JY true) e7 (cH 0)
  (fun i a ag h=>an2 ⟨b6 (a1 ag),bw,bE (a1 ag),bA Cell.e ag,(J0 a x).trans h,dc (a1 ag) ap,aa⟩)
  (fun i a ag h=>an1 ⟨b6 (a1 ag),bw,bE (a1 ag),bA Cell.e ag,(J0 a x).trans h,aa⟩)
  (an3 ⟨dz,aa⟩)
 unfold nq;rcases l with⟨_,_,h1,U⟩ | ⟨i,a,_,_,_,_,h1,U⟩
 ·rw[h1];exact an5 ⟨U,aa⟩
 rw[h1];exact an4 ⟨U,aa⟩
theorem Ri(xs:List Cell)(x:Cell)(r:Bool)(h:nq xs x=r)(ap:xs.length<=8388608):ar 306 [.one (.J 4 (xs.map Cell.e)),.agg x.e] [.one (B r)]:=h▸Rh xs x ap
def B4(xs:List Cell)(x:Cell):Int:=match xs.findIdx? (fun a=>decide (a=x)) with | some i=>i | none=>-1
theorem aoT(xs:List Cell)(x:Cell):decide (B4 xs x>=0)=nq xs x:=by
 unfold B4 nq;cases h:xs.findIdx? (fun a=>decide (a=x)) with
 | none=>
  have:xs.any (fun a=>decide (a=x))=false:=by
   rw[hg];rw[EL]at h;exact fun a ag=>by simpa using h a ag
  rw[this];rfl
 | some i=>
  rw[tG]at h;obtain⟨hi,U,_⟩:=h;have:xs.any (fun a=>decide (a=x))=true:=qP.2 ⟨_,qM hi,U⟩;rw[this];simp
theorem aoU(xs:List Cell)(x:Cell)(ap:xs.length<=8388608):ar 365 [.one (.J 4 (xs.map Cell.e)),.agg x.e] [.one (I (B4 xs x))]:=by
 have l:=gy (P:=prog) (c:=(ao f365 0)) xs (fun a=>decide (a=x)) (fun i=>uI (xs.map Cell.e) x.op x.bc x.key x.val i) (X:=fun i _=>JV i) e7 (cH 0)
  (fun i a ag h=>amy ⟨b6 (a1 ag),bw,bE (a1 ag),bA Cell.e ag,(Q6 a x).trans h,dc (a1 ag) ap,aa⟩)
  (fun i a ag h=>amx ⟨b6 (a1 ag),bw,bE (a1 ag),bA Cell.e ag,(Q6 a x).trans h,aa⟩)
  (amz ⟨dz,aa⟩)
 unfold B4;rcases l with⟨_,h1,_,U⟩ | ⟨i,a,_,_,_,h1,_,U⟩
 ·simp only[h1];exact amB ⟨U,aa⟩
 simp only[h1];exact amA ⟨U,aa⟩
theorem Rj(xs:List Cell)(x:Cell)(ap:xs.length<=8388608):ar 303 [.one (.J 4 (xs.map Cell.e)),.agg x.e] [.one (B (nq xs x))]:=by
 rw[<-aoT];exact amu ⟨amw ⟨aoU xs x ap,aa⟩,aa⟩
theorem Qu(xs:List Cell)(x:Cell)(r:Bool)(h:nq xs x=r)(ap:xs.length<=8388608):ar 303 [.one (.J 4 (xs.map Cell.e)),.agg x.e] [.one (B r)]:=h▸Rj xs x ap
theorem te(xs:List Cell)(ap:xs.length<=8388608):ar 297 [.one (.J 4 (xs.map Cell.e))] [.one (.J 4 (xs.map Cell.e))]:=
 amt ⟨by simp;omega,by simp;omega,dA _ Cell.flat _,aa⟩
theorem zO(xs:List Cell)(x:Cell)(ap:xs.length<=8388608):ar 238 [.one (.J 4 (xs.map Cell.e)),.agg x.e] [.one (.J 4 ((jG xs x).map Cell.e))]:=by
 unfold jG;cases h:nq xs x with
 | true=>
  rw[bM rfl];exact ane ⟨Ri xs x true h ap,rfl,by simp;omega,by simp;omega,dA _ Cell.flat _,aa⟩
 | false=>
  rw[bG (by simp)];have l:cW prog (ao f238 0) (uM (xs.map Cell.e) x.op x.bc x.key x.val 0) (gR.exit 0) (zM (xs.map Cell.e) x.op x.bc x.key x.val (k3 xs x)):=by
   have l:=gy (P:=prog) (c:=(ao f238 0)) xs (fun a=>!decide (ht a x<0)) (fun i=>uM (xs.map Cell.e) x.op x.bc x.key x.val i) (X:=fun i _=>zM (xs.map Cell.e) x.op x.bc x.key x.val i) (cH 0) (cH 0)
    (fun i a ag h=>anf ⟨b6 (a1 ag),bw,bE (a1 ag),bA Cell.e ag,CY a x,by simpa using h,dc (a1 ag) ap,aa⟩)
    (fun i a ag h=>ang ⟨b6 (a1 ag),bw,bE (a1 ag),bA Cell.e ag,CY a x,by simpa using h,aa⟩)
    (anh ⟨dz,aa⟩)
   unfold k3;rcases l with⟨_,h1,_,U⟩ | ⟨i,a,_,_,_,h1,_,U⟩
   ·rw[h1];exact U
   rw[h1];exact U
  have hp:=J3 xs x;generalize k3 xs x=p at*;refine am9 (ani ⟨Ri xs x false h ap,rfl,l,by simp,by simp,by simp;omega,by simp;omega,by simp;omega,?_,by simp;omega,by simp;omega,fV x.flat,by simp,by simp;omega,by simp,by simp;omega,by simp;omega,?_,aa⟩) ?_
  ·simp only[jM,pP,Nat.sub_zero,vB,<-qQ];exact dA _ Cell.flat _
  ·simp only[jM,pP,<-qQ,<-List.map_drop];exact dA _ Cell.flat _
  simp only[jM,pP,Nat.sub_zero,vB,List.nil_append,<-qQ,<-List.map_drop,gY,lL,tI]
  congr 1
  rw[xr (by simp)];rfl
theorem Qv(xs:List Cell)(x:Cell)(ap:xs.length<=8388608):ar 237 [.one (.J 4 (xs.map Cell.e)),.agg x.e] [.one (.J 4 ((jG xs x).map Cell.e))]:=by
 have c:=te xs ap;unfold jG;cases h:nq xs x with
 | true=>
  rw[bM rfl];exact amC ⟨c,Qu xs x true h ap,rfl,aa⟩
 | false=>
  rw[bG (by simp)];have l:cW prog (ao f237 0) (uJ (xs.map Cell.e) x.op x.bc x.key x.val (xs.map Cell.e) 0) (gR.exit 0) (zL x.op x.bc x.key x.val (xs.map Cell.e) (k3 xs x)):=by
   have l:=gy (P:=prog) (c:=(ao f237 0)) xs (fun a=>!decide (ht a x<0)) (fun i=>uJ (xs.map Cell.e) x.op x.bc x.key x.val (xs.map Cell.e) i) (X:=fun i _=>zL x.op x.bc x.key x.val (xs.map Cell.e) i) (cH 0) (cH 0)
    (fun i a ag h=>al3 ⟨b6 (a1 ag),bw,bE (a1 ag),bA Cell.e ag,CX a x,by simpa using h,dc (a1 ag) ap,aa⟩)
    (fun i a ag h=>al4 ⟨b6 (a1 ag),bw,bE (a1 ag),bA Cell.e ag,CX a x,by simpa using h,aa⟩)
    (al5 ⟨dz,aa⟩)
   unfold k3;rcases l with⟨_,h1,_,U⟩ | ⟨i,a,_,_,_,h1,_,U⟩
   ·rw[h1];exact U
   rw[h1];exact U
  exact al6 ⟨c,Qu xs x false h ap,rfl,l,aoS xs x (k3 xs x) (J3 xs x) ap,aa⟩
end Go.Proofs.YtdchjefneblpgaaGreat
namespace Go.Proofs.YtdchjefneblpgaaGreat
open Go.Sx Go.RowKit Go.Proofs.Tryz
def fF(g:bR)(op:Int):Option Node:=if 0<=op then g.nodes[op.toNat]? else none
variable{g:bR}{a:Int}{w:Node}
theorem CZ(h:fF g a=some w):0<=a/\a<(↑(g.nodes.map Node.e).length:Int)/\(g.nodes.map Node.e)[a.toNat]?=some w.e/\aq a 0 (↑(g.nodes.map Node.e).length-1)=true:=by
 unfold fF at h;split at h
 ·have:=(fy.1 h).1;refine⟨‹_›,by simp;omega,by simp[h],?_⟩;simp only[aq,cf,cU];omega
 cases h
theorem Qw(h:fF g a=none):aq a 0 (↑(g.nodes.map Node.e).length-1)=false:=by
 unfold fF at h;simp only[aq,cf,mu];split at h
 ·rw[List.getElem?_eq_none_iff]at h;omega
 omega
theorem J4(h:fF g a=some w):w∈g.nodes:=by
 unfold fF at h;split at h
 ·exact fl h
 cases h
theorem bR.X8(h:g.sz<=8388608):g.nodes.length<=8388608:=by simp only[bR.sz,eZ]at h;omega
theorem bR.yU(h:g.sz<=8388608)(hw:w∈g.nodes):w.outs.length<=8388608:=by
 have:=CH (sz:=Node.sz) hw;simp only[bR.sz,eZ]at h;have aX:w.outs.length<=w.sz:=by simp only[Node.sz];omega
 omega
theorem C0(h:g.sz<=8388608):aJ .i64 ((↑(g.nodes.map Node.e).length:Int)-1):=by
 have:=bR.X8 h;exact⟨by simp;omega,by simp;omega⟩
theorem aoV(g:bR)(op:Int)(av:g.sz<=8388608):ar 250 [.agg g.e,.one (I op)] [.one (B (fF g op).isSome)]:=by
 cases h:fF g op with
 | none=>exact Q1 ⟨C0 av,h4 _ (Qw h),aa⟩
 | some w=>exact Q1 ⟨C0 av,h4 _ (CZ h).2.2.2,aa⟩
theorem w6(g:bR)(op:Int)(r:Bool)(h:(fF g op).isSome=r)(av:g.sz<=8388608):ar 250 [.agg g.e,.one (I op)] [.one (B r)]:=h▸aoV g op av
def tf(g:bR)(op:Int):Node×Bool:=match fF g op with | some n=>(n,true) | none=>(⟨0,0,0,[]⟩,false)
theorem aoW(n:Int):∀d∈a6 n,∃x,d=.v x:=by
 intro d aG;simp only[a6,ev,nH,or_false]at aG;subst aG;exact⟨_,rfl⟩
theorem aoX(g:bR)(op:Int)(av:g.sz<=8388608):ar 249 [.agg g.e,.one (I op)] [.agg (tf g op).1.e,.one (B (tf g op).2)]:=by
 unfold tf;cases h:fF g op with
 | none=>exact anj ⟨C0 av,fk _ (Qw h),rfl,aa⟩
 | some w=>
  obtain⟨h1,U,ax,aI⟩:=CZ h;have aZ:=bR.yU av (J4 h);exact ank ⟨C0 av,fk _ aI,rfl,h1,U,ax,by simp;omega,by simp;omega,dA _ aoW _,aa⟩
theorem C1(g:bR)(op:Int)(r:Node×Bool)(h:tf g op=r)(av:g.sz<=8388608):ar 249 [.agg g.e,.one (I op)] [.agg r.1.e,.one (B r.2)]:=h▸aoX g op av
