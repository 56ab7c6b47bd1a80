import Derived.WalkKit
import Derived.Deep.RegionLaw
import Derived.Shelf.RegionOpenPlain
import Derived.Lib.SliceRun
import Derived.Lib.JoinLaws
import Derived.Lib.Overlaps
import Derived.Lib.AppendZerosOnto
import Derived.Laws.Externs
import Derived.Deep.LoopGhost
import Derived.Lib.Walk
import Derived.Test.YtdchjefneblpgaaGreatC0
set_option linter.unusedVariables false
set_option linter.unusedSimpArgs false
namespace Go.Proofs.YtdchjefneblpgaaGreat
open Go.Sx Go.RowKit Go.Shelf Go.Lib Go.Proofs.Tryz
variable{P:Program}{w:World}{ops:Array Oper}{o:Oper}{a:Act}{Q:Exit->Act->World->Prop}
theorem Ra{rest:List Oper}(FQ:o.guard=none)(d s:Operand)(t c5:TypeId)
  (aZ:o.op=.call { callee:=.builtin .copy,args:=#[d,s],argTypes:=#[t,c5] }) (v u:Value) (aG:a.eval d=v) (ai:a.eval s=u) {oq:Value} {aM:World}
  (aH:(Builtin.copy_ #[t,c5] o.type #[v,u]).run P w=.ok oq aM) (h:wpList P ops Q rest (a.put o.dst oq) aM):wpList P ops Q (o::rest) a w:=
 wpList_plain FQ fun _ hl=>by
  unfold Oper.wp execOp;simp only[aZ,resolve,invoke,builtin,Sem.run_bind,Sem.run_pure,Result.andThen_ok,List.map_toArray,mn,List.map_nil,aG,ai,aH];exact hl _ _ h
theorem Rb{K:Act->World->Prop}{E:Prop}
  (av:o.guard=none) (d x:Operand) (dM bd:TypeId) (ri:o.op=Op.call { callee:=Callee.builtin Builtin.copy,args:=#[d,x],argTypes:=#[dM,bd] })
  (v u:Value) (aG:a.eval d=v) (ak:a.eval x=u) {oq:Value} {aM:World} (aH:(Builtin.copy_ #[dM,bd] o.type #[v,u]).run P w=.ok oq aM) (hl:K (a.put o.dst oq) aM):
  if Region.wanted o (yielded ops a.tmps)=true then Oper.wp P o a w K Q else E:=by
 have hw:Region.wanted o (yielded ops a.tmps)=true:=by simp[Region.wanted,av]
 rw[bM hw];unfold Oper.wp;simp[execOp,ri,resolve,invoke,builtin,aG,ak,aH,Result.andThen];exact hl
theorem J0{rest:List Oper}(FQ:o.guard=none)(d s:Operand)(t c5:TypeId)
  (aZ:o.op=.call { callee:=.builtin .append,args:=#[d,s],argTypes:=#[t,c5] }) (v u:Value) (aG:a.eval d=v) (ai:a.eval s=u) {oq:Value} {aM:World}
  (aH:(Builtin.append_ #[t,c5] o.type #[v,u]).run P w=.ok oq aM) (h:wpList P ops Q rest (a.put o.dst oq) aM):wpList P ops Q (o::rest) a w:=
 wpList_plain FQ fun _ hl=>by
  unfold Oper.wp execOp;simp only[aZ,resolve,invoke,builtin,Sem.run_bind,Sem.run_pure,Result.andThen_ok,List.map_toArray,mn,List.map_nil,aG,ai,aH];exact hl _ _ h
set_option maxHeartbeats 4000000 in
set_option maxRecDepth 1000000 in
theorem J1(base:Option Addr)(n cap fw gA vc:Nat)(w w1:World)(v:Value)(a8:n<=cap)
  (e5:∀ty,(Builtin.append_ #[48,48] ty #[.slice base n cap,.slice (some ⟨fw,gA,none⟩) 1 vc]).run prog w=.ok v w1):
  Calls prog 305 #[.slice base n cap,.int .i64 n,.slice (some ⟨fw,gA,none⟩) 1 vc] w fun e aM=>e=.returned v/\aM=w1:=by
 have mixed:prog.follows .mixedOrders=true:=by kernel_rfl
 go_enter func305,Tryz.ntmps305
 cases base with
 | none=>
  go_wp2_with (at_builtin;refine J0 rfl _ _ _ _ rfl _ _ rfl rfl (e5 _) ?_)
  all_goals (go_ret;exact⟨rfl,rfl⟩)
 | some a=>
  obtain⟨ab,as5,as8⟩:=a
  go_wp2_with (at_builtin;refine J0 rfl _ _ _ _ rfl _ _ rfl rfl (e5 _) ?_)
  all_goals (go_ret;exact⟨rfl,rfl⟩)
set_option maxHeartbeats 4000000 in
set_option maxRecDepth 1000000 in
theorem aoH(b off n cap i fw gA vc:Nat)(arr:Array Value)(tb:TypeId)(mA:Array Value)(qI:TypeId)(x:List Value)(w:World)(aw:w.heap[b]?=some (.cells arr tb (0,0)))(bz:w.heap[fw]?=some (.cells mA qI (0,0)))(Nv:fw≠b)
  (hi:i<n) (a8:n+1<=cap) (dX:off+cap*4<=arr.size) (fA:x.length=4) (rq:∀j v,x[j]?=some v->mA[gA+j]?=some v) (xW:∀v∈x,v.oneCell'=true)
  (h1:∀x v,off<=x->x<off+n*4->arr[x]?=some v->v.oneCell'=true) (BD:n<8388609):
  Calls prog 305 #[.slice (some ⟨b,off,none⟩) n cap,.int .i64 i,.slice (some ⟨fw,gA,none⟩) 1 vc] w fun e aM=>e=.returned (.slice (some ⟨b,off,none⟩) (n+1) cap)/\
   aM=(w.drew.setRow b (laid arr (off+(i+1)*4) ((arr.toList.drop (off+i*4)).take ((n-i)*4)))).setRow b (laid (laid arr (off+(i+1)*4) ((arr.toList.drop (off+i*4)).take ((n-i)*4))) (off+i*4) x):=by
 obtain⟨mid,oY⟩:∃mid,mid=(arr.toList.drop (off+i*4)).take ((n-i)*4):=⟨_,rfl⟩
 have p5:mid.length=(n-i)*4:=by rw[oY];simp;omega
 have rh:∀u∈mid,u.oneCell'=true:=by
  intro u hu;obtain⟨y,bD⟩:=ow.1 hu;rw[oY,jX]at bD;split at bD
  ·rw[k7,lI]at bD;exact h1 _ u (by omega) (by omega) bD
  cases bD
 rw[<-oY];obtain⟨fD,t'⟩:∃fD,fD=laid arr (off+(i+1)*4) mid:=⟨_,rfl⟩
 have mP:fD.size=arr.size:=by rw[t'];exact sY (by omega)
 obtain⟨jw,oS⟩:∃jw,jw=w.drew.setRow b fD:=⟨_,rfl⟩
 have gG:jw.heap[b]?=some (.cells fD tb (0,0)):=by rw[oS];exact setRow_heap w.drew b arr fD tb (0,0) aw
 have sD:jw.heap[fw]?=some (.cells mA qI (0,0)):=by rw[oS,setRow_other _ b fw _ Nv];exact bz
 have dN:(prog.info? 141).map (·.size)=some 4:=by kernel_rfl
 have gS:prog.underlying 48=some (.slice 141):=by kernel_rfl
 have Wl:∀ty j3 jo,(Builtin.copy_ #[48,48] ty #[.slice (some ⟨b,off+(i+1)*4,none⟩) (n-i) j3,.slice (some ⟨b,off+i*4,none⟩) (n+1-i) jo]).run prog w.drew=.ok (goInt (Nat.min (n+1-i) (n-i))) jw:=by
  intro ty j3 jo;have uk:Nat.min (n+1-i) (n-i)=n-i:=by simp only[Nat.min_def];split<;>omega
  rw[oS,t'];refine C8 w.drew _ _ ty _ 4 b (off+(i+1)*4) _ j3 arr tb ⟨b,off+i*4,none⟩ _ jo mid gS dN aw (by rw[uk,p5]) (fun j v bg=>?_) (by omega) rh;rw[oY,jX]at bg;split at bg
  ·rw[k7,lI]at bg;rw[Addr.add_lit];have eh:w.drew.heap[b]?=some (.cells arr tb (0,0)):=aw;simp[World.cell?,eh,bg]
  cases bg
 obtain⟨qR,ub⟩:∃qR,qR=jw.setRow b (laid fD (off+i*4) x):=⟨_,rfl⟩
 have Wm:∀ty j3,(Builtin.copy_ #[48,48] ty #[.slice (some ⟨b,off+i*4,none⟩) (n+1-i) j3,.slice (some ⟨fw,gA,none⟩) 1 vc]).run prog jw=.ok (goInt (Nat.min 1 (n+1-i))) qR:=by
  intro ty j3;have uk:Nat.min 1 (n+1-i)=1:=by simp only[Nat.min_def];split<;>omega
  rw[ub];refine C8 jw _ _ ty _ 4 b (off+i*4) _ j3 fD tb ⟨fw,gA,none⟩ _ vc x gS dN gG (by rw[uk,fA]) (fun j v bg=>?_) (by omega) xW;rw[Addr.add_lit];simp[World.cell?,sD,rq j v bg]
 have Xj:∀G8 E6,(callFunc 337 #[.slice (some ⟨fw,gA,none⟩) 1 vc,.slice (some ⟨b,off+(i+1)*4,none⟩) G8 E6]).run prog w=.ok (.value (.bool false)) w:=fun G8 E6=>by
  rw[run_callFunc_extern (P:=prog) func337 (by kernel_rfl) (by kernel_rfl) (by kernel_rfl) (e:=Extern.SlicesOverlaps.overlaps #[48,48] #[4]) (by kernel_rfl),
   Lib.run_overlaps_apart w 48 4 141 gS 4 (fun w=>by simp[sizeOf,typeInfo];kernel_rfl) ⟨fw,gA,none⟩ ⟨b,off+(i+1)*4,none⟩ 1 vc G8 E6 Nv qI tb mA.size arr.size (by simp[World.shape?,bz]) (by simp[World.shape?,aw]) (by omega) (by simp[World.frozen?,bz]) (by simp[World.frozen?,bz])]
  rfl
 have X:Aside (qR=(w.drew.setRow b fD).setRow b (laid fD (off+i*4) x)):=by rw[ub,oS];trivial
 have mM:i<=n:=by omega
 have XJ:IntKind.i64.wrap ((i:Int)+1)=(i:Int)+1:=by rw[IntKind.wrap_i64];omega
 have XK:IntKind.i64.wrap ((n:Int)+1)=(n:Int)+1:=by rw[IntKind.wrap_i64];omega
 have gZ:(0:Int)<=(i:Int)+1:=by omega
 have Xz:((i:Int)+1).toNat=i+1:=by omega
 have aug:((n:Int)+1).toNat=n+1:=by omega
 have gH:¬(cap=i+1):=by omega
 have BC:(i:Int)+1<=(n:Int)+1:=by omega
 have x':¬(cap=i):=by omega
 have V':(i:Int)<=(n:Int)+1:=by omega
 have p':¬((i:Int)=(n:Int)):=by omega
 have mixed:prog.follows .mixedOrders=true:=by kernel_rfl
 clear oS ub gG sD aw bz oY p5 rh mP dN gS h1 xW rq fA
 go_enter func305,Tryz.ntmps305
 go_wp2_with (simp only[Xj])
 go_region_law_o (refine Rb rfl _ _ 48 48 rfl _ _ (by simp[Act.eval,Act.put]) (by simp[Act.eval,Act.put]) (Wl _ _ _) ?_)
 go_wp2_with (at_builtin;refine Ra rfl _ _ 48 48 rfl _ _ rfl rfl (Wm _ _) ?_)
 go_ret
 exact⟨rfl,by rw[<-t'];exact X⟩
set_option maxHeartbeats 4000000 in
set_option maxRecDepth 1000000 in
theorem aoI(b off n cap i fw gA vc:Nat)(arr:Array Value)(tb:TypeId)(mA:Array Value)(qI:TypeId)(x:List Value)(w:World)(aw:w.heap[b]?=some (.cells arr tb (0,0)))(bz:w.heap[fw]?=some (.cells mA qI (0,0)))
  (hi:i<n) (a8:n<=cap) (av:cap<n+1) (dX:off+cap*4<=arr.size) (fA:x.length=4) (rq:∀j v,x[j]?=some v->mA[gA+j]?=some v) (xW:∀v∈x,v.oneCell'=true)
  (h1:∀x v,off<=x->x<off+n*4->arr[x]?=some v->v.oneCell'=true) (BD:n<8388609):
  Calls prog 305 #[.slice (some ⟨b,off,none⟩) n cap,.int .i64 i,.slice (some ⟨fw,gA,none⟩) 1 vc] w fun e aM=>∃(G:Nat) (h':Array Value),n+1<=G/\h'.size=G*4/\(∀y,y<i*4->h'[y]?=arr[off+y]?)/\e=.returned (.slice (some ⟨w.heap.size,0,none⟩) (n+1) G)/\
   aM=(((w.drew.alloc (.cells h' 141)).setRow w.heap.size (laid h' (i*4) x)).drew).setRow w.heap.size (laid (laid h' (i*4) x) ((i+1)*4) ((arr.toList.drop (off+i*4)).take ((n-i)*4))):=by
 obtain⟨mid,oY⟩:∃mid,mid=(arr.toList.drop (off+i*4)).take ((n-i)*4):=⟨_,rfl⟩
 have p5:mid.length=(n-i)*4:=by rw[oY];simp;omega
 have rh:∀u∈mid,u.oneCell'=true:=by
  intro u hu;obtain⟨y,bD⟩:=ow.1 hu;rw[oY,jX]at bD;split at bD
  ·rw[k7,lI]at bD;exact h1 _ u (by omega) (by omega) bD
  cases bD
 rw[<-oY];have gS:prog.underlying 48=some (.slice 141):=by kernel_rfl
 have Nr:prog.underlying 3=some (.int .i64):=by kernel_rfl
 have dN:(prog.info? 141).map (·.size)=some 4:=by kernel_rfl
 have FD:(prog.info? 141).map (fun x=>(x.bytes,x.zero))=some (32,some (.agg #[.int .i64 0,.int .i64 0,.int .i64 0,.int .i64 0])):=by kernel_rfl
 obtain⟨na,holds⟩:∃na,na=(arr.toList.drop off).take (i*4):=⟨_,rfl⟩
 have o0:na.length=i*4:=by rw[holds];simp;omega
 obtain⟨G,gg⟩:∃G,G=grownCap w (n+1) cap 141:=⟨_,rfl⟩
 have x8:n+1<=G:=by rw[gg];exact grownCap_ge w _ _ _
 have atx:G<=9223372036854775807:=by
  have:=grownCap_le_maxLen w (n+1) cap 141 (by unfold maxLen;omega);rw[<-gg]at this;unfold maxLen at this;omega
 obtain⟨h',By⟩:∃h':Array Value,h'=na.toArray++Builtin.zeroCells (Value.agg #[.int .i64 0,.int .i64 0,.int .i64 0,.int .i64 0]).cells (n+1-i)++Builtin.zeroCells (Value.agg #[.int .i64 0,.int .i64 0,.int .i64 0,.int .i64 0]).cells (G-(n+1)):=⟨_,rfl⟩
 have BA:h'.size=G*4:=by
  rw[By];simp only[sb,nB,size_zeroCells,o0];show i*4+(n+1-i)*4+(G-(n+1))*4=G*4;omega
 have Bz:∀y,y<i*4->h'[y]?=arr[off+y]?:=by
  intro y bD;rw[By,iD,bM (by simp[size_zeroCells];omega),iD,bM (by simp;omega)];simp only[nA];rw[holds,jX,bM bD,k7,lI]
 obtain⟨my,vS⟩:∃my,my=w.drew.alloc (.cells h' 141):=⟨_,rfl⟩
 have Fx:my.heap[w.heap.size]?=some (.cells h' 141 (0,0)):=by rw[vS];exact l8 w.drew _
 have uc:b<w.heap.size:=(iE.1 aw).1;have Gh:fw<w.heap.size:=(iE.1 bz).1;have gZ:my.heap[b]?=some (.cells arr tb (0,0)):=by rw[vS,u1 w.drew _ uc];exact aw
 have BZ:my.heap[fw]?=some (.cells mA qI (0,0)):=by rw[vS,u1 w.drew _ Gh];exact bz
 have Xs:∀ty,(Builtin.append_ #[48,3] ty #[.slice (some ⟨b,off,none⟩) i cap,.int .i64 ((n:Int)+1-(i:Int))]).run prog w=.ok (.slice (some ⟨w.heap.size,0,none⟩) (n+1) G) my:=by
  intro ty;cases j8:prog.info? 141 with
  | none=>rw[j8]at dN;cases dN
  | some i0=>
   rw[j8]at dN FD;have aY:i0.size=4:=by simpa using dN
   obtain⟨bx,bN⟩:i0.bytes=32/\i0.zero=some (.agg #[.int .i64 0,.int .i64 0,.int .i64 0,.int .i64 0]):=by simpa using FD
   have hold:(Builtin.firstCells i0.size i (.slice (some ⟨b,off,none⟩) i cap)).run prog w.drew=.ok na.toArray w.drew:=by
    rw[aY];refine run_firstCells_some w.drew 4 i ⟨b,off,none⟩ i cap na o0 (fun j v bg=>?_);rw[Addr.add_lit];rw[holds,jX]at bg;split at bg
    ·rw[k7,lI]at bg;have eh:w.drew.heap[b]?=some (.cells arr tb (0,0)):=aw;simp[World.cell?,eh,bg]
    cases bg
   have M1:i+(n+1-i)=n+1:=by omega
   have h:=Lib.run_append_grow_zeros w 48 3 ty 141 i0 _ .i64 .i64 gS Nr j8 bN (some ⟨b,off,none⟩) i cap na hold (n+1-i) (by omega) (by omega) (by omega) (by omega) (by rw[bx];omega) (by rw[bx,M1];exact growslice_fits av (by omega));rw[M1,<-gg,<-By,<-vS]at h;rw[show (n:Int)+1-(i:Int)=((n+1-i:Nat):Int) by omega];exact h
 obtain⟨fD,t'⟩:∃fD,fD=laid h' (i*4) x:=⟨_,rfl⟩
 have mP:fD.size=h'.size:=by rw[t'];exact sY (by omega)
 obtain⟨jw,oS⟩:∃jw,jw=my.setRow w.heap.size fD:=⟨_,rfl⟩
 have MH:jw.heap[w.heap.size]?=some (.cells fD 141 (0,0)):=by rw[oS];exact setRow_heap my _ h' fD _ (0,0) Fx
 have gG:jw.heap[b]?=some (.cells arr tb (0,0)):=by rw[oS,setRow_other _ _ b _ (by omega)];exact gZ
 have Wn:∀ty j3,(Builtin.copy_ #[48,48] ty #[.slice (some ⟨w.heap.size,i*4,none⟩) (n+1-i) j3,.slice (some ⟨fw,gA,none⟩) 1 vc]).run prog my=.ok (goInt (Nat.min 1 (n+1-i))) jw:=by
  intro ty j3;have uk:Nat.min 1 (n+1-i)=1:=by simp only[Nat.min_def];split<;>omega
  rw[oS,t'];refine C8 my _ _ ty _ 4 _ (i*4) _ j3 h' _ ⟨fw,gA,none⟩ _ vc x gS dN Fx (by rw[uk,fA]) (fun j v bg=>?_) (by omega) xW;rw[Addr.add_lit];simp[World.cell?,BZ,rq j v bg]
 obtain⟨qR,ub⟩:∃qR,qR=jw.drew.setRow w.heap.size (laid fD ((i+1)*4) mid):=⟨_,rfl⟩
 have Wo:∀ty j3 jo,(Builtin.copy_ #[48,48] ty #[.slice (some ⟨w.heap.size,(i+1)*4,none⟩) (n-i) j3,.slice (some ⟨b,off+i*4,none⟩) (n-i) jo]).run prog jw.drew=.ok (goInt (Nat.min (n-i) (n-i))) qR:=by
  intro ty j3 jo;have uk:Nat.min (n-i) (n-i)=n-i:=Nat.min_self _;rw[ub];refine C8 jw.drew _ _ ty _ 4 _ ((i+1)*4) _ j3 fD _ ⟨b,off+i*4,none⟩ _ jo mid gS dN MH (by rw[uk,p5]) (fun j v bg=>?_) (by omega) rh;rw[Addr.add_lit];rw[oY,jX]at bg;split at bg
  ·rw[k7,lI]at bg;have eh:jw.drew.heap[b]?=some (.cells arr tb (0,0)):=gG;simp[World.cell?,eh,bg]
  cases bg
 have X:Aside (qR=(((w.drew.alloc (.cells h' 141)).setRow w.heap.size fD).drew).setRow w.heap.size (laid fD ((i+1)*4) mid)):=by rw[ub,oS,vS];trivial
 have Y:Aside (n+1<=G/\h'.size=G*4/\∀y,y<i*4->h'[y]?=arr[off+y]?):=⟨x8,BA,Bz⟩
 have p':¬((i:Int)=(n:Int)):=by omega
 have XO:(cap:Int)<(n:Int)+1:=by omega
 have XJ:IntKind.i64.wrap ((i:Int)+1)=(i:Int)+1:=by rw[IntKind.wrap_i64];omega
 have XK:IntKind.i64.wrap ((n:Int)+1)=(n:Int)+1:=by rw[IntKind.wrap_i64];omega
 have auk:IntKind.i64.wrap ((n:Int)+1-(i:Int))=(n:Int)+1-(i:Int):=by rw[IntKind.wrap_i64];omega
 have atD:(0:Int)<=(i:Int)+1:=by omega
 have mM:i<=n:=by omega
 have Xz:((i:Int)+1).toNat=i+1:=by omega
 have BC:(i:Int)<=(n:Int):=by omega
 have V':(i:Int)<=(n:Int)+1:=by omega
 have atF:(i:Int)+1<=(n:Int)+1:=by omega
 have aty:¬(G=i):=by omega
 have atz:¬(G=i+1):=by omega
 have atH:¬(cap=i):=by omega
 have atX:i<=G:=by omega
 have atY:i<=cap:=by omega
 have mixed:prog.follows .mixedOrders=true:=by kernel_rfl
 clear oS ub gG aw bz oY p5 rh mP dN gS h1 xW rq fA Bz BA Fx MH gZ BZ vS By holds o0 Nr FD gg
 go_enter func305,Tryz.ntmps305
 go_wp2_with (first
  | (at_builtin;refine J0 rfl _ _ _ _ rfl _ _ rfl rfl (Xs _) ?_)
  | (at_builtin;refine Ra rfl _ _ 48 48 rfl _ _ rfl rfl (Wn _ _) ?_))
 go_region_law_o (refine Rb rfl _ _ 48 48 rfl _ _ (by simp[Act.eval,Act.put]) (by simp[Act.eval,Act.put]) (Wo _ _ _) ?_)
 go_wp2
 go_ret
 exact⟨G,h',Y.1,Y.2.1,Y.2.2,rfl,by rw[<-t'];exact X⟩
variable{b:Nat}
theorem zL{aM:World}{off cap:Nat}{arr:Array Value}{tb:TypeId}{es:List (List Value)}(aH:Row w b off 4 cap arr tb es){x:List Value}{i:Nat}(hi:i<=es.length)(fA:x.length=4)(o9:∀v∈x,v.oneCell'=true)
  {da o kN:Nat} {A:Array Value} {ty:TypeId} (bH:aM.heap[da]?=some (.cells A ty (0,0))) (al:es.length+1<=kN) (dX:o+kN*4<=A.size)
  (x7:∀p,p<i*4->A[o+p]?=arr[off+p]?) (vR:∀p,p<4->A[o+i*4+p]?=x[p]?) (hC:∀p,p<(es.length-i)*4->A[o+(i+1)*4+p]?=arr[off+i*4+p]?):
  Row aM da o 4 kN A ty (es.take i++x::es.drop i):=by
 have ap:(es.take i++x::es.drop i).length=es.length+1:=by simp;omega
 have yx:(es.take i).length=i:=by simp;omega
 refine⟨bH,by rw[ap];exact al,dX,?_,?_,?_⟩
 ·intro e he;rcases mo.1 he with h | h
  ·exact aH.len e (AX h)
  rcases ep.1 h with rfl | h
  ·exact fA
  exact aH.len e (EI h)
 ·intro e he;rcases mo.1 he with h | h
  ·exact aH.one e (AX h)
  rcases ep.1 h with rfl | h
  ·exact o9
  exact aH.one e (EI h)
 intro k j e v hk bg;have yk:=(fy.1 hk).1;rw[ap]at yk;by_cases h1:k<i
 ·rw[EH (by omega),jX,bM h1]at hk;have jQ:j<4:=by
   have:=(fy.1 bg).1;have:=aH.len e (fl hk);omega
  rw[EP,x7 _ (by omega),<-EP];exact aH.cell k j e v hk bg
 rw[EG (by omega),yx]at hk;by_cases U:k=i
 ·subst U;rw[Nat.sub_self,kI,aS]at hk;subst hk;have jQ:=(fy.1 bg).1;rw[vR j (by omega)];exact bg
 obtain⟨m,rfl⟩:∃m,k=i+1+m:=⟨k-(i+1),by omega⟩
 rw[show i+1+m-i=m+1 by omega,nD,k7]at hk;have jQ:j<4:=by
  have:=(fy.1 bg).1;have:=aH.len e (fl hk);omega
 have:=aH.cell (i+m) j e v hk bg;rw[<-this,show o+(i+1+m)*4+j=o+(i+1)*4+(m*4+j) by omega,hC _ (by omega)]
 congr 1
 omega
theorem aoJ{off cap:Nat}{arr:Array Value}{tb:TypeId}{es:List (List Value)}(aH:Row w b off 4 cap arr tb es):∀x v,off<=x->x<off+es.length*4->arr[x]?=some v->v.oneCell'=true:=by
 intro x v o9 jh bz;have bJ:(x-off) / 4<es.length:=by omega
 have he:=iZ bJ;have hlen:=aH.len _ (qM bJ);have jR:(x-off) % 4<(es[(x-off) / 4]).length:=by omega
 have:=aH.cell _ _ _ _ he (iZ jR);rw[show off+(x-off) / 4*4+(x-off) % 4=x by omega,bz]at this;rw[gP this];exact aH.one _ (qM bJ) _ (qM jR)
variable{own:Nat->Prop}
theorem aoK(aw:own b)(fD:Array Value):tL ⟨w,own,fun _=>(0,undef)⟩ (w.setRow b fD):=by
 refine⟨rfl,rfl,rfl,by simp,fun k hk av=>?_,fun _=>ga _⟩;have:k≠b:=fun e=>av (by rw[e];exact aw)
 rw[setRow_other _ b k _ this]
theorem Rc{o:Obj}:tL ⟨w,own,fun _=>(0,undef)⟩ (w.drew.alloc o):=by
 refine⟨rfl,rfl,rfl,by simp[World.alloc],fun k hk _=>?_,fun _=>?_⟩
 ·rw[u1 w.drew o hk];rfl
 show w.drawn<=w.drawn+1;omega
theorem aoL{o:Obj}{fD ES:Array Value}:tL ⟨w,own,fun _=>(0,undef)⟩ ((((w.drew.alloc o).setRow w.heap.size fD).drew).setRow w.heap.size ES):=by
 refine⟨rfl,rfl,rfl,by simp[World.alloc],fun k hk _=>?_,fun _=>?_⟩
 ·rw[setRow_other _ _ k _ (by simp only at hk;omega)];show ((w.drew.alloc o).setRow w.heap.size fD).heap[k]?=w.heap[k]?;rw[setRow_other _ _ k _ (by simp only at hk;omega),u1 w.drew o hk];rfl
 show w.drawn<=w.drawn+1+1;omega
theorem aoM:∃i0,prog.info? 141=some i0/\i0.size=4/\i0.bytes=32/\i0.zero=some (.agg #[.int .i64 0,.int .i64 0,.int .i64 0,.int .i64 0]):=by
 have dN:(prog.info? 141).map (fun x=>(x.size,x.bytes,x.zero))=some (4,32,some (.agg #[.int .i64 0,.int .i64 0,.int .i64 0,.int .i64 0])):=by kernel_rfl
 cases h:prog.info? 141 with
 | none=>rw[h]at dN;cases dN
 | some i0=>
  rw[h]at dN;simp only[qL,aS,bq]at dN;exact⟨i0,rfl,dN.1,dN.2.1,dN.2.2⟩
theorem aoN(es:List (List Value))(x:List Value)(i:Nat)(hi:i<=es.length)(ap:es.length<=8388608):kj prog 305 [.one (.eV 4 (fK es) none),.one (.ro (I i)),.one (.eV 4 (fK [x]) none)] [.one (.J 4 (fK (es.take i++x::es.drop i)))]:=by
 rintro w vs ω ⟨av,a8,ah⟩ o8;obtain⟨y,bD,ks⟩:=ah 0 _ rfl;obtain⟨nz,gv,XD⟩:=ah 1 _ rfl;obtain⟨z,bl,p'⟩:=ah 2 _ rfl;have e1:nz=.int .i64 i:=bQ.VP XD;subst e1;have sE:=Vz a8 bD gv bl;subst sE;have gS:prog.underlying 48=some (.slice 141):=by kernel_rfl
 obtain⟨i0,j8,aY,bx,bN⟩:=aoM;rcases av.row p' with⟨h,_⟩ | ⟨fw,gA,vc,mA,qI,ND,rfl,ur⟩
 ·cases h
 have fA:x.length=4:=ur.len x (by simp);have o9:∀v∈x,v.oneCell'=true:=ur.one x (by simp);have rq:∀j v,x[j]?=some v->mA[gA+j]?=some v:=fun j v bg=>by simpa using ur.cell 0 j x v rfl bg
 have B1:∀j v,x[j]?=some v->w.cell? ((⟨fw,gA,none⟩:Addr).add j)=some v:=fun j v bg=>by
  rw[Addr.add_lit];simp[World.cell?,ur.heap,rq j v bg]
 have fin:∀{e:Ending} {aM:World},(∃v,e=.returned v/\EW w aM (fun b=>ω b≠.bt) 4 (es.take i++x::es.drop i) v)->∃v,e=.returned v/\fO ⟨w,fun b=>ω b≠.bt,fun _=>(0,undef)⟩ aM/\
   ∃a7:Own,(∀b,b<w.heap.size->ω b=.bt->a7 b=.bt)/\(∀b,a7 b≠.bt->(∃t q,a7 b=.tok t q)/\∃arr ty,aM.heap[b]?=some (.cells arr ty (0,0)))/\Kept aM a7 [.one (.eV 4 (fK es) none),.one (.ro (I i)),.one (.eV 4 (fK [x]) none)] #[y,.int .i64 i,.slice (some ⟨fw,gA,none⟩) [x].length vc]/\lB aM a7 [.one (.J 4 (fK (es.take i++x::es.drop i)))] v:=by
  rintro e aM ⟨v,he,cv⟩;obtain⟨a7,U,ax,aJ⟩:=cv.res;refine⟨v,he,cv.VB.full o8,a7,U,ax,ake ?_,aJ⟩;intro fm jS eF k dx ck kR al
  match fm with
  | 0=>simp at kR;subst kR;simp only[GA.cell]at al;split at al<;>simp at al
  | 1=>simp at kR;subst kR;simp only[GA.cell]at al;split at al<;>simp at al
  | 2=>simp at kR;subst kR;simp only[GA.cell]at al;split at al<;>simp at al
  | _+3=>simp at kR
 rcases av.row ks with⟨rfl,a,rfl⟩ | ⟨b,off,cap,arr,tb,c7,rfl,aH⟩
 ·
  have WN:i=0:=by simpa using hi
  subst WN;obtain⟨G,gg⟩:∃G,G=grownCap w 1 0 141:=⟨_,rfl⟩
  have x8:1<=G:=by rw[gg];exact grownCap_ge w _ _ _
  have e5:∀ty,(Builtin.append_ #[48,48] ty #[.slice a 0 0,.slice (some ⟨fw,gA,none⟩) 1 vc]).run prog w=.ok (.slice (some ⟨w.heap.size,0,none⟩) 1 G) (w.drew.alloc (.cells (x.toArray++Builtin.zeroCells (Value.agg #[.int .i64 0,.int .i64 0,.int .i64 0,.int .i64 0]).cells (G-1)) 141)):=by
   intro ty;cases a with
   | none=>
    have:=run_append_nil (P:=prog) w 48 ty 141 i0 _ gS j8 bN ⟨fw,gA,none⟩ 1 vc x (by rw[aY,fA]) B1 (by omega) (by omega) (by rw[bx];omega);rw[<-gg]at this;exact this
   | some cc=>
    have:=run_append_grow (P:=prog) w 48 ty 141 i0 _ gS j8 bN cc 0 0 [] (by simp) (fun j v bz=>by simp at bz) ⟨fw,gA,none⟩ 1 vc x (by rw[aY,fA]) B1 (by omega) (by omega) (growslice_fits (by omega) (by rw[bx];omega));simp only[dF,<-gg]at this;simpa using this
  refine (J1 a 0 0 fw gA vc w _ _ (ga _) e5).mono ?_;rintro e aM ⟨rfl,rfl⟩;have ar9:Row w fw 0 4 0 mA qI []:=⟨ur.heap,ga _,by omega,by simp,by simp,by simp⟩
  refine fin ⟨_,rfl,Rc,.inr ⟨w.heap.size,0,G,_,_,.inr (ga _),rfl,zL ar9 (ga _) fA o9 (l8 w.drew _) x8 ?_ ?_ ?_ ?_⟩⟩
  ·simp only[sb,nB,size_zeroCells,fA];show 0+G*4<=4+(G-1)*4;omega
  ·intro p hp;simp at hp
  ·intro p hp;rw[iD,bM (by simp;omega)];simp
  intro p hp;simp at hp
 have c3:fw≠b:=by
  rintro rfl;rw[c7]at ND;simp only[c0.tok.injEq,e4]at ND;omega
 have o2:ω b≠.bt:=by rw[c7];simp
 have o6:=aH.room;have dX:=aH.fit;have h1:=aoJ aH;rcases oA i es.length with bJ | nV
 ·rcases oA cap (es.length+1) with fS | fS
  ·
   refine (aoI b off es.length cap i fw gA vc arr tb mA qI x w aH.heap ur.heap bJ o6 fS dX fA rq o9 h1 (by omega)).mono ?_;rintro e aM ⟨G,h',gg,BA,Bz,rfl,rfl⟩;have je:i*4+x.length<=h'.size:=by omega
   have mP:=sY je;have p5:((arr.toList.drop (off+i*4)).take ((es.length-i)*4)).length=(es.length-i)*4:=by simp;omega
   have cR:(i+1)*4+((arr.toList.drop (off+i*4)).take ((es.length-i)*4)).length<=(laid h' (i*4) x).size:=by omega
   refine fin ⟨_,rfl,aoL,.inr ⟨w.heap.size,0,G,_,_,.inr (ga _),by simp;omega,zL aH hi fA o9 (setRow_heap _ _ _ _ _ (0,0) (setRow_heap (w.drew.alloc _) _ _ _ _ (0,0) (l8 w.drew _))) gg ?_ ?_ ?_ ?_⟩⟩
   ·rw[sY cR,mP,BA];omega
   ·intro p hp;rw[dF,mb cR,bG (by omega),mb je,bG (by omega)];exact Bz p hp
   ·intro p hp;rw[dF,mb cR,bG (by omega),mb je,bM (by omega)];rw[show i*4+p-i*4=p by omega]
   intro p hp;rw[dF,mb cR,bM (by omega),jX,bM (by omega),k7,lI];rw[show (i+1)*4+p-(i+1)*4=p by omega]
  -- in VD,there is room
  refine (aoH b off es.length cap i fw gA vc arr tb mA qI x w aH.heap ur.heap c3 bJ fS dX fA rq o9 h1 (by omega)).mono ?_;rintro e aM ⟨rfl,rfl⟩;have p5:((arr.toList.drop (off+i*4)).take ((es.length-i)*4)).length=(es.length-i)*4:=by simp;omega
  have je:off+(i+1)*4+((arr.toList.drop (off+i*4)).take ((es.length-i)*4)).length<=arr.size:=by omega
  have mP:=sY je;have cR:off+i*4+x.length<=(laid arr (off+(i+1)*4) ((arr.toList.drop (off+i*4)).take ((es.length-i)*4))).size:=by omega
  refine fin ⟨_,rfl,akf o2 _ _,.inr ⟨b,off,cap,_,tb,.inl o2,by simp;omega,zL aH hi fA o9 (setRow_heap _ _ _ _ _ (0,0) (setRow_heap w.drew b arr _ tb (0,0) aH.heap)) fS ?_ ?_ ?_ ?_⟩⟩
  ·rw[sY cR,mP];exact dX
  ·intro p hp;rw[mb cR,bG (by omega),mb je,bG (by omega)]
  ·intro p hp;rw[mb cR,bM (by omega)];rw[show off+i*4+p-(off+i*4)=p by omega]
  intro p hp;rw[mb cR,bG (by omega),mb je,bM (by omega),jX,bM (by omega),k7,lI];rw[show off+(i+1)*4+p-(off+(i+1)*4)=p by omega]
 have WQ:i=es.length:=by omega
 subst WQ;rcases oA cap (es.length+1) with fS | fS
 ·
  obtain⟨na,holds⟩:∃na,na=(arr.toList.drop off).take (es.length*4):=⟨_,rfl⟩
  have o0:na.length=es.length*4:=by rw[holds];simp;omega
  obtain⟨G,gg⟩:∃G,G=grownCap w (es.length+1) cap 141:=⟨_,rfl⟩
  have x8:es.length+1<=G:=by rw[gg];exact grownCap_ge w _ _ _
  have e5:∀ty,(Builtin.append_ #[48,48] ty #[.slice (some ⟨b,off,none⟩) es.length cap,.slice (some ⟨fw,gA,none⟩) 1 vc]).run prog w=.ok (.slice (some ⟨w.heap.size,0,none⟩) (es.length+1) G) (w.drew.alloc (.cells (na.toArray++x.toArray++Builtin.zeroCells (Value.agg #[.int .i64 0,.int .i64 0,.int .i64 0,.int .i64 0]).cells (G-(es.length+1))) 141)):=by
   intro ty;have:=run_append_grow (P:=prog) w 48 ty 141 i0 _ gS j8 bN ⟨b,off,none⟩ es.length cap na (by rw[aY,o0]) (fun j v bg=>by
    rw[holds,jX]at bg;split at bg
    ·rw[k7,lI]at bg;rw[Addr.add_lit];simp[World.cell?,aH.heap,bg]
    cases bg) ⟨fw,gA,none⟩ 1 vc x (by rw[aY,fA]) B1 (by omega) (by omega) (growslice_fits (by omega) (by rw[bx];omega))
   rw[<-gg]at this;exact this
  refine (J1 (some ⟨b,off,none⟩) es.length cap fw gA vc w _ _ o6 e5).mono ?_;rintro e aM ⟨rfl,rfl⟩;refine fin ⟨_,rfl,Rc,.inr ⟨w.heap.size,0,G,_,_,.inr (ga _),by simp,zL aH hi fA o9 (l8 w.drew _) x8 ?_ ?_ ?_ ?_⟩⟩
  ·simp only[sb,nB,size_zeroCells,fA,o0];show 0+G*4<=es.length*4+4+(G-(es.length+1))*4;omega
  ·intro p hp;rw[dF,iD,bM (by simp[o0];omega),iD,bM (by simp[o0];omega)];simp only[nA];rw[holds,jX,bM hp,k7,lI]
  ·intro p hp;rw[dF,iD,bM (by simp[o0];omega),iD,bG (by simp[o0])];simp only[nA,nB,o0];rw[show es.length*4+p-es.length*4=p by omega]
  intro p hp;simp at hp
 -- at TL end,there is room
 have e5:∀ty,(Builtin.append_ #[48,48] ty #[.slice (some ⟨b,off,none⟩) es.length cap,.slice (some ⟨fw,gA,none⟩) 1 vc]).run prog w=.ok (.slice (some ⟨b,off,none⟩) (es.length+1) cap) (w.setRow b (laid arr (off+es.length*4) x)):=by
  intro ty;have:=HY (P:=prog) (t:=48) (ty:=ty) gS j8 w b off es.length cap arr tb aH.heap ⟨fw,gA,none⟩ 1 vc x (by rw[aY,fA]) B1 o9 fS (by rw[aY,fA];omega);rw[aY]at this;exact this
 refine (J1 (some ⟨b,off,none⟩) es.length cap fw gA vc w _ _ o6 e5).mono ?_;rintro e aM ⟨rfl,rfl⟩;have je:off+es.length*4+x.length<=arr.size:=by omega
 refine fin ⟨_,rfl,aoK o2 _,.inr ⟨b,off,cap,_,tb,.inl o2,by simp,zL aH hi fA o9 (setRow_heap _ _ _ _ _ (0,0) aH.heap) fS ?_ ?_ ?_ ?_⟩⟩
 ·rw[sY je];exact dX
 ·intro p hp;rw[mb je,bG (by omega)]
 ·intro p hp;rw[mb je,bM (by omega)];rw[show off+es.length*4+p-(off+es.length*4)=p by omega]
 intro p hp;simp at hp
theorem Cell.Bp(xs:List Cell):xs.map Cell.e=fK (xs.map fun r=>r.e.map D.Ai):=by
 simp only[fK,List.map_map];rfl
theorem aoO(xs:List Cell)(x:Cell)(i:Nat)(hi:i<=xs.length)(ap:xs.length<=8388608):kj prog 305 [.one (.eV 4 (xs.map Cell.e) none),.one (.ro (I i)),.one (.eV 4 [x.e] none)] [.one (.J 4 ((xs.take i++x::xs.drop i).map Cell.e))]:=by
 have:=aoN (xs.map fun r=>r.e.map D.Ai) (x.e.map D.Ai) i (by simpa using hi) (by simpa using ap);rw[Cell.Bp,Cell.Bp];simp only[hy,mn,qQ,List.map_drop]at this ⊢;exact this
end Go.Proofs.YtdchjefneblpgaaGreat
namespace Go.Proofs.YtdchjefneblpgaaGreat
open Go.Sx Go.RowKit Go.Proofs.Tryz
def np(xs:List Cell)(x:Cell):Bool:=xs.any fun a=>decide (a=x)
def k0(xs:List Cell)(x:Cell):Nat:=(xs.findIdx? fun a=>!decide (hr a x<0)).getD xs.length
def jF(xs:List Cell)(x:Cell):List Cell:=if np xs x then xs else xs.take (k0 xs x)++x::xs.drop (k0 xs x)
theorem J2(xs:List Cell)(x:Cell):k0 xs x<=xs.length:=by
 unfold k0;cases h:xs.findIdx? (fun a=>!decide (hr a x<0)) with
 | none=>simp
 | some i=>
  rw[tE]at h;have:=h.1;simp;omega
theorem Re(xs:List Cell)(x:Cell):(jF xs x).length<=xs.length+1:=by
 unfold jF;split
 ·omega
 have:=J2 xs x;simp;omega
theorem Rf(xs:List Cell)(x:Cell)(ap:xs.length<=8388608):ar 306 [.one (.J 4 (xs.map Cell.e)),.agg x.e] [.one (B (np xs x))]:=by
 have l:=gy (P:=prog) (c:=(ao f306 0)) xs (fun a=>decide (a=x)) (fun i=>uI (xs.map Cell.e) x.op x.bc x.key x.val i) (X:=fun _ _=>JX true) e7 (cH 0)
  (fun i a ah h=>anY ⟨b6 (a1 ah),bw,bE (a1 ah),bA Cell.e ah,(JZ a x).trans h,dc (a1 ah) ap,aa⟩)
  (fun i a ah h=>anX ⟨b6 (a1 ah),bw,bE (a1 ah),bA Cell.e ah,(JZ a x).trans h,aa⟩)
  (anZ ⟨dz,aa⟩)
 unfold np;rcases l with⟨_,_,h1,U⟩ | ⟨i,a,_,_,_,_,h1,U⟩
 ·rw[h1];exact an1 ⟨U,aa⟩
 rw[h1];exact an0 ⟨U,aa⟩
theorem Rg(xs:List Cell)(x:Cell)(r:Bool)(h:np xs x=r)(ap:xs.length<=8388608):ar 306 [.one (.J 4 (xs.map Cell.e)),.agg x.e] [.one (B r)]:=h▸Rf xs x ap
def B2(xs:List Cell)(x:Cell):Int:=match xs.findIdx? (fun a=>decide (a=x)) with | some i=>i | none=>-1
theorem aoP(xs:List Cell)(x:Cell):decide (B2 xs x>=0)=np xs x:=by
 unfold B2 np;cases h:xs.findIdx? (fun a=>decide (a=x)) with
 | none=>
  have:xs.any (fun a=>decide (a=x))=false:=by
   rw[hd];rw[EJ]at h;exact fun a ah=>by simpa using h a ah
  rw[this];rfl
 | some i=>
  rw[tE]at h;obtain⟨hi,U,_⟩:=h;have:xs.any (fun a=>decide (a=x))=true:=qP.2 ⟨_,qM hi,U⟩;rw[this];simp
theorem aoQ(xs:List Cell)(x:Cell)(ap:xs.length<=8388608):ar 365 [.one (.J 4 (xs.map Cell.e)),.agg x.e] [.one (I (B2 xs x))]:=by
 have l:=gy (P:=prog) (c:=(ao f365 0)) xs (fun a=>decide (a=x)) (fun i=>uF (xs.map Cell.e) x.op x.bc x.key x.val i) (X:=fun i _=>JU i) e7 (cH 0)
  (fun i a ah h=>amu ⟨b6 (a1 ah),bw,bE (a1 ah),bA Cell.e ah,(Q4 a x).trans h,dc (a1 ah) ap,aa⟩)
  (fun i a ah h=>amt ⟨b6 (a1 ah),bw,bE (a1 ah),bA Cell.e ah,(Q4 a x).trans h,aa⟩)
  (amv ⟨dz,aa⟩)
 unfold B2;rcases l with⟨_,h1,_,U⟩ | ⟨i,a,_,_,_,h1,_,U⟩
 ·simp only[h1];exact amx ⟨U,aa⟩
 simp only[h1];exact amw ⟨U,aa⟩
theorem Rh(xs:List Cell)(x:Cell)(ap:xs.length<=8388608):ar 303 [.one (.J 4 (xs.map Cell.e)),.agg x.e] [.one (B (np xs x))]:=by
 rw[<-aoP];exact amq ⟨ams ⟨aoQ xs x ap,aa⟩,aa⟩
theorem Qs(xs:List Cell)(x:Cell)(r:Bool)(h:np xs x=r)(ap:xs.length<=8388608):ar 303 [.one (.J 4 (xs.map Cell.e)),.agg x.e] [.one (B r)]:=h▸Rh xs x ap
theorem td(xs:List Cell)(ap:xs.length<=8388608):ar 297 [.one (.J 4 (xs.map Cell.e))] [.one (.J 4 (xs.map Cell.e))]:=
 amp ⟨by simp;omega,by simp;omega,dA _ Cell.flat _,aa⟩
theorem zM(xs:List Cell)(x:Cell)(ap:xs.length<=8388608):ar 238 [.one (.J 4 (xs.map Cell.e)),.agg x.e] [.one (.J 4 ((jF xs x).map Cell.e))]:=by
 unfold jF;cases h:np xs x with
 | true=>
  rw[bM rfl];exact am9 ⟨Rg xs x true h ap,rfl,by simp;omega,by simp;omega,dA _ Cell.flat _,aa⟩
 | false=>
  rw[bG (by simp)];have l:cV prog (ao f238 0) (uJ (xs.map Cell.e) x.op x.bc x.key x.val 0) (gQ.exit 0) (zK (xs.map Cell.e) x.op x.bc x.key x.val (k0 xs x)):=by
   have l:=gy (P:=prog) (c:=(ao f238 0)) xs (fun a=>!decide (hr a x<0)) (fun i=>uJ (xs.map Cell.e) x.op x.bc x.key x.val i) (X:=fun i _=>zK (xs.map Cell.e) x.op x.bc x.key x.val i) (cH 0) (cH 0)
    (fun i a ah h=>ana ⟨b6 (a1 ah),bw,bE (a1 ah),bA Cell.e ah,CW a x,by simpa using h,dc (a1 ah) ap,aa⟩)
    (fun i a ah h=>anb ⟨b6 (a1 ah),bw,bE (a1 ah),bA Cell.e ah,CW a x,by simpa using h,aa⟩)
    (anc ⟨dz,aa⟩)
   unfold k0;rcases l with⟨_,h1,_,U⟩ | ⟨i,a,_,_,_,h1,_,U⟩
   ·rw[h1];exact U
   rw[h1];exact U
  have hp:=J2 xs x;generalize k0 xs x=p at*;refine am5 (ane ⟨Rg xs x false h ap,rfl,l,by simp,by simp,by simp;omega,by simp;omega,by simp;omega,?_,by simp;omega,by simp;omega,fV x.flat,by simp,by simp;omega,by simp,by simp;omega,by simp;omega,?_,aa⟩) ?_
  ·simp only[jZ,pP,Nat.sub_zero,vz,<-qQ];exact dA _ Cell.flat _
  ·simp only[jZ,pP,<-qQ,<-List.map_drop];exact dA _ Cell.flat _
  simp only[jZ,pP,Nat.sub_zero,vz,List.nil_append,<-qQ,<-List.map_drop,hy,mn,tG]
  congr 1
  rw[AY (by simp)];rfl
theorem Qt(xs:List Cell)(x:Cell)(ap:xs.length<=8388608):ar 237 [.one (.J 4 (xs.map Cell.e)),.agg x.e] [.one (.J 4 ((jF xs x).map Cell.e))]:=by
 have c:=td xs ap;unfold jF;cases h:np xs x with
 | true=>
  rw[bM rfl];exact amy ⟨c,Qs xs x true h ap,rfl,aa⟩
 | false=>
  rw[bG (by simp)];have l:cV prog (ao f237 0) (uG (xs.map Cell.e) x.op x.bc x.key x.val (xs.map Cell.e) 0) (gQ.exit 0) (zJ x.op x.bc x.key x.val (xs.map Cell.e) (k0 xs x)):=by
   have l:=gy (P:=prog) (c:=(ao f237 0)) xs (fun a=>!decide (hr a x<0)) (fun i=>uG (xs.map Cell.e) x.op x.bc x.key x.val (xs.map Cell.e) i) (X:=fun i _=>zJ x.op x.bc x.key x.val (xs.map Cell.e) i) (cH 0) (cH 0)
    (fun i a ah h=>alZ ⟨b6 (a1 ah),bw,bE (a1 ah),bA Cell.e ah,CV a x,by simpa using h,dc (a1 ah) ap,aa⟩)
    (fun i a ah h=>al0 ⟨b6 (a1 ah),bw,bE (a1 ah),bA Cell.e ah,CV a x,by simpa using h,aa⟩)
    (al1 ⟨dz,aa⟩)
   unfold k0;rcases l with⟨_,h1,_,U⟩ | ⟨i,a,_,_,_,h1,_,U⟩
   ·rw[h1];exact U
   rw[h1];exact U
  exact al2 ⟨c,Qs xs x false h ap,rfl,l,aoO xs x (k0 xs x) (J2 xs x) ap,aa⟩
end Go.Proofs.YtdchjefneblpgaaGreat
namespace Go.Proofs.YtdchjefneblpgaaGreat
open Go.Sx Go.RowKit Go.Proofs.Tryz
def fF(g:bR)(op:Int):Option Node:=if 0<=op then g.nodes[op.toNat]? else none
variable{g:bR}{a:Int}{w:Node}
theorem CX(h:fF g a=some w):0<=a/\a<(↑(g.nodes.map Node.e).length:Int)/\(g.nodes.map Node.e)[a.toNat]?=some w.e/\aq a 0 (↑(g.nodes.map Node.e).length-1)=true:=by
 unfold fF at h;split at h
 ·have:=(fy.1 h).1;refine⟨‹_›,by simp;omega,by simp[h],?_⟩;simp only[aq,cm,cW];omega
 cases h
theorem Qu(h:fF g a=none):aq a 0 (↑(g.nodes.map Node.e).length-1)=false:=by
 unfold fF at h;simp only[aq,cm,oB];split at h
 ·rw[List.getElem?_eq_none_iff]at h;omega
 omega
theorem J3(h:fF g a=some w):w∈g.nodes:=by
 unfold fF at h;split at h
 ·exact fl h
 cases h
theorem bR.X4(h:g.sz<=8388608):g.nodes.length<=8388608:=by simp only[bR.sz,eZ]at h;omega
theorem bR.yR(h:g.sz<=8388608)(hw:w∈g.nodes):w.outs.length<=8388608:=by
 have:=CF (sz:=Node.sz) hw;simp only[bR.sz,eZ]at h;have aY:w.outs.length<=w.sz:=by simp only[Node.sz];omega
 omega
theorem CY(h:g.sz<=8388608):aI .i64 ((↑(g.nodes.map Node.e).length:Int)-1):=by
 have:=bR.X4 h;exact⟨by simp;omega,by simp;omega⟩
theorem aoR(g:bR)(op:Int)(av:g.sz<=8388608):ar 250 [.agg g.e,.one (I op)] [.one (B (fF g op).isSome)]:=by
 cases h:fF g op with
 | none=>exact QZ ⟨CY av,h4 _ (Qu h),aa⟩
 | some w=>exact QZ ⟨CY av,h4 _ (CX h).2.2.2,aa⟩
theorem w5(g:bR)(op:Int)(r:Bool)(h:(fF g op).isSome=r)(av:g.sz<=8388608):ar 250 [.agg g.e,.one (I op)] [.one (B r)]:=h▸aoR g op av
def te(g:bR)(op:Int):Node×Bool:=match fF g op with | some n=>(n,true) | none=>(⟨0,0,0,[]⟩,false)
theorem aoS(n:Int):∀d∈a6 n,∃x,d=.v x:=by
 intro d aG;simp only[a6,ep,nG,or_false]at aG;subst aG;exact⟨_,rfl⟩
theorem aoT(g:bR)(op:Int)(av:g.sz<=8388608):ar 249 [.agg g.e,.one (I op)] [.agg (te g op).1.e,.one (B (te g op).2)]:=by
 unfold te;cases h:fF g op with
 | none=>exact anf ⟨CY av,fk _ _ _ _ (Qu h),rfl,aa⟩
 | some w=>
  obtain⟨h1,U,ax,aJ⟩:=CX h;have aZ:=bR.yR av (J3 h);exact ang ⟨CY av,fk _ _ _ _ aJ,rfl,h1,U,ax,by simp;omega,by simp;omega,dA _ aoS _,aa⟩
theorem CZ(g:bR)(op:Int)(r:Node×Bool)(h:te g op=r)(av:g.sz<=8388608):ar 249 [.agg g.e,.one (I op)] [.agg r.1.e,.one (B r.2)]:=h▸aoT g op av
