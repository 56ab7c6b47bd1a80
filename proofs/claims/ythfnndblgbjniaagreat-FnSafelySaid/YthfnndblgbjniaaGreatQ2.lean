import Derived.WalkKit
import Derived.Deep.RegionLaw
import Derived.Shelf.RegionOpenPlain
import Derived.Lib.SliceRun
import Derived.Lib.JoinLaws
import Derived.Lib.Overlaps
import Derived.Lib.AppendZerosOnto
import Derived.Laws.Externs
import Derived.Deep.LoopGhost
import Derived.Lib.Walk
import Derived.Test.YthfnndblgbjniaaGreatC0
set_option linter.unusedVariables false
set_option linter.unusedSimpArgs false
namespace Go.Proofs.YthfnndblgbjniaaGreat
open Go.Sx Go.RowKit Go.Shelf Go.Lib Go.Proofs.Tryz
variable{P:Program}{w:World}{ops:Array Oper}{o:Oper}{a:Act}{Q:Exit->Act->World->Prop}
theorem V'{rest:List Oper}(Kq:o.guard=none)(d s:Operand)(t dx:TypeId)
  (a8:o.op=.call { callee:=.builtin .copy,args:=#[d,s],argTypes:=#[t,dx] }) (v u:Value) (aE:a.eval d=v) (ao:a.eval s=u) {k9:Value} {aN:World}
  (aC:(Builtin.copy_ #[t,dx] o.type #[v,u]).run P w=.ok k9 aN) (h:wpList P ops Q rest (a.put o.dst k9) aN):wpList P ops Q (o::rest) a w:=
 wpList_plain Kq fun _ iv=>by
  unfold Oper.wp execOp;simp only[a8,resolve,invoke,builtin,Sem.run_bind,Sem.run_pure,Result.andThen_ok,List.map_toArray,mg,List.map_nil,aE,ao,aC];exact iv _ _ h
theorem Wa{K:Act->World->Prop}{E:Prop}
  (ay:o.guard=none) (d x:Operand) (dh a':TypeId) (rB:o.op=Op.call { callee:=Callee.builtin Builtin.copy,args:=#[d,x],argTypes:=#[dh,a'] })
  (v u:Value) (aE:a.eval d=v) (ag:a.eval x=u) {k9:Value} {aN:World} (aC:(Builtin.copy_ #[dh,a'] o.type #[v,u]).run P w=.ok k9 aN) (iv:K (a.put o.dst k9) aN):
  if Region.wanted o (yielded ops a.tmps)=true then Oper.wp P o a w K Q else E:=by
 have hw:Region.wanted o (yielded ops a.tmps)=true:=by simp[Region.wanted,ay]
 rw[bq hw];unfold Oper.wp;simp[execOp,rB,resolve,invoke,builtin,aE,ag,aC,Result.andThen];exact iv
theorem NO{rest:List Oper}(Kq:o.guard=none)(d s:Operand)(t dx:TypeId)
  (a8:o.op=.call { callee:=.builtin .append,args:=#[d,s],argTypes:=#[t,dx] }) (v u:Value) (aE:a.eval d=v) (ao:a.eval s=u) {k9:Value} {aN:World}
  (aC:(Builtin.append_ #[t,dx] o.type #[v,u]).run P w=.ok k9 aN) (h:wpList P ops Q rest (a.put o.dst k9) aN):wpList P ops Q (o::rest) a w:=
 wpList_plain Kq fun _ iv=>by
  unfold Oper.wp execOp;simp only[a8,resolve,invoke,builtin,Sem.run_bind,Sem.run_pure,Result.andThen_ok,List.map_toArray,mg,List.map_nil,aE,ao,aC];exact iv _ _ h
set_option maxHeartbeats 4000000 in
set_option maxRecDepth 1000000 in
theorem NP(base:Option Addr)(n cap gM h0 vc:Nat)(w w1:World)(v:Value)(aW:n<=cap)
  (fU:∀ty,(Builtin.append_ #[40,40] ty #[.slice base n cap,.slice (some ⟨gM,h0,none⟩) 1 vc]).run prog w=.ok v w1):
  Calls prog 231 #[.slice base n cap,.int .i64 n,.slice (some ⟨gM,h0,none⟩) 1 vc] w fun e aN=>e=.returned v/\aN=w1:=by
 have mixed:prog.follows .mixedOrders=true:=by kernel_rfl
 go_enter func231,Tryz.ntmps231
 cases base with
 | none=>
  go_wp2_with (at_builtin;refine NO rfl _ _ _ _ rfl _ _ rfl rfl (fU _) ?_)
  all_goals (go_ret;exact⟨rfl,rfl⟩)
 | some a=>
  obtain⟨ab,aEG,aEJ⟩:=a
  go_wp2_with (at_builtin;refine NO rfl _ _ _ _ rfl _ _ rfl rfl (fU _) ?_)
  all_goals (go_ret;exact⟨rfl,rfl⟩)
set_option maxHeartbeats 4000000 in
set_option maxRecDepth 1000000 in
theorem aim(b off n cap i gM h0 vc:Nat)(arr:Array Value)(tb:TypeId)(pd:Array Value)(tA:TypeId)(x:List Value)(w:World)(aw:w.heap[b]?=some (.cells arr tb (0,0)))(bF:w.heap[gM]?=some (.cells pd tA (0,0)))(SZ:gM≠b)
  (hi:i<n) (aW:n+1<=cap) (eo:off+cap*4<=arr.size) (gz:x.length=4) (uj:∀j v,x[j]?=some v->pd[h0+j]?=some v) (Bz:∀v∈x,v.oneCell'=true)
  (h1:∀x v,off<=x->x<off+n*4->arr[x]?=some v->v.oneCell'=true) (Fy:n<8388609):
  Calls prog 231 #[.slice (some ⟨b,off,none⟩) n cap,.int .i64 i,.slice (some ⟨gM,h0,none⟩) 1 vc] w fun e aN=>e=.returned (.slice (some ⟨b,off,none⟩) (n+1) cap)/\
   aN=(w.drew.setRow b (laid arr (off+(i+1)*4) ((arr.toList.drop (off+i*4)).take ((n-i)*4)))).setRow b (laid (laid arr (off+(i+1)*4) ((arr.toList.drop (off+i*4)).take ((n-i)*4))) (off+i*4) x):=by
 obtain⟨mid,rz⟩:∃mid,mid=(arr.toList.drop (off+i*4)).take ((n-i)*4):=⟨_,rfl⟩
 have sL:mid.length=(n-i)*4:=by rw[rz];simp;omega
 have sJ:∀u∈mid,u.oneCell'=true:=by
  intro u hu;obtain⟨y,bu⟩:=ob.1 hu;rw[rz,jZ]at bu;split at bu
  ·rw[lx,mN]at bu;exact h1 _ u (by omega) (by omega) bu
  cases bu
 rw[<-rz];obtain⟨dD,rk⟩:∃dD,dD=laid arr (off+(i+1)*4) mid:=⟨_,rfl⟩
 have mw:dD.size=arr.size:=by rw[rk];exact rZ (by omega)
 obtain⟨iq,mX⟩:∃iq,iq=w.drew.setRow b dD:=⟨_,rfl⟩
 have hs:iq.heap[b]?=some (.cells dD tb (0,0)):=by rw[mX];exact setRow_heap w.drew b arr dD tb (0,0) aw
 have ug:iq.heap[gM]?=some (.cells pd tA (0,0)):=by rw[mX,setRow_other _ b gM _ SZ];exact bF
 have dO:(prog.info? 128).map (·.size)=some 4:=by kernel_rfl
 have gV:prog.underlying 40=some (.slice 128):=by kernel_rfl
 have adA:∀ty l1 lS,(Builtin.copy_ #[40,40] ty #[.slice (some ⟨b,off+(i+1)*4,none⟩) (n-i) l1,.slice (some ⟨b,off+i*4,none⟩) (n+1-i) lS]).run prog w.drew=.ok (goInt (Nat.min (n+1-i) (n-i))) iq:=by
  intro ty l1 lS;have xm:Nat.min (n+1-i) (n-i)=n-i:=by simp only[Nat.min_def];split<;>omega
  rw[mX,rk];refine Ga w.drew _ _ ty _ 4 b (off+(i+1)*4) _ l1 arr tb ⟨b,off+i*4,none⟩ _ lS mid gV dO aw (by rw[xm,sL]) (fun j v bf=>?_) (by omega) sJ;rw[rz,jZ]at bf;split at bf
  ·rw[lx,mN]at bf;rw[Addr.add_lit];have eE:w.drew.heap[b]?=some (.cells arr tb (0,0)):=aw;simp[World.cell?,eE,bf]
  cases bf
 obtain⟨pb,rl⟩:∃pb,pb=iq.setRow b (laid dD (off+i*4) x):=⟨_,rfl⟩
 have adB:∀ty l1,(Builtin.copy_ #[40,40] ty #[.slice (some ⟨b,off+i*4,none⟩) (n+1-i) l1,.slice (some ⟨gM,h0,none⟩) 1 vc]).run prog iq=.ok (goInt (Nat.min 1 (n+1-i))) pb:=by
  intro ty l1;have xm:Nat.min 1 (n+1-i)=1:=by simp only[Nat.min_def];split<;>omega
  rw[rl];refine Ga iq _ _ ty _ 4 b (off+i*4) _ l1 dD tb ⟨gM,h0,none⟩ _ vc x gV dO hs (by rw[xm,gz]) (fun j v bf=>?_) (by omega) Bz;rw[Addr.add_lit];simp[World.cell?,ug,uj j v bf]
 have aey:∀LB JE,(callFunc 236 #[.slice (some ⟨gM,h0,none⟩) 1 vc,.slice (some ⟨b,off+(i+1)*4,none⟩) LB JE]).run prog w=.ok (.value (.bool false)) w:=fun LB JE=>by
  rw[run_callFunc_extern (P:=prog) func236 (by kernel_rfl) (by kernel_rfl) (by kernel_rfl) (e:=Extern.SlicesOverlaps.overlaps #[40,40] #[4]) (by kernel_rfl),
   Lib.run_overlaps_apart w 40 4 128 gV 4 (fun w=>by simp[sizeOf,typeInfo];kernel_rfl) ⟨gM,h0,none⟩ ⟨b,off+(i+1)*4,none⟩ 1 vc LB JE SZ tA tb pd.size arr.size (by simp[World.shape?,bF]) (by simp[World.shape?,aw]) (by omega) (by simp[World.frozen?,bF]) (by simp[World.frozen?,bF])]
  rfl
 have X:Aside (pb=(w.drew.setRow b dD).setRow b (laid dD (off+i*4) x)):=by rw[rl,mX];trivial
 have iU:i<=n:=by omega
 have ae8:IntKind.i64.wrap ((i:Int)+1)=(i:Int)+1:=by rw[IntKind.wrap_i64];omega
 have ae9:IntKind.i64.wrap ((n:Int)+1)=(n:Int)+1:=by rw[IntKind.wrap_i64];omega
 have iw:(0:Int)<=(i:Int)+1:=by omega
 have aeX:((i:Int)+1).toNat=i+1:=by omega
 have aF8:((n:Int)+1).toNat=n+1:=by omega
 have hS:¬(cap=i+1):=by omega
 have BO:(i:Int)+1<=(n:Int)+1:=by omega
 have tW:¬(cap=i):=by omega
 have ado:(i:Int)<=(n:Int)+1:=by omega
 have qy:¬((i:Int)=(n:Int)):=by omega
 have mixed:prog.follows .mixedOrders=true:=by kernel_rfl
 clear mX rl hs ug aw bF rz sL sJ mw dO gV h1 Bz uj gz
 go_enter func231,Tryz.ntmps231
 go_wp2_with (simp only[aey])
 go_region_law_o (refine Wa rfl _ _ 40 40 rfl _ _ (by simp[Act.eval,Act.put]) (by simp[Act.eval,Act.put]) (adA _ _ _) ?_)
 go_wp2_with (at_builtin;refine V' rfl _ _ 40 40 rfl _ _ rfl rfl (adB _ _) ?_)
 go_ret
 exact⟨rfl,by rw[<-rk];exact X⟩
set_option maxHeartbeats 4000000 in
set_option maxRecDepth 1000000 in
theorem ain(b off n cap i gM h0 vc:Nat)(arr:Array Value)(tb:TypeId)(pd:Array Value)(tA:TypeId)(x:List Value)(w:World)(aw:w.heap[b]?=some (.cells arr tb (0,0)))(bF:w.heap[gM]?=some (.cells pd tA (0,0)))
  (hi:i<n) (aW:n<=cap) (ay:cap<n+1) (eo:off+cap*4<=arr.size) (gz:x.length=4) (uj:∀j v,x[j]?=some v->pd[h0+j]?=some v) (Bz:∀v∈x,v.oneCell'=true)
  (h1:∀x v,off<=x->x<off+n*4->arr[x]?=some v->v.oneCell'=true) (Fy:n<8388609):
  Calls prog 231 #[.slice (some ⟨b,off,none⟩) n cap,.int .i64 i,.slice (some ⟨gM,h0,none⟩) 1 vc] w fun e aN=>∃(G:Nat) (j3:Array Value),n+1<=G/\j3.size=G*4/\(∀y,y<i*4->j3[y]?=arr[off+y]?)/\e=.returned (.slice (some ⟨w.heap.size,0,none⟩) (n+1) G)/\
   aN=(((w.drew.alloc (.cells j3 128)).setRow w.heap.size (laid j3 (i*4) x)).drew).setRow w.heap.size (laid (laid j3 (i*4) x) ((i+1)*4) ((arr.toList.drop (off+i*4)).take ((n-i)*4))):=by
 obtain⟨mid,rz⟩:∃mid,mid=(arr.toList.drop (off+i*4)).take ((n-i)*4):=⟨_,rfl⟩
 have sL:mid.length=(n-i)*4:=by rw[rz];simp;omega
 have sJ:∀u∈mid,u.oneCell'=true:=by
  intro u hu;obtain⟨y,bu⟩:=ob.1 hu;rw[rz,jZ]at bu;split at bu
  ·rw[lx,mN]at bu;exact h1 _ u (by omega) (by omega) bu
  cases bu
 rw[<-rz];have gV:prog.underlying 40=some (.slice 128):=by kernel_rfl
 have SV:prog.underlying 3=some (.int .i64):=by kernel_rfl
 have dO:(prog.info? 128).map (·.size)=some 4:=by kernel_rfl
 have Kd:(prog.info? 128).map (fun x=>(x.bytes,x.zero))=some (32,some (.agg #[.int .i64 0,.int .i64 0,.int .i64 0,.int .i64 0])):=by kernel_rfl
 obtain⟨pK,holds⟩:∃pK,pK=(arr.toList.drop off).take (i*4):=⟨_,rfl⟩
 have rA:pK.length=i*4:=by rw[holds];simp;omega
 obtain⟨G,hA⟩:∃G,G=grownCap w (n+1) cap 128:=⟨_,rfl⟩
 have BM:n+1<=G:=by rw[hA];exact grownCap_ge w _ _ _
 have aFc:G<=9223372036854775807:=by
  have:=grownCap_le_maxLen w (n+1) cap 128 (by unfold maxLen;omega);rw[<-hA]at this;unfold maxLen at this;omega
 obtain⟨j3,Fs⟩:∃j3:Array Value,j3=pK.toArray++Builtin.zeroCells (Value.agg #[.int .i64 0,.int .i64 0,.int .i64 0,.int .i64 0]).cells (n+1-i)++Builtin.zeroCells (Value.agg #[.int .i64 0,.int .i64 0,.int .i64 0,.int .i64 0]).cells (G-(n+1)):=⟨_,rfl⟩
 have Fu:j3.size=G*4:=by
  rw[Fs];simp only[u',o1,size_zeroCells,rA];show i*4+(n+1-i)*4+(G-(n+1))*4=G*4;omega
 have Ft:∀y,y<i*4->j3[y]?=arr[off+y]?:=by
  intro y bu;rw[Fs,ji,bq (by simp[size_zeroCells];omega),ji,bq (by simp;omega)];simp only[p6];rw[holds,jZ,bq bu,lx,mN]
 obtain⟨mR,zi⟩:∃mR,mR=w.drew.alloc (.cells j3 128):=⟨_,rfl⟩
 have J6:mR.heap[w.heap.size]?=some (.cells j3 128 (0,0)):=by rw[zi];exact oP w.drew _
 have xi:b<w.heap.size:=(jj.1 aw).1;have KT:gM<w.heap.size:=(jj.1 bF).1;have iw:mR.heap[b]?=some (.cells arr tb (0,0)):=by rw[zi,xK w.drew _ xi];exact aw
 have FR:mR.heap[gM]?=some (.cells pd tA (0,0)):=by rw[zi,xK w.drew _ KT];exact bF
 have aeN:∀ty,(Builtin.append_ #[40,3] ty #[.slice (some ⟨b,off,none⟩) i cap,.int .i64 ((n:Int)+1-(i:Int))]).run prog w=.ok (.slice (some ⟨w.heap.size,0,none⟩) (n+1) G) mR:=by
  intro ty;cases lH:prog.info? 128 with
  | none=>rw[lH]at dO;cases dO
  | some i0=>
   rw[lH]at dO Kd;have a7:i0.size=4:=by simpa using dO
   obtain⟨bw,b1⟩:i0.bytes=32/\i0.zero=some (.agg #[.int .i64 0,.int .i64 0,.int .i64 0,.int .i64 0]):=by simpa using Kd
   have hold:(Builtin.firstCells i0.size i (.slice (some ⟨b,off,none⟩) i cap)).run prog w.drew=.ok pK.toArray w.drew:=by
    rw[a7];refine run_firstCells_some w.drew 4 i ⟨b,off,none⟩ i cap pK rA (fun j v bf=>?_);rw[Addr.add_lit];rw[holds,jZ]at bf;split at bf
    ·rw[lx,mN]at bf;have eE:w.drew.heap[b]?=some (.cells arr tb (0,0)):=aw;simp[World.cell?,eE,bf]
    cases bf
   have Sr:i+(n+1-i)=n+1:=by omega
   have h:=Lib.run_append_grow_zeros w 40 3 ty 128 i0 _ .i64 .i64 gV SV lH b1 (some ⟨b,off,none⟩) i cap pK hold (n+1-i) (by omega) (by omega) (by omega) (by omega) (by rw[bw];omega) (by rw[bw,Sr];exact growslice_fits ay (by omega));rw[Sr,<-hA,<-Fs,<-zi]at h;rw[show (n:Int)+1-(i:Int)=((n+1-i:Nat):Int) by omega];exact h
 obtain⟨dD,rk⟩:∃dD,dD=laid j3 (i*4) x:=⟨_,rfl⟩
 have mw:dD.size=j3.size:=by rw[rk];exact rZ (by omega)
 obtain⟨iq,mX⟩:∃iq,iq=mR.setRow w.heap.size dD:=⟨_,rfl⟩
 have R6:iq.heap[w.heap.size]?=some (.cells dD 128 (0,0)):=by rw[mX];exact setRow_heap mR _ j3 dD _ (0,0) J6
 have hs:iq.heap[b]?=some (.cells arr tb (0,0)):=by rw[mX,setRow_other _ _ b _ (by omega)];exact iw
 have adC:∀ty l1,(Builtin.copy_ #[40,40] ty #[.slice (some ⟨w.heap.size,i*4,none⟩) (n+1-i) l1,.slice (some ⟨gM,h0,none⟩) 1 vc]).run prog mR=.ok (goInt (Nat.min 1 (n+1-i))) iq:=by
  intro ty l1;have xm:Nat.min 1 (n+1-i)=1:=by simp only[Nat.min_def];split<;>omega
  rw[mX,rk];refine Ga mR _ _ ty _ 4 _ (i*4) _ l1 j3 _ ⟨gM,h0,none⟩ _ vc x gV dO J6 (by rw[xm,gz]) (fun j v bf=>?_) (by omega) Bz;rw[Addr.add_lit];simp[World.cell?,FR,uj j v bf]
 obtain⟨pb,rl⟩:∃pb,pb=iq.drew.setRow w.heap.size (laid dD ((i+1)*4) mid):=⟨_,rfl⟩
 have adD:∀ty l1 lS,(Builtin.copy_ #[40,40] ty #[.slice (some ⟨w.heap.size,(i+1)*4,none⟩) (n-i) l1,.slice (some ⟨b,off+i*4,none⟩) (n-i) lS]).run prog iq.drew=.ok (goInt (Nat.min (n-i) (n-i))) pb:=by
  intro ty l1 lS;have xm:Nat.min (n-i) (n-i)=n-i:=Nat.min_self _;rw[rl];refine Ga iq.drew _ _ ty _ 4 _ ((i+1)*4) _ l1 dD _ ⟨b,off+i*4,none⟩ _ lS mid gV dO R6 (by rw[xm,sL]) (fun j v bf=>?_) (by omega) sJ;rw[Addr.add_lit];rw[rz,jZ]at bf;split at bf
  ·rw[lx,mN]at bf;have eE:iq.drew.heap[b]?=some (.cells arr tb (0,0)):=hs;simp[World.cell?,eE,bf]
  cases bf
 have X:Aside (pb=(((w.drew.alloc (.cells j3 128)).setRow w.heap.size dD).drew).setRow w.heap.size (laid dD ((i+1)*4) mid)):=by rw[rl,mX,zi];trivial
 have Y:Aside (n+1<=G/\j3.size=G*4/\∀y,y<i*4->j3[y]?=arr[off+y]?):=⟨BM,Fu,Ft⟩
 have qy:¬((i:Int)=(n:Int)):=by omega
 have S6:(cap:Int)<(n:Int)+1:=by omega
 have ae8:IntKind.i64.wrap ((i:Int)+1)=(i:Int)+1:=by rw[IntKind.wrap_i64];omega
 have ae9:IntKind.i64.wrap ((n:Int)+1)=(n:Int)+1:=by rw[IntKind.wrap_i64];omega
 have aGb:IntKind.i64.wrap ((n:Int)+1-(i:Int))=(n:Int)+1-(i:Int):=by rw[IntKind.wrap_i64];omega
 have aFl:(0:Int)<=(i:Int)+1:=by omega
 have iU:i<=n:=by omega
 have aeX:((i:Int)+1).toNat=i+1:=by omega
 have BO:(i:Int)<=(n:Int):=by omega
 have ado:(i:Int)<=(n:Int)+1:=by omega
 have aFn:(i:Int)+1<=(n:Int)+1:=by omega
 have aFd:¬(G=i):=by omega
 have aFe:¬(G=i+1):=by omega
 have aFq:¬(cap=i):=by omega
 have aFJ:i<=G:=by omega
 have adY:i<=cap:=by omega
 have mixed:prog.follows .mixedOrders=true:=by kernel_rfl
 clear mX rl hs aw bF rz sL sJ mw dO gV h1 Bz uj gz Ft Fu J6 R6 iw FR zi Fs holds rA SV Kd hA
 go_enter func231,Tryz.ntmps231
 go_wp2_with (first
  | (at_builtin;refine NO rfl _ _ _ _ rfl _ _ rfl rfl (aeN _) ?_)
  | (at_builtin;refine V' rfl _ _ 40 40 rfl _ _ rfl rfl (adC _ _) ?_))
 go_region_law_o (refine Wa rfl _ _ 40 40 rfl _ _ (by simp[Act.eval,Act.put]) (by simp[Act.eval,Act.put]) (adD _ _ _) ?_)
 go_wp2
 go_ret
 exact⟨G,j3,Y.1,Y.2.1,Y.2.2,rfl,by rw[<-rk];exact X⟩
variable{b:Nat}
theorem CZ{aN:World}{off cap:Nat}{arr:Array Value}{tb:TypeId}{es:List (List Value)}(aC:Row w b off 4 cap arr tb es){x:List Value}{i:Nat}(hi:i<=es.length)(gz:x.length=4)(qx:∀v∈x,v.oneCell'=true)
  {dE o mU:Nat} {A:Array Value} {ty:TypeId} (bO:aN.heap[dE]?=some (.cells A ty (0,0))) (ai:es.length+1<=mU) (eo:o+mU*4<=A.size)
  (BL:∀p,p<i*4->A[o+p]?=arr[off+p]?) (qm:∀p,p<4->A[o+i*4+p]?=x[p]?) (hC:∀p,p<(es.length-i)*4->A[o+(i+1)*4+p]?=arr[off+i*4+p]?):
  Row aN dE o 4 mU A ty (es.take i++x::es.drop i):=by
 have al:(es.take i++x::es.drop i).length=es.length+1:=by simp;omega
 have Cf:(es.take i).length=i:=by simp;omega
 refine⟨bO,by rw[al];exact ai,eo,?_,?_,?_⟩
 ·intro e he;rcases hM.1 he with h | h
  ·exact aC.len e (sl h)
  rcases ev.1 h with rfl | h
  ·exact gz
  exact aC.len e (wY h)
 ·intro e he;rcases hM.1 he with h | h
  ·exact aC.one e (sl h)
  rcases ev.1 h with rfl | h
  ·exact qx
  exact aC.one e (wY h)
 intro k j e v hk bf;have zr:=(ga.1 hk).1;rw[al]at zr;by_cases h1:k<i
 ·rw[Ba (by omega),jZ,bq h1]at hk;have jG:j<4:=by
   have:=(ga.1 bf).1;have:=aC.len e (gj hk);omega
  rw[ES,BL _ (by omega),<-ES];exact aC.cell k j e v hk bf
 rw[wX (by omega),Cf]at hk;by_cases U:k=i
 ·subst U;rw[Nat.sub_self,lY,aZ]at hk;subst hk;have jG:=(ga.1 bf).1;rw[qm j (by omega)];exact bf
 obtain⟨m,rfl⟩:∃m,k=i+1+m:=⟨k-(i+1),by omega⟩
 rw[show i+1+m-i=m+1 by omega,p8,lx]at hk;have jG:j<4:=by
  have:=(ga.1 bf).1;have:=aC.len e (gj hk);omega
 have:=aC.cell (i+m) j e v hk bf;rw[<-this,show o+(i+1+m)*4+j=o+(i+1)*4+(m*4+j) by omega,hC _ (by omega)]
 congr 1
 omega
theorem aio{off cap:Nat}{arr:Array Value}{tb:TypeId}{es:List (List Value)}(aC:Row w b off 4 cap arr tb es):∀x v,off<=x->x<off+es.length*4->arr[x]?=some v->v.oneCell'=true:=by
 intro x v qx kz bF;have bR:(x-off) / 4<es.length:=by omega
 have he:=gU bR;have hlen:=aC.len _ (p9 bR);have kx:(x-off) % 4<(es[(x-off) / 4]).length:=by omega
 have:=aC.cell _ _ _ _ he (gU kx);rw[show off+(x-off) / 4*4+(x-off) % 4=x by omega,bF]at this;rw[gO this];exact aC.one _ (p9 bR) _ (p9 kx)
variable{own:Nat->Prop}
theorem aip(aw:own b)(dD:Array Value):sm ⟨w,own,fun _=>(0,undef)⟩ (w.setRow b dD):=by
 refine⟨rfl,rfl,rfl,by simp,fun k hk ay=>?_,fun _=>fi _⟩;have:k≠b:=fun e=>ay (by rw[e];exact aw)
 rw[setRow_other _ b k _ this]
theorem Wb{o:Obj}:sm ⟨w,own,fun _=>(0,undef)⟩ (w.drew.alloc o):=by
 refine⟨rfl,rfl,rfl,by simp[World.alloc],fun k hk _=>?_,fun _=>?_⟩
 ·rw[xK w.drew o hk];rfl
 show w.drawn<=w.drawn+1;omega
theorem aiq{o:Obj}{dD Jq:Array Value}:sm ⟨w,own,fun _=>(0,undef)⟩ ((((w.drew.alloc o).setRow w.heap.size dD).drew).setRow w.heap.size Jq):=by
 refine⟨rfl,rfl,rfl,by simp[World.alloc],fun k hk _=>?_,fun _=>?_⟩
 ·rw[setRow_other _ _ k _ (by simp only at hk;omega)];show ((w.drew.alloc o).setRow w.heap.size dD).heap[k]?=w.heap[k]?;rw[setRow_other _ _ k _ (by simp only at hk;omega),xK w.drew o hk];rfl
 show w.drawn<=w.drawn+1+1;omega
theorem air:∃i0,prog.info? 128=some i0/\i0.size=4/\i0.bytes=32/\i0.zero=some (.agg #[.int .i64 0,.int .i64 0,.int .i64 0,.int .i64 0]):=by
 have dO:(prog.info? 128).map (fun x=>(x.size,x.bytes,x.zero))=some (4,32,some (.agg #[.int .i64 0,.int .i64 0,.int .i64 0,.int .i64 0])):=by kernel_rfl
 cases h:prog.info? 128 with
 | none=>rw[h]at dO;cases dO
 | some i0=>
  rw[h]at dO;simp only[sk,aZ,bL]at dO;exact⟨i0,rfl,dO.1,dO.2.1,dO.2.2⟩
theorem ais(es:List (List Value))(x:List Value)(i:Nat)(hi:i<=es.length)(al:es.length<=8388608):ks prog 231 [.one (.e5 4 (gG es) none),.one (.ro (I i)),.one (.e5 4 (gG [x]) none)] [.one (.J 4 (gG (es.take i++x::es.drop i)))]:=by
 rintro w vs ω ⟨ay,aW,ah⟩ mx;obtain⟨y,bu,kY⟩:=ah 0 _ rfl;obtain⟨gD,hd,KS⟩:=ah 1 _ rfl;obtain⟨z,bb,qy⟩:=ah 2 _ rfl;have e1:gD=.int .i64 i:=b3.Fl KS;subst e1;have qw:=RG aW bu hd bb;subst qw;have gV:prog.underlying 40=some (.slice 128):=by kernel_rfl
 obtain⟨i0,lH,a7,bw,b1⟩:=air;rcases ay.row qy with⟨h,_⟩ | ⟨gM,h0,vc,pd,tA,S8,rfl,xq⟩
 ·cases h
 have gz:x.length=4:=xq.len x (by simp);have qx:∀v∈x,v.oneCell'=true:=xq.one x (by simp);have uj:∀j v,x[j]?=some v->pd[h0+j]?=some v:=fun j v bf=>by simpa using xq.cell 0 j x v rfl bf
 have FU:∀j v,x[j]?=some v->w.cell? ((⟨gM,h0,none⟩:Addr).add j)=some v:=fun j v bf=>by
  rw[Addr.add_lit];simp[World.cell?,xq.heap,uj j v bf]
 have fin:∀{e:Ending} {aN:World},(∃v,e=.returned v/\EX w aN (fun b=>ω b≠.bP) 4 (es.take i++x::es.drop i) v)->∃v,e=.returned v/\gZ ⟨w,fun b=>ω b≠.bP,fun _=>(0,undef)⟩ aN/\
   ∃bh:Own,(∀b,b<w.heap.size->ω b=.bP->bh b=.bP)/\(∀b,bh b≠.bP->(∃t q,bh b=.tok t q)/\∃arr ty,aN.heap[b]?=some (.cells arr ty (0,0)))/\Kept aN bh [.one (.e5 4 (gG es) none),.one (.ro (I i)),.one (.e5 4 (gG [x]) none)] #[y,.int .i64 i,.slice (some ⟨gM,h0,none⟩) [x].length vc]/\nX aN bh [.one (.J 4 (gG (es.take i++x::es.drop i)))] v:=by
  rintro e aN ⟨v,he,cJ⟩;obtain⟨bh,U,aA,aJ⟩:=cJ.res;refine⟨v,he,cJ.RI.full mx,bh,U,aA,U8 ?_,aJ⟩;intro gk kZ fe k dT cC gI ai
  match gk with
  | 0=>simp at gI;subst gI;simp only[GA.cell]at ai;split at ai<;>simp at ai
  | 1=>simp at gI;subst gI;simp only[GA.cell]at ai;split at ai<;>simp at ai
  | 2=>simp at gI;subst gI;simp only[GA.cell]at ai;split at ai<;>simp at ai
  | _+3=>simp at gI
 rcases ay.row kY with⟨rfl,a,rfl⟩ | ⟨b,off,cap,arr,tb,di,rfl,aC⟩
 ·
  have adX:i=0:=by simpa using hi
  subst adX;obtain⟨G,hA⟩:∃G,G=grownCap w 1 0 128:=⟨_,rfl⟩
  have BM:1<=G:=by rw[hA];exact grownCap_ge w _ _ _
  have fU:∀ty,(Builtin.append_ #[40,40] ty #[.slice a 0 0,.slice (some ⟨gM,h0,none⟩) 1 vc]).run prog w=.ok (.slice (some ⟨w.heap.size,0,none⟩) 1 G) (w.drew.alloc (.cells (x.toArray++Builtin.zeroCells (Value.agg #[.int .i64 0,.int .i64 0,.int .i64 0,.int .i64 0]).cells (G-1)) 128)):=by
   intro ty;cases a with
   | none=>
    have:=run_append_nil (P:=prog) w 40 ty 128 i0 _ gV lH b1 ⟨gM,h0,none⟩ 1 vc x (by rw[a7,gz]) FU (by omega) (by omega) (by rw[bw];omega);rw[<-hA]at this;exact this
   | some b8=>
    have:=run_append_grow (P:=prog) w 40 ty 128 i0 _ gV lH b1 b8 0 0 [] (by simp) (fun j v bF=>by simp at bF) ⟨gM,h0,none⟩ 1 vc x (by rw[a7,gz]) FU (by omega) (by omega) (growslice_fits (by omega) (by rw[bw];omega));simp only[dX,<-hA]at this;simpa using this
  refine (NP a 0 0 gM h0 vc w _ _ (fi _) fU).mono ?_;rintro e aN ⟨rfl,rfl⟩;have aDP:Row w gM 0 4 0 pd tA []:=⟨xq.heap,fi _,by omega,by simp,by simp,by simp⟩
  refine fin ⟨_,rfl,Wb,.inr ⟨w.heap.size,0,G,_,_,.inr (fi _),rfl,CZ aDP (fi _) gz qx (oP w.drew _) BM ?_ ?_ ?_ ?_⟩⟩
  ·simp only[u',o1,size_zeroCells,gz];show 0+G*4<=4+(G-1)*4;omega
  ·intro p hp;simp at hp
  ·intro p hp;rw[ji,bq (by simp;omega)];simp
  intro p hp;simp at hp
 have cZ:gM≠b:=by
  rintro rfl;rw[di]at S8;simp only[dv.tok.injEq,fy]at S8;omega
 have lK:ω b≠.bP:=by rw[di];simp
 have nc:=aC.room;have eo:=aC.fit;have h1:=aio aC;rcases q2 i es.length with bR | qp
 ·rcases q2 cap (es.length+1) with ff | ff
  ·
   refine (ain b off es.length cap i gM h0 vc arr tb pd tA x w aC.heap xq.heap bR nc ff eo gz uj qx h1 (by omega)).mono ?_;rintro e aN ⟨G,j3,hA,Fu,Ft,rfl,rfl⟩;have jm:i*4+x.length<=j3.size:=by omega
   have mw:=rZ jm;have sL:((arr.toList.drop (off+i*4)).take ((es.length-i)*4)).length=(es.length-i)*4:=by simp;omega
   have c4:(i+1)*4+((arr.toList.drop (off+i*4)).take ((es.length-i)*4)).length<=(laid j3 (i*4) x).size:=by omega
   refine fin ⟨_,rfl,aiq,.inr ⟨w.heap.size,0,G,_,_,.inr (fi _),by simp;omega,CZ aC hi gz qx (setRow_heap _ _ _ _ _ (0,0) (setRow_heap (w.drew.alloc _) _ _ _ _ (0,0) (oP w.drew _))) hA ?_ ?_ ?_ ?_⟩⟩
   ·rw[rZ c4,mw,Fu];omega
   ·intro p hp;rw[dX,nh c4,bD (by omega),nh jm,bD (by omega)];exact Ft p hp
   ·intro p hp;rw[dX,nh c4,bD (by omega),nh jm,bq (by omega)];rw[show i*4+p-i*4=p by omega]
   intro p hp;rw[dX,nh c4,bq (by omega),jZ,bq (by omega),lx,mN];rw[show (i+1)*4+p-(i+1)*4=p by omega]
  -- in acQ,there is room
  refine (aim b off es.length cap i gM h0 vc arr tb pd tA x w aC.heap xq.heap cZ bR ff eo gz uj qx h1 (by omega)).mono ?_;rintro e aN ⟨rfl,rfl⟩;have sL:((arr.toList.drop (off+i*4)).take ((es.length-i)*4)).length=(es.length-i)*4:=by simp;omega
  have jm:off+(i+1)*4+((arr.toList.drop (off+i*4)).take ((es.length-i)*4)).length<=arr.size:=by omega
  have mw:=rZ jm;have c4:off+i*4+x.length<=(laid arr (off+(i+1)*4) ((arr.toList.drop (off+i*4)).take ((es.length-i)*4))).size:=by omega
  refine fin ⟨_,rfl,U9 lK _ _,.inr ⟨b,off,cap,_,tb,.inl lK,by simp;omega,CZ aC hi gz qx (setRow_heap _ _ _ _ _ (0,0) (setRow_heap w.drew b arr _ tb (0,0) aC.heap)) ff ?_ ?_ ?_ ?_⟩⟩
  ·rw[rZ c4,mw];exact eo
  ·intro p hp;rw[nh c4,bD (by omega),nh jm,bD (by omega)]
  ·intro p hp;rw[nh c4,bq (by omega)];rw[show off+i*4+p-(off+i*4)=p by omega]
  intro p hp;rw[nh c4,bD (by omega),nh jm,bq (by omega),jZ,bq (by omega),lx,mN];rw[show off+(i+1)*4+p-(off+(i+1)*4)=p by omega]
 have ad0:i=es.length:=by omega
 subst ad0;rcases q2 cap (es.length+1) with ff | ff
 ·
  obtain⟨pK,holds⟩:∃pK,pK=(arr.toList.drop off).take (es.length*4):=⟨_,rfl⟩
  have rA:pK.length=es.length*4:=by rw[holds];simp;omega
  obtain⟨G,hA⟩:∃G,G=grownCap w (es.length+1) cap 128:=⟨_,rfl⟩
  have BM:es.length+1<=G:=by rw[hA];exact grownCap_ge w _ _ _
  have fU:∀ty,(Builtin.append_ #[40,40] ty #[.slice (some ⟨b,off,none⟩) es.length cap,.slice (some ⟨gM,h0,none⟩) 1 vc]).run prog w=.ok (.slice (some ⟨w.heap.size,0,none⟩) (es.length+1) G) (w.drew.alloc (.cells (pK.toArray++x.toArray++Builtin.zeroCells (Value.agg #[.int .i64 0,.int .i64 0,.int .i64 0,.int .i64 0]).cells (G-(es.length+1))) 128)):=by
   intro ty;have:=run_append_grow (P:=prog) w 40 ty 128 i0 _ gV lH b1 ⟨b,off,none⟩ es.length cap pK (by rw[a7,rA]) (fun j v bf=>by
    rw[holds,jZ]at bf;split at bf
    ·rw[lx,mN]at bf;rw[Addr.add_lit];simp[World.cell?,aC.heap,bf]
    cases bf) ⟨gM,h0,none⟩ 1 vc x (by rw[a7,gz]) FU (by omega) (by omega) (growslice_fits (by omega) (by rw[bw];omega))
   rw[<-hA]at this;exact this
  refine (NP (some ⟨b,off,none⟩) es.length cap gM h0 vc w _ _ nc fU).mono ?_;rintro e aN ⟨rfl,rfl⟩;refine fin ⟨_,rfl,Wb,.inr ⟨w.heap.size,0,G,_,_,.inr (fi _),by simp,CZ aC hi gz qx (oP w.drew _) BM ?_ ?_ ?_ ?_⟩⟩
  ·simp only[u',o1,size_zeroCells,gz,rA];show 0+G*4<=es.length*4+4+(G-(es.length+1))*4;omega
  ·intro p hp;rw[dX,ji,bq (by simp[rA];omega),ji,bq (by simp[rA];omega)];simp only[p6];rw[holds,jZ,bq hp,lx,mN]
  ·intro p hp;rw[dX,ji,bq (by simp[rA];omega),ji,bD (by simp[rA])];simp only[p6,o1,rA];rw[show es.length*4+p-es.length*4=p by omega]
  intro p hp;simp at hp
 -- at A4 end,there is room
 have fU:∀ty,(Builtin.append_ #[40,40] ty #[.slice (some ⟨b,off,none⟩) es.length cap,.slice (some ⟨gM,h0,none⟩) 1 vc]).run prog w=.ok (.slice (some ⟨b,off,none⟩) (es.length+1) cap) (w.setRow b (laid arr (off+es.length*4) x)):=by
  intro ty;have:=Gs (P:=prog) (t:=40) (ty:=ty) gV lH w b off es.length cap arr tb aC.heap ⟨gM,h0,none⟩ 1 vc x (by rw[a7,gz]) FU qx ff (by rw[a7,gz];omega);rw[a7]at this;exact this
 refine (NP (some ⟨b,off,none⟩) es.length cap gM h0 vc w _ _ nc fU).mono ?_;rintro e aN ⟨rfl,rfl⟩;have jm:off+es.length*4+x.length<=arr.size:=by omega
 refine fin ⟨_,rfl,aip lK _,.inr ⟨b,off,cap,_,tb,.inl lK,by simp,CZ aC hi gz qx (setRow_heap _ _ _ _ _ (0,0) aC.heap) ff ?_ ?_ ?_ ?_⟩⟩
 ·rw[rZ jm];exact eo
 ·intro p hp;rw[nh jm,bD (by omega)]
 ·intro p hp;rw[nh jm,bq (by omega)];rw[show off+es.length*4+p-(off+es.length*4)=p by omega]
 intro p hp;simp at hp
theorem Cell.Bp(xs:List Cell):xs.map Cell.e=gG (xs.map fun r=>r.e.map D.yP):=by
 simp only[gG,List.map_map];rfl
theorem ait(xs:List Cell)(x:Cell)(i:Nat)(hi:i<=xs.length)(al:xs.length<=8388608):ks prog 231 [.one (.e5 4 (xs.map Cell.e) none),.one (.ro (I i)),.one (.e5 4 [x.e] none)] [.one (.J 4 ((xs.take i++x::xs.drop i).map Cell.e))]:=by
 have:=ais (xs.map fun r=>r.e.map D.yP) (x.e.map D.yP) i (by simpa using hi) (by simpa using al);rw[Cell.Bp,Cell.Bp];simp only[gi,mg,q3,List.map_drop]at this ⊢;exact this
end Go.Proofs.YthfnndblgbjniaaGreat
namespace Go.Proofs.YthfnndblgbjniaaGreat
open Go.Sx Go.RowKit Go.Proofs.Tryz
def n0(xs:List Cell)(x:Cell):Bool:=xs.any fun a=>decide (a=x)
def mD(xs:List Cell)(x:Cell):Nat:=(xs.findIdx? fun a=>!decide (i' a x<0)).getD xs.length
def kE(xs:List Cell)(x:Cell):List Cell:=if n0 xs x then xs else xs.take (mD xs x)++x::xs.drop (mD xs x)
theorem NQ(xs:List Cell)(x:Cell):mD xs x<=xs.length:=by
 unfold mD;cases h:xs.findIdx? (fun a=>!decide (i' a x<0)) with
 | none=>simp
 | some i=>
  rw[u9]at h;have:=h.1;simp;omega
theorem Wc(xs:List Cell)(x:Cell):(kE xs x).length<=xs.length+1:=by
 unfold kE;split
 ·omega
 have:=NQ xs x;simp;omega
theorem Wd(xs:List Cell)(x:Cell)(al:xs.length<=8388608):ar 218 [.one (.J 4 (xs.map Cell.e)),.agg x.e] [.one (B (n0 xs x))]:=by
 have l:=gl (P:=prog) (c:=(ap f218 0)) xs (fun a=>decide (a=x)) (fun i=>yD (xs.map Cell.e) x.op x.ba x.key x.val i) (X:=fun _ _=>NG true) eC (cn 0)
  (fun i a ah h=>ahs ⟨bV (aY ah),bx,bH (aY ah),bA Cell.e ah,(NH a x).trans h,c0 (aY ah) al,aa⟩)
  (fun i a ah h=>ahr ⟨bV (aY ah),bx,bH (aY ah),bA Cell.e ah,(NH a x).trans h,aa⟩)
  (aht ⟨dq,aa⟩)
 unfold n0;rcases l with⟨_,_,h1,U⟩ | ⟨i,a,_,_,_,_,h1,U⟩
 ·rw[h1];exact ahv ⟨U,aa⟩
 rw[h1];exact ahu ⟨U,aa⟩
theorem We(xs:List Cell)(x:Cell)(r:Bool)(h:n0 xs x=r)(al:xs.length<=8388608):ar 218 [.one (.J 4 (xs.map Cell.e)),.agg x.e] [.one (B r)]:=h▸Wd xs x al
def FW(xs:List Cell)(x:Cell):Int:=match xs.findIdx? (fun a=>decide (a=x)) with | some i=>i | none=>-1
theorem aiu(xs:List Cell)(x:Cell):decide (FW xs x>=0)=n0 xs x:=by
 unfold FW n0;cases h:xs.findIdx? (fun a=>decide (a=x)) with
 | none=>
  have:xs.any (fun a=>decide (a=x))=false:=by
   rw[fx];rw[Jm]at h;exact fun a ah=>by simpa using h a ah
  rw[this];rfl
 | some i=>
  rw[u9]at h;obtain⟨hi,U,_⟩:=h;have:xs.any (fun a=>decide (a=x))=true:=o7.2 ⟨_,p9 hi,U⟩;rw[this];simp
theorem aiv(xs:List Cell)(x:Cell)(al:xs.length<=8388608):ar 238 [.one (.J 4 (xs.map Cell.e)),.agg x.e] [.one (I (FW xs x))]:=by
 have l:=gl (P:=prog) (c:=(ap f238 0)) xs (fun a=>decide (a=x)) (fun i=>yA (xs.map Cell.e) x.op x.ba x.key x.val i) (X:=fun i _=>ND i) eC (cn 0)
  (fun i a ah h=>af0 ⟨bV (aY ah),bx,bH (aY ah),bA Cell.e ah,(VY a x).trans h,c0 (aY ah) al,aa⟩)
  (fun i a ah h=>afZ ⟨bV (aY ah),bx,bH (aY ah),bA Cell.e ah,(VY a x).trans h,aa⟩)
  (af1 ⟨dq,aa⟩)
 unfold FW;rcases l with⟨_,h1,_,U⟩ | ⟨i,a,_,_,_,h1,_,U⟩
 ·simp only[h1];exact af3 ⟨U,aa⟩
 simp only[h1];exact af2 ⟨U,aa⟩
theorem Wf(xs:List Cell)(x:Cell)(al:xs.length<=8388608):ar 216 [.one (.J 4 (xs.map Cell.e)),.agg x.e] [.one (B (n0 xs x))]:=by
 rw[<-aiu];exact afW ⟨afY ⟨aiv xs x al,aa⟩,aa⟩
theorem Wg(xs:List Cell)(x:Cell)(r:Bool)(h:n0 xs x=r)(al:xs.length<=8388608):ar 216 [.one (.J 4 (xs.map Cell.e)),.agg x.e] [.one (B r)]:=h▸Wf xs x al
theorem wF(xs:List Cell)(al:xs.length<=8388608):ar 176 [.one (.J 4 (xs.map Cell.e))] [.one (.J 4 (xs.map Cell.e))]:=
 afV ⟨by simp;omega,by simp;omega,dt _ Cell.flat _,aa⟩
theorem C0(xs:List Cell)(x:Cell)(al:xs.length<=8388608):ar 219 [.one (.J 4 (xs.map Cell.e)),.agg x.e] [.one (.J 4 ((kE xs x).map Cell.e))]:=by
 unfold kE;cases h:n0 xs x with
 | true=>
  rw[bq rfl];exact ahw ⟨We xs x true h al,rfl,by simp;omega,by simp;omega,dt _ Cell.flat _,aa⟩
 | false=>
  rw[bD (by simp)];have l:c8 prog (ap f219 0) (yE (xs.map Cell.e) x.op x.ba x.key x.val 0) (h3.exit 0) (CX (xs.map Cell.e) x.op x.ba x.key x.val (mD xs x)):=by
   have l:=gl (P:=prog) (c:=(ap f219 0)) xs (fun a=>!decide (i' a x<0)) (fun i=>yE (xs.map Cell.e) x.op x.ba x.key x.val i) (X:=fun i _=>CX (xs.map Cell.e) x.op x.ba x.key x.val i) (cn 0) (cn 0)
    (fun i a ah h=>ahx ⟨bV (aY ah),bx,bH (aY ah),bA Cell.e ah,G2 a x,by simpa using h,c0 (aY ah) al,aa⟩)
    (fun i a ah h=>ahy ⟨bV (aY ah),bx,bH (aY ah),bA Cell.e ah,G2 a x,by simpa using h,aa⟩)
    (ahz ⟨dq,aa⟩)
   unfold mD;rcases l with⟨_,h1,_,U⟩ | ⟨i,a,_,_,_,h1,_,U⟩
   ·rw[h1];exact U
   rw[h1];exact U
  have hp:=NQ xs x;generalize mD xs x=p at*;refine ahd (ahA ⟨We xs x false h al,rfl,l,by simp,by simp,by simp;omega,by simp;omega,by simp;omega,?_,by simp;omega,by simp;omega,gb x.flat,by simp,by simp;omega,by simp,by simp;omega,by simp;omega,?_,aa⟩) ?_
  ·simp only[lW,lz,Nat.sub_zero,yY,<-q3];exact dt _ Cell.flat _
  ·simp only[lW,lz,<-q3,<-List.map_drop];exact dt _ Cell.flat _
  simp only[lW,lz,Nat.sub_zero,yY,List.nil_append,<-q3,<-List.map_drop,gi,mg,mO]
  congr 1
  rw[yS (by simp)];rfl
theorem Wh(xs:List Cell)(x:Cell)(al:xs.length<=8388608):ar 215 [.one (.J 4 (xs.map Cell.e)),.agg x.e] [.one (.J 4 ((kE xs x).map Cell.e))]:=by
 have c:=wF xs al;unfold kE;cases h:n0 xs x with
 | true=>
  rw[bq rfl];exact af4 ⟨c,Wg xs x true h al,rfl,aa⟩
 | false=>
  rw[bD (by simp)];have l:c8 prog (ap f215 0) (yB (xs.map Cell.e) x.op x.ba x.key x.val (xs.map Cell.e) 0) (h3.exit 0) (CW x.op x.ba x.key x.val (xs.map Cell.e) (mD xs x)):=by
   have l:=gl (P:=prog) (c:=(ap f215 0)) xs (fun a=>!decide (i' a x<0)) (fun i=>yB (xs.map Cell.e) x.op x.ba x.key x.val (xs.map Cell.e) i) (X:=fun i _=>CW x.op x.ba x.key x.val (xs.map Cell.e) i) (cn 0) (cn 0)
    (fun i a ah h=>af5 ⟨bV (aY ah),bx,bH (aY ah),bA Cell.e ah,G1 a x,by simpa using h,c0 (aY ah) al,aa⟩)
    (fun i a ah h=>af6 ⟨bV (aY ah),bx,bH (aY ah),bA Cell.e ah,G1 a x,by simpa using h,aa⟩)
    (af7 ⟨dq,aa⟩)
   unfold mD;rcases l with⟨_,h1,_,U⟩ | ⟨i,a,_,_,_,h1,_,U⟩
   ·rw[h1];exact U
   rw[h1];exact U
  exact af8 ⟨c,Wg xs x false h al,rfl,l,ait xs x (mD xs x) (NQ xs x) al,aa⟩
end Go.Proofs.YthfnndblgbjniaaGreat
namespace Go.Proofs.YthfnndblgbjniaaGreat
open Go.Sx Go.RowKit Go.Proofs.Tryz
def fZ(g:bX)(op:Int):Option Node:=if 0<=op then g.nodes[op.toNat]? else none
variable{g:bX}{a:Int}{w:Node}
theorem G4(h:fZ g a=some w):0<=a/\a<(↑(g.nodes.map Node.e).length:Int)/\(g.nodes.map Node.e)[a.toNat]?=some w.e/\ax a 0 (↑(g.nodes.map Node.e).length-1)=true:=by
 unfold fZ at h;split at h
 ·have:=(ga.1 h).1;refine⟨‹_›,by simp;omega,by simp[h],?_⟩;simp only[ax,b',cj];omega
 cases h
theorem Wi(h:fZ g a=none):ax a 0 (↑(g.nodes.map Node.e).length-1)=false:=by
 unfold fZ at h;simp only[ax,b',kK];split at h
 ·rw[List.getElem?_eq_none_iff]at h;omega
 omega
theorem NR(h:fZ g a=some w):w∈g.nodes:=by
 unfold fZ at h;split at h
 ·exact gj h
 cases h
theorem bX.afy(h:g.sz<=8388608):g.nodes.length<=8388608:=by simp only[bX.sz,fw]at h;omega
theorem bX.Cz(h:g.sz<=8388608)(hw:w∈g.nodes):w.outs.length<=8388608:=by
 have:=Hv (sz:=Node.sz) hw;simp only[bX.sz,fw]at h;have a7:w.outs.length<=w.sz:=by simp only[Node.sz];omega
 omega
theorem G5(h:g.sz<=8388608):aL .i64 ((↑(g.nodes.map Node.e).length:Int)-1):=by
 have:=bX.afy h;exact⟨by simp;omega,by simp;omega⟩
theorem aiw(g:bX)(op:Int)(ay:g.sz<=8388608):ar 117 [.agg g.e,.one (I op)] [.one (B (fZ g op).isSome)]:=by
 cases h:fZ g op with
 | none=>exact WJ ⟨G5 ay,fY _ (Wi h),aa⟩
 | some w=>exact WJ ⟨G5 ay,fY _ (G4 h).2.2.2,aa⟩
theorem z'(g:bX)(op:Int)(r:Bool)(h:(fZ g op).isSome=r)(ay:g.sz<=8388608):ar 117 [.agg g.e,.one (I op)] [.one (B r)]:=h▸aiw g op ay
def wG(g:bX)(op:Int):Node×Bool:=match fZ g op with | some n=>(n,true) | none=>(⟨0,0,0,[]⟩,false)
theorem aix(n:Int):∀d∈bd n,∃x,d=.v x:=by
 intro d aE;simp only[bd,ev,od,or_false]at aE;subst aE;exact⟨_,rfl⟩
theorem aiy(g:bX)(op:Int)(ay:g.sz<=8388608):ar 196 [.agg g.e,.one (I op)] [.agg (wG g op).1.e,.one (B (wG g op).2)]:=by
 unfold wG;cases h:fZ g op with
 | none=>exact ahB ⟨G5 ay,fm _ _ _ _ (Wi h),rfl,aa⟩
 | some w=>
  obtain⟨h1,U,aA,aJ⟩:=G4 h;have a8:=bX.Cz ay (NR h);exact ahC ⟨G5 ay,fm _ _ _ _ aJ,rfl,h1,U,aA,by simp;omega,by simp;omega,dt _ aix _,aa⟩
theorem G6(g:bX)(op:Int)(r:Node×Bool)(h:wG g op=r)(ay:g.sz<=8388608):ar 196 [.agg g.e,.one (I op)] [.agg r.1.e,.one (B r.2)]:=h▸aiy g op ay
