import Derived.WalkKit
import Derived.Deep.RegionLaw
import Derived.Shelf.RegionOpenPlain
import Derived.Lib.SliceRun
import Derived.Lib.JoinLaws
import Derived.Lib.Overlaps
import Derived.Lib.AppendZerosOnto
import Derived.Laws.Externs
import Derived.Deep.LoopGhost
import Derived.Lib.Walk
import Derived.Test.YtdchjefneblpgaaGreatC0
set_option linter.unusedVariables false
set_option linter.unusedSimpArgs false
namespace Go.Proofs.YtdchjefneblpgaaGreat
open Go.Sx Go.RowKit Go.Shelf Go.Lib Go.Proofs.Tryz
variable{P:Program}{w:World}{ops:Array Oper}{o:Oper}{a:Act}{Q:Exit->Act->World->Prop}
theorem Tt{rest:List Oper}(IE:o.guard=none)(d s:Operand)(t dc:TypeId)
  (aN:o.op=.call { callee:=.builtin .copy,args:=#[d,s],argTypes:=#[t,dc] }) (v u:Value) (aB:a.eval d=v) (ai:a.eval s=u) {k4:Value} {aJ:World}
  (az:(Builtin.copy_ #[t,dc] o.type #[v,u]).run P w=.ok k4 aJ) (h:wpList P ops Q rest (a.put o.dst k4) aJ):wpList P ops Q (o::rest) a w:=
 wpList_plain IE fun _ gN=>by
  unfold Oper.wp execOp;simp only[aN,resolve,invoke,builtin,Sem.run_bind,Sem.run_pure,Result.andThen_ok,List.map_toArray,k8,List.map_nil,aB,ai,az];exact gN _ _ h
theorem Tu{K:Act->World->Prop}{E:Prop}
  (ar:o.guard=none) (d x:Operand) (dr bp:TypeId) (q7:o.op=Op.call { callee:=Callee.builtin Builtin.copy,args:=#[d,x],argTypes:=#[dr,bp] })
  (v u:Value) (aB:a.eval d=v) (aa:a.eval x=u) {k4:Value} {aJ:World} (az:(Builtin.copy_ #[dr,bp] o.type #[v,u]).run P w=.ok k4 aJ) (gN:K (a.put o.dst k4) aJ):
  if Region.wanted o (yielded ops a.tmps)=true then Oper.wp P o a w K Q else E:=by
 have hw:Region.wanted o (yielded ops a.tmps)=true:=by simp[Region.wanted,ar]
 rw[aZ hw];unfold Oper.wp;simp[execOp,q7,resolve,invoke,builtin,aB,aa,az,Result.andThen];exact gN
theorem Mp{rest:List Oper}(IE:o.guard=none)(d s:Operand)(t dc:TypeId)
  (aN:o.op=.call { callee:=.builtin .append,args:=#[d,s],argTypes:=#[t,dc] }) (v u:Value) (aB:a.eval d=v) (ai:a.eval s=u) {k4:Value} {aJ:World}
  (az:(Builtin.append_ #[t,dc] o.type #[v,u]).run P w=.ok k4 aJ) (h:wpList P ops Q rest (a.put o.dst k4) aJ):wpList P ops Q (o::rest) a w:=
 wpList_plain IE fun _ gN=>by
  unfold Oper.wp execOp;simp only[aN,resolve,invoke,builtin,Sem.run_bind,Sem.run_pure,Result.andThen_ok,List.map_toArray,k8,List.map_nil,aB,ai,az];exact gN _ _ h
set_option maxHeartbeats 4000000 in
set_option maxRecDepth 1000000 in
theorem Mq(base:Option Addr)(n cap gx hQ vc:Nat)(w w1:World)(v:Value)(aK:n<=cap)
  (fj:∀ty,(Builtin.append_ #[48,48] ty #[.slice base n cap,.slice (some ⟨gx,hQ,none⟩) 1 vc]).run prog w=.ok v w1):
  Calls prog 305 #[.slice base n cap,.int .i64 n,.slice (some ⟨gx,hQ,none⟩) 1 vc] w fun e aJ=>e=.returned v/\aJ=w1:=by
 have mixed:prog.follows .mixedOrders=true:=by kernel_rfl
 go_enter func305,Tryz.ntmps305
 cases base with
 | none=>
  go_wp2_with (at_builtin;refine Mp rfl _ _ _ _ rfl _ _ rfl rfl (fj _) ?_)
  all_goals (go_ret;exact⟨rfl,rfl⟩)
 | some a=>
  obtain⟨ab,av5,av8⟩:=a
  go_wp2_with (at_builtin;refine Mp rfl _ _ _ _ rfl _ _ rfl rfl (fj _) ?_)
  all_goals (go_ret;exact⟨rfl,rfl⟩)
set_option maxHeartbeats 4000000 in
set_option maxRecDepth 1000000 in
theorem arl(b off n cap i gx hQ vc:Nat)(arr:Array Value)(tb:TypeId)(oS:Array Value)(sO:TypeId)(x:List Value)(w:World)(ao:w.heap[b]?=some (.cells arr tb (0,0)))(bz:w.heap[gx]?=some (.cells oS sO (0,0)))(PY:gx≠b)
  (hi:i<n) (aK:n+1<=cap) (dV:off+cap*4<=arr.size) (gk:x.length=4) (tD:∀j v,x[j]?=some v->oS[hQ+j]?=some v) (AE:∀v∈x,v.oneCell'=true)
  (h1:∀x v,off<=x->x<off+n*4->arr[x]?=some v->v.oneCell'=true) (D7:n<8388609):
  Calls prog 305 #[.slice (some ⟨b,off,none⟩) n cap,.int .i64 i,.slice (some ⟨gx,hQ,none⟩) 1 vc] w fun e aJ=>e=.returned (.slice (some ⟨b,off,none⟩) (n+1) cap)/\
   aJ=(w.drew.setRow b (laid arr (off+(i+1)*4) ((arr.toList.drop (off+i*4)).take ((n-i)*4)))).setRow b (laid (laid arr (off+(i+1)*4) ((arr.toList.drop (off+i*4)).take ((n-i)*4))) (off+i*4) x):=by
 obtain⟨mid,q4⟩:∃mid,mid=(arr.toList.drop (off+i*4)).take ((n-i)*4):=⟨_,rfl⟩
 have r':mid.length=(n-i)*4:=by rw[q4];simp;omega
 have r9:∀u∈mid,u.oneCell'=true:=by
  intro u hu;obtain⟨y,bn⟩:=pJ.1 hu;rw[q4,hj]at bn;split at bn
  ·rw[gU,iX]at bn;exact h1 _ u (by omega) (by omega) bn
  cases bn
 rw[<-q4];obtain⟨dO,qQ⟩:∃dO,dO=laid arr (off+(i+1)*4) mid:=⟨_,rfl⟩
 have lj:dO.size=arr.size:=by rw[qQ];exact rj (by omega)
 obtain⟨iI,mK⟩:∃iI,iI=w.drew.setRow b dO:=⟨_,rfl⟩
 have gj:iI.heap[b]?=some (.cells dO tb (0,0)):=by rw[mK];exact setRow_heap w.drew b arr dO tb (0,0) ao
 have tA:iI.heap[gx]?=some (.cells oS sO (0,0)):=by rw[mK,setRow_other _ b gx _ PY];exact bz
 have c7:(prog.info? 141).map (·.size)=some 4:=by kernel_rfl
 have fJ:prog.underlying 48=some (.slice 141):=by kernel_rfl
 have YZ:∀ty mH lP,(Builtin.copy_ #[48,48] ty #[.slice (some ⟨b,off+(i+1)*4,none⟩) (n-i) mH,.slice (some ⟨b,off+i*4,none⟩) (n+1-i) lP]).run prog w.drew=.ok (goInt (Nat.min (n+1-i) (n-i))) iI:=by
  intro ty mH lP;have wC:Nat.min (n+1-i) (n-i)=n-i:=by simp only[Nat.min_def];split<;>omega
  rw[mK,qQ];refine EN w.drew _ _ ty _ 4 b (off+(i+1)*4) _ mH arr tb ⟨b,off+i*4,none⟩ _ lP mid fJ c7 ao (by rw[wC,r']) (fun j v aP=>?_) (by omega) r9;rw[q4,hj]at aP;split at aP
  ·rw[gU,iX]at aP;rw[Addr.add_lit];have di:w.drew.heap[b]?=some (.cells arr tb (0,0)):=ao;simp[World.cell?,di,aP]
  cases aP
 obtain⟨oQ,qR⟩:∃oQ,oQ=iI.setRow b (laid dO (off+i*4) x):=⟨_,rfl⟩
 have Y0:∀ty mH,(Builtin.copy_ #[48,48] ty #[.slice (some ⟨b,off+i*4,none⟩) (n+1-i) mH,.slice (some ⟨gx,hQ,none⟩) 1 vc]).run prog iI=.ok (goInt (Nat.min 1 (n+1-i))) oQ:=by
  intro ty mH;have wC:Nat.min 1 (n+1-i)=1:=by simp only[Nat.min_def];split<;>omega
  rw[qR];refine EN iI _ _ ty _ 4 b (off+i*4) _ mH dO tb ⟨gx,hQ,none⟩ _ vc x fJ c7 gj (by rw[wC,gk]) (fun j v aP=>?_) (by omega) AE;rw[Addr.add_lit];simp[World.cell?,tA,tD j v aP]
 have ZZ:∀JN HO,(callFunc 337 #[.slice (some ⟨gx,hQ,none⟩) 1 vc,.slice (some ⟨b,off+(i+1)*4,none⟩) JN HO]).run prog w=.ok (.value (.bool false)) w:=fun JN HO=>by
  rw[run_callFunc_extern (P:=prog) func337 (by kernel_rfl) (by kernel_rfl) (by kernel_rfl) (e:=Extern.SlicesOverlaps.overlaps #[48,48] #[4]) (by kernel_rfl),
   Lib.run_overlaps_apart w 48 4 141 fJ 4 (fun w=>by simp[sizeOf,typeInfo];kernel_rfl) ⟨gx,hQ,none⟩ ⟨b,off+(i+1)*4,none⟩ 1 vc JN HO PY sO tb oS.size arr.size (by simp[World.shape?,bz]) (by simp[World.shape?,ao]) (by omega) (by simp[World.frozen?,bz]) (by simp[World.frozen?,bz])]
  rfl
 have X:Aside (oQ=(w.drew.setRow b dO).setRow b (laid dO (off+i*4) x)):=by rw[qR,mK];trivial
 have j8:i<=n:=by omega
 have aax:IntKind.i64.wrap ((i:Int)+1)=(i:Int)+1:=by rw[IntKind.wrap_i64];omega
 have aay:IntKind.i64.wrap ((n:Int)+1)=(n:Int)+1:=by rw[IntKind.wrap_i64];omega
 have ic:(0:Int)<=(i:Int)+1:=by omega
 have aal:((i:Int)+1).toNat=i+1:=by omega
 have awZ:((n:Int)+1).toNat=n+1:=by omega
 have gC:¬(cap=i+1):=by omega
 have yE:(i:Int)+1<=(n:Int)+1:=by omega
 have ti:¬(cap=i):=by omega
 have YM:(i:Int)<=(n:Int)+1:=by omega
 have se:¬((i:Int)=(n:Int)):=by omega
 have mixed:prog.follows .mixedOrders=true:=by kernel_rfl
 clear mK qR gj tA ao bz q4 r' r9 lj c7 fJ h1 AE tD gk
 go_enter func305,Tryz.ntmps305
 go_wp2_with (simp only[ZZ])
 go_region_law_o (refine Tu rfl _ _ 48 48 rfl _ _ (by simp[Act.eval,Act.put]) (by simp[Act.eval,Act.put]) (YZ _ _ _) ?_)
 go_wp2_with (at_builtin;refine Tt rfl _ _ 48 48 rfl _ _ rfl rfl (Y0 _ _) ?_)
 go_ret
 exact⟨rfl,by rw[<-qQ];exact X⟩
set_option maxHeartbeats 4000000 in
set_option maxRecDepth 1000000 in
theorem arm(b off n cap i gx hQ vc:Nat)(arr:Array Value)(tb:TypeId)(oS:Array Value)(sO:TypeId)(x:List Value)(w:World)(ao:w.heap[b]?=some (.cells arr tb (0,0)))(bz:w.heap[gx]?=some (.cells oS sO (0,0)))
  (hi:i<n) (aK:n<=cap) (ar:cap<n+1) (dV:off+cap*4<=arr.size) (gk:x.length=4) (tD:∀j v,x[j]?=some v->oS[hQ+j]?=some v) (AE:∀v∈x,v.oneCell'=true)
  (h1:∀x v,off<=x->x<off+n*4->arr[x]?=some v->v.oneCell'=true) (D7:n<8388609):
  Calls prog 305 #[.slice (some ⟨b,off,none⟩) n cap,.int .i64 i,.slice (some ⟨gx,hQ,none⟩) 1 vc] w fun e aJ=>∃(G:Nat) (j3:Array Value),n+1<=G/\j3.size=G*4/\(∀y,y<i*4->j3[y]?=arr[off+y]?)/\e=.returned (.slice (some ⟨w.heap.size,0,none⟩) (n+1) G)/\
   aJ=(((w.drew.alloc (.cells j3 141)).setRow w.heap.size (laid j3 (i*4) x)).drew).setRow w.heap.size (laid (laid j3 (i*4) x) ((i+1)*4) ((arr.toList.drop (off+i*4)).take ((n-i)*4))):=by
 obtain⟨mid,q4⟩:∃mid,mid=(arr.toList.drop (off+i*4)).take ((n-i)*4):=⟨_,rfl⟩
 have r':mid.length=(n-i)*4:=by rw[q4];simp;omega
 have r9:∀u∈mid,u.oneCell'=true:=by
  intro u hu;obtain⟨y,bn⟩:=pJ.1 hu;rw[q4,hj]at bn;split at bn
  ·rw[gU,iX]at bn;exact h1 _ u (by omega) (by omega) bn
  cases bn
 rw[<-q4];have fJ:prog.underlying 48=some (.slice 141):=by kernel_rfl
 have PV:prog.underlying 3=some (.int .i64):=by kernel_rfl
 have c7:(prog.info? 141).map (·.size)=some 4:=by kernel_rfl
 have Is:(prog.info? 141).map (fun x=>(x.bytes,x.zero))=some (32,some (.agg #[.int .i64 0,.int .i64 0,.int .i64 0,.int .i64 0])):=by kernel_rfl
 obtain⟨pj,holds⟩:∃pj,pj=(arr.toList.drop off).take (i*4):=⟨_,rfl⟩
 have q5:pj.length=i*4:=by rw[holds];simp;omega
 obtain⟨G,hy⟩:∃G,G=grownCap w (n+1) cap 141:=⟨_,rfl⟩
 have AS:n+1<=G:=by rw[hy];exact grownCap_ge w _ _ _
 have awu:G<=9223372036854775807:=by
  have:=grownCap_le_maxLen w (n+1) cap 141 (by unfold maxLen;omega);rw[<-hy]at this;unfold maxLen at this;omega
 obtain⟨j3,D2⟩:∃j3:Array Value,j3=pj.toArray++Builtin.zeroCells (Value.agg #[.int .i64 0,.int .i64 0,.int .i64 0,.int .i64 0]).cells (n+1-i)++Builtin.zeroCells (Value.agg #[.int .i64 0,.int .i64 0,.int .i64 0,.int .i64 0]).cells (G-(n+1)):=⟨_,rfl⟩
 have D4:j3.size=G*4:=by
  rw[D2];simp only[rM,l8,size_zeroCells,q5];show i*4+(n+1-i)*4+(G-(n+1))*4=G*4;omega
 have D3:∀y,y<i*4->j3[y]?=arr[off+y]?:=by
  intro y bn;rw[D2,iq,aZ (by simp[size_zeroCells];omega),iq,aZ (by simp;omega)];simp only[nY];rw[holds,hj,aZ bn,gU,iX]
 obtain⟨nt,yD⟩:∃nt,nt=w.drew.alloc (.cells j3 141):=⟨_,rfl⟩
 have Il:nt.heap[w.heap.size]?=some (.cells j3 141 (0,0)):=by rw[yD];exact ov w.drew _
 have wq:b<w.heap.size:=(jz.1 ao).1;have I9:gx<w.heap.size:=(jz.1 bz).1;have ic:nt.heap[b]?=some (.cells arr tb (0,0)):=by rw[yD,xv w.drew _ wq];exact ao
 have Ep:nt.heap[gx]?=some (.cells oS sO (0,0)):=by rw[yD,xv w.drew _ I9];exact bz
 have aac:∀ty,(Builtin.append_ #[48,3] ty #[.slice (some ⟨b,off,none⟩) i cap,.int .i64 ((n:Int)+1-(i:Int))]).run prog w=.ok (.slice (some ⟨w.heap.size,0,none⟩) (n+1) G) nt:=by
  intro ty;cases lf:prog.info? 141 with
  | none=>rw[lf]at c7;cases c7
  | some i0=>
   rw[lf]at c7 Is;have aQ:i0.size=4:=by simpa using c7
   obtain⟨bb,bN⟩:i0.bytes=32/\i0.zero=some (.agg #[.int .i64 0,.int .i64 0,.int .i64 0,.int .i64 0]):=by simpa using Is
   have hold:(Builtin.firstCells i0.size i (.slice (some ⟨b,off,none⟩) i cap)).run prog w.drew=.ok pj.toArray w.drew:=by
    rw[aQ];refine run_firstCells_some w.drew 4 i ⟨b,off,none⟩ i cap pj q5 (fun j v aP=>?_);rw[Addr.add_lit];rw[holds,hj]at aP;split at aP
    ·rw[gU,iX]at aP;have di:w.drew.heap[b]?=some (.cells arr tb (0,0)):=ao;simp[World.cell?,di,aP]
    cases aP
   have Pu:i+(n+1-i)=n+1:=by omega
   have h:=Lib.run_append_grow_zeros w 48 3 ty 141 i0 _ .i64 .i64 fJ PV lf bN (some ⟨b,off,none⟩) i cap pj hold (n+1-i) (by omega) (by omega) (by omega) (by omega) (by rw[bb];omega) (by rw[bb,Pu];exact growslice_fits ar (by omega));rw[Pu,<-hy,<-D2,<-yD]at h;rw[show (n:Int)+1-(i:Int)=((n+1-i:Nat):Int) by omega];exact h
 obtain⟨dO,qQ⟩:∃dO,dO=laid j3 (i*4) x:=⟨_,rfl⟩
 have lj:dO.size=j3.size:=by rw[qQ];exact rj (by omega)
 obtain⟨iI,mK⟩:∃iI,iI=nt.setRow w.heap.size dO:=⟨_,rfl⟩
 have O7:iI.heap[w.heap.size]?=some (.cells dO 141 (0,0)):=by rw[mK];exact setRow_heap nt _ j3 dO _ (0,0) Il
 have gj:iI.heap[b]?=some (.cells arr tb (0,0)):=by rw[mK,setRow_other _ _ b _ (by omega)];exact ic
 have Y1:∀ty mH,(Builtin.copy_ #[48,48] ty #[.slice (some ⟨w.heap.size,i*4,none⟩) (n+1-i) mH,.slice (some ⟨gx,hQ,none⟩) 1 vc]).run prog nt=.ok (goInt (Nat.min 1 (n+1-i))) iI:=by
  intro ty mH;have wC:Nat.min 1 (n+1-i)=1:=by simp only[Nat.min_def];split<;>omega
  rw[mK,qQ];refine EN nt _ _ ty _ 4 _ (i*4) _ mH j3 _ ⟨gx,hQ,none⟩ _ vc x fJ c7 Il (by rw[wC,gk]) (fun j v aP=>?_) (by omega) AE;rw[Addr.add_lit];simp[World.cell?,Ep,tD j v aP]
 obtain⟨oQ,qR⟩:∃oQ,oQ=iI.drew.setRow w.heap.size (laid dO ((i+1)*4) mid):=⟨_,rfl⟩
 have Y2:∀ty mH lP,(Builtin.copy_ #[48,48] ty #[.slice (some ⟨w.heap.size,(i+1)*4,none⟩) (n-i) mH,.slice (some ⟨b,off+i*4,none⟩) (n-i) lP]).run prog iI.drew=.ok (goInt (Nat.min (n-i) (n-i))) oQ:=by
  intro ty mH lP;have wC:Nat.min (n-i) (n-i)=n-i:=Nat.min_self _;rw[qR];refine EN iI.drew _ _ ty _ 4 _ ((i+1)*4) _ mH dO _ ⟨b,off+i*4,none⟩ _ lP mid fJ c7 O7 (by rw[wC,r']) (fun j v aP=>?_) (by omega) r9;rw[Addr.add_lit];rw[q4,hj]at aP;split at aP
  ·rw[gU,iX]at aP;have di:iI.drew.heap[b]?=some (.cells arr tb (0,0)):=gj;simp[World.cell?,di,aP]
  cases aP
 have X:Aside (oQ=(((w.drew.alloc (.cells j3 141)).setRow w.heap.size dO).drew).setRow w.heap.size (laid dO ((i+1)*4) mid)):=by rw[qR,mK,yD];trivial
 have Y:Aside (n+1<=G/\j3.size=G*4/\∀y,y<i*4->j3[y]?=arr[off+y]?):=⟨AS,D4,D3⟩
 have se:¬((i:Int)=(n:Int)):=by omega
 have aaD:(cap:Int)<(n:Int)+1:=by omega
 have aax:IntKind.i64.wrap ((i:Int)+1)=(i:Int)+1:=by rw[IntKind.wrap_i64];omega
 have aay:IntKind.i64.wrap ((n:Int)+1)=(n:Int)+1:=by rw[IntKind.wrap_i64];omega
 have aw0:IntKind.i64.wrap ((n:Int)+1-(i:Int))=(n:Int)+1-(i:Int):=by rw[IntKind.wrap_i64];omega
 have awA:(0:Int)<=(i:Int)+1:=by omega
 have j8:i<=n:=by omega
 have aal:((i:Int)+1).toNat=i+1:=by omega
 have yE:(i:Int)<=(n:Int):=by omega
 have YM:(i:Int)<=(n:Int)+1:=by omega
 have awC:(i:Int)+1<=(n:Int)+1:=by omega
 have awv:¬(G=i):=by omega
 have aww:¬(G=i+1):=by omega
 have awE:¬(cap=i):=by omega
 have awN:i<=G:=by omega
 have Zo:i<=cap:=by omega
 have mixed:prog.follows .mixedOrders=true:=by kernel_rfl
 clear mK qR gj ao bz q4 r' r9 lj c7 fJ h1 AE tD gk D3 D4 Il O7 ic Ep yD D2 holds q5 PV Is hy
 go_enter func305,Tryz.ntmps305
 go_wp2_with (first
  | (at_builtin;refine Mp rfl _ _ _ _ rfl _ _ rfl rfl (aac _) ?_)
  | (at_builtin;refine Tt rfl _ _ 48 48 rfl _ _ rfl rfl (Y1 _ _) ?_))
 go_region_law_o (refine Tu rfl _ _ 48 48 rfl _ _ (by simp[Act.eval,Act.put]) (by simp[Act.eval,Act.put]) (Y2 _ _ _) ?_)
 go_wp2
 go_ret
 exact⟨G,j3,Y.1,Y.2.1,Y.2.2,rfl,by rw[<-qQ];exact X⟩
variable{b:Nat}
theorem B5{aJ:World}{off cap:Nat}{arr:Array Value}{tb:TypeId}{es:List (List Value)}(az:Row w b off 4 cap arr tb es){x:List Value}{i:Nat}(hi:i<=es.length)(gk:x.length=4)(p0:∀v∈x,v.oneCell'=true)
  {c3 o mG:Nat} {A:Array Value} {ty:TypeId} (bC:aJ.heap[c3]?=some (.cells A ty (0,0))) (af:es.length+1<=mG) (dV:o+mG*4<=A.size)
  (AQ:∀p,p<i*4->A[o+p]?=arr[off+p]?) (AR:∀p,p<4->A[o+i*4+p]?=x[p]?) (hC:∀p,p<(es.length-i)*4->A[o+(i+1)*4+p]?=arr[off+i*4+p]?):
  Row aJ c3 o 4 mG A ty (es.take i++x::es.drop i):=by
 have aj:(es.take i++x::es.drop i).length=es.length+1:=by simp;omega
 have I7:(es.take i).length=i:=by simp;omega
 refine⟨bC,by rw[aj];exact af,dV,?_,?_,?_⟩
 ·intro e he;rcases gV.1 he with h | h
  ·exact az.len e (rN h)
  rcases et.1 h with rfl | h
  ·exact gk
  exact az.len e (ur h)
 ·intro e he;rcases gV.1 he with h | h
  ·exact az.one e (rN h)
  rcases et.1 h with rfl | h
  ·exact p0
  exact az.one e (ur h)
 intro k j e v hk aP;have Pw:=(ey.1 hk).1;rw[aj]at Pw;by_cases h1:k<i
 ·rw[x9 (by omega),hj,aZ h1]at hk;have j9:j<4:=by
   have:=(ey.1 aP).1;have:=az.len e (fE hk);omega
  rw[ye,AQ _ (by omega),<-ye];exact az.cell k j e v hk aP
 rw[vT (by omega),I7]at hk;by_cases U:k=i
 ·subst U;rw[Nat.sub_self,kE,aO]at hk;subst hk;have j9:=(ey.1 aP).1;rw[AR j (by omega)];exact aP
 obtain⟨m,rfl⟩:∃m,k=i+1+m:=⟨k-(i+1),by omega⟩
 rw[show i+1+m-i=m+1 by omega,oK,gU]at hk;have j9:j<4:=by
  have:=(ey.1 aP).1;have:=az.len e (fE hk);omega
 have:=az.cell (i+m) j e v hk aP;rw[<-this,show o+(i+1+m)*4+j=o+(i+1)*4+(m*4+j) by omega,hC _ (by omega)]
 congr 1
 omega
theorem arn{off cap:Nat}{arr:Array Value}{tb:TypeId}{es:List (List Value)}(az:Row w b off 4 cap arr tb es):∀x v,off<=x->x<off+es.length*4->arr[x]?=some v->v.oneCell'=true:=by
 intro x v p0 ka bz;have bu:(x-off) / 4<es.length:=by omega
 have he:=gz bu;have hlen:=az.len _ (pK bu);have ig:(x-off) % 4<(es[(x-off) / 4]).length:=by omega
 have:=az.cell _ _ _ _ he (gz ig);rw[show off+(x-off) / 4*4+(x-off) % 4=x by omega,bz]at this;rw[eQ this];exact az.one _ (pK bu) _ (pK ig)
variable{own:Nat->Prop}
theorem aro(ao:own b)(dO:Array Value):v8 ⟨w,own,fun _=>(0,undef)⟩ (w.setRow b dO):=by
 refine⟨rfl,rfl,rfl,by simp,fun k hk ar=>?_,fun _=>dN _⟩;have:k≠b:=fun e=>ar (by rw[e];exact ao)
 rw[setRow_other _ b k _ this]
theorem Tv{o:Obj}:v8 ⟨w,own,fun _=>(0,undef)⟩ (w.drew.alloc o):=by
 refine⟨rfl,rfl,rfl,by simp[World.alloc],fun k hk _=>?_,fun _=>?_⟩
 ·rw[xv w.drew o hk];rfl
 show w.drawn<=w.drawn+1;omega
theorem arp{o:Obj}{dO Hz:Array Value}:v8 ⟨w,own,fun _=>(0,undef)⟩ ((((w.drew.alloc o).setRow w.heap.size dO).drew).setRow w.heap.size Hz):=by
 refine⟨rfl,rfl,rfl,by simp[World.alloc],fun k hk _=>?_,fun _=>?_⟩
 ·rw[setRow_other _ _ k _ (by simp only at hk;omega)];show ((w.drew.alloc o).setRow w.heap.size dO).heap[k]?=w.heap[k]?;rw[setRow_other _ _ k _ (by simp only at hk;omega),xv w.drew o hk];rfl
 show w.drawn<=w.drawn+1+1;omega
theorem arq:∃i0,prog.info? 141=some i0/\i0.size=4/\i0.bytes=32/\i0.zero=some (.agg #[.int .i64 0,.int .i64 0,.int .i64 0,.int .i64 0]):=by
 have c7:(prog.info? 141).map (fun x=>(x.size,x.bytes,x.zero))=some (4,32,some (.agg #[.int .i64 0,.int .i64 0,.int .i64 0,.int .i64 0])):=by kernel_rfl
 cases h:prog.info? 141 with
 | none=>rw[h]at c7;cases c7
 | some i0=>
  rw[h]at c7;simp only[n0,aO,bx]at c7;exact⟨i0,rfl,c7.1,c7.2.1,c7.2.2⟩
theorem ars(es:List (List Value))(x:List Value)(i:Nat)(hi:i<=es.length)(aj:es.length<=8388608):k' prog 305 [.one (.fh 4 (gB es) none),.one (.ro (I i)),.one (.fh 4 (gB [x]) none)] [.one (.J 4 (gB (es.take i++x::es.drop i)))]:=by
 rintro w vs ω ⟨ar,aK,ad⟩ o6;obtain⟨y,bn,lG⟩:=ad 0 _ rfl;obtain⟨gw,fO,I8⟩:=ad 1 _ rfl;obtain⟨z,aW,se⟩:=ad 2 _ rfl;have e1:gw=.int .i64 i:=bX.HX I8;subst e1;have rb:=OL aK bn fO aW;subst rb;have fJ:prog.underlying 48=some (.slice 141):=by kernel_rfl
 obtain⟨i0,lf,aQ,bb,bN⟩:=arq;rcases ar.row se with⟨h,_⟩ | ⟨gx,hQ,vc,oS,sO,P6,rfl,wK⟩
 ·cases h
 have gk:x.length=4:=wK.len x (by simp);have p0:∀v∈x,v.oneCell'=true:=wK.one x (by simp);have tD:∀j v,x[j]?=some v->oS[hQ+j]?=some v:=fun j v aP=>by simpa using wK.cell 0 j x v rfl aP
 have Et:∀j v,x[j]?=some v->w.cell? ((⟨gx,hQ,none⟩:Addr).add j)=some v:=fun j v aP=>by
  rw[Addr.add_lit];simp[World.cell?,wK.heap,tD j v aP]
 have fin:∀{e:Ending} {aJ:World},(∃v,e=.returned v/\DB w aJ (fun b=>ω b≠.bB) 4 (es.take i++x::es.drop i) v)->∃v,e=.returned v/\hn ⟨w,fun b=>ω b≠.bB,fun _=>(0,undef)⟩ aJ/\
   ∃a1:Own,(∀b,b<w.heap.size->ω b=.bB->a1 b=.bB)/\(∀b,a1 b≠.bB->(∃t q,a1 b=.tok t q)/\∃arr ty,aJ.heap[b]?=some (.cells arr ty (0,0)))/\Kept aJ a1 [.one (.fh 4 (gB es) none),.one (.ro (I i)),.one (.fh 4 (gB [x]) none)] #[y,.int .i64 i,.slice (some ⟨gx,hQ,none⟩) [x].length vc]/\nL aJ a1 [.one (.J 4 (gB (es.take i++x::es.drop i)))] v:=by
  rintro e aJ ⟨v,he,cz⟩;obtain⟨a1,U,ax,aF⟩:=cz.res;refine⟨v,he,cz.ON.full o6,a1,U,ax,SK ?_,aF⟩;intro fA kS eG k dP cB jC af
  match fA with
  | 0=>simp at jC;subst jC;simp only[GA.cell]at af;split at af<;>simp at af
  | 1=>simp at jC;subst jC;simp only[GA.cell]at af;split at af<;>simp at af
  | 2=>simp at jC;subst jC;simp only[GA.cell]at af;split at af<;>simp at af
  | _+3=>simp at jC
 rcases ar.row lG with⟨rfl,a,rfl⟩ | ⟨b,off,cap,arr,tb,da,rfl,az⟩
 ·
  have Zn:i=0:=by simpa using hi
  subst Zn;obtain⟨G,hy⟩:∃G,G=grownCap w 1 0 141:=⟨_,rfl⟩
  have AS:1<=G:=by rw[hy];exact grownCap_ge w _ _ _
  have fj:∀ty,(Builtin.append_ #[48,48] ty #[.slice a 0 0,.slice (some ⟨gx,hQ,none⟩) 1 vc]).run prog w=.ok (.slice (some ⟨w.heap.size,0,none⟩) 1 G) (w.drew.alloc (.cells (x.toArray++Builtin.zeroCells (Value.agg #[.int .i64 0,.int .i64 0,.int .i64 0,.int .i64 0]).cells (G-1)) 141)):=by
   intro ty;cases a with
   | none=>
    have:=run_append_nil (P:=prog) w 48 ty 141 i0 _ fJ lf bN ⟨gx,hQ,none⟩ 1 vc x (by rw[aQ,gk]) Et (by omega) (by omega) (by rw[bb];omega);rw[<-hy]at this;exact this
   | some ck=>
    have:=run_append_grow (P:=prog) w 48 ty 141 i0 _ fJ lf bN ck 0 0 [] (by simp) (fun j v bz=>by simp at bz) ⟨gx,hQ,none⟩ 1 vc x (by rw[aQ,gk]) Et (by omega) (by omega) (growslice_fits (by omega) (by rw[bb];omega));simp only[dq,<-hy]at this;simpa using this
  refine (Mq a 0 0 gx hQ vc w _ _ (dN _) fj).mono ?_;rintro e aJ ⟨rfl,rfl⟩;have avc:Row w gx 0 4 0 oS sO []:=⟨wK.heap,dN _,by omega,by simp,by simp,by simp⟩
  refine fin ⟨_,rfl,Tv,.inr ⟨w.heap.size,0,G,_,_,.inr (dN _),rfl,B5 avc (dN _) gk p0 (ov w.drew _) AS ?_ ?_ ?_ ?_⟩⟩
  ·simp only[rM,l8,size_zeroCells,gk];show 0+G*4<=4+(G-1)*4;omega
  ·intro p hp;simp at hp
  ·intro p hp;rw[iq,aZ (by simp;omega)];simp
  intro p hp;simp at hp
 have cf:gx≠b:=by
  rintro rfl;rw[da]at P6;simp only[c0.tok.injEq,fI]at P6;omega
 have lD:ω b≠.bB:=by rw[da];simp
 have o4:=az.room;have dV:=az.fit;have h1:=arn az;rcases pM i es.length with bu | nz
 ·rcases pM cap (es.length+1) with f' | f'
  ·
   refine (arm b off es.length cap i gx hQ vc arr tb oS sO x w az.heap wK.heap bu o4 f' dV gk tD p0 h1 (by omega)).mono ?_;rintro e aJ ⟨G,j3,hy,D4,D3,rfl,rfl⟩;have jE:i*4+x.length<=j3.size:=by omega
   have lj:=rj jE;have r':((arr.toList.drop (off+i*4)).take ((es.length-i)*4)).length=(es.length-i)*4:=by simp;omega
   have cV:(i+1)*4+((arr.toList.drop (off+i*4)).take ((es.length-i)*4)).length<=(laid j3 (i*4) x).size:=by omega
   refine fin ⟨_,rfl,arp,.inr ⟨w.heap.size,0,G,_,_,.inr (dN _),by simp;omega,B5 az hi gk p0 (setRow_heap _ _ _ _ _ (0,0) (setRow_heap (w.drew.alloc _) _ _ _ _ (0,0) (ov w.drew _))) hy ?_ ?_ ?_ ?_⟩⟩
   ·rw[rj cV,lj,D4];omega
   ·intro p hp;rw[dq,mU cV,a6 (by omega),mU jE,a6 (by omega)];exact D3 p hp
   ·intro p hp;rw[dq,mU cV,a6 (by omega),mU jE,aZ (by omega)];rw[show i*4+p-i*4=p by omega]
   intro p hp;rw[dq,mU cV,aZ (by omega),hj,aZ (by omega),gU,iX];rw[show (i+1)*4+p-(i+1)*4=p by omega]
  -- in Ya,there is room
  refine (arl b off es.length cap i gx hQ vc arr tb oS sO x w az.heap wK.heap cf bu f' dV gk tD p0 h1 (by omega)).mono ?_;rintro e aJ ⟨rfl,rfl⟩;have r':((arr.toList.drop (off+i*4)).take ((es.length-i)*4)).length=(es.length-i)*4:=by simp;omega
  have jE:off+(i+1)*4+((arr.toList.drop (off+i*4)).take ((es.length-i)*4)).length<=arr.size:=by omega
  have lj:=rj jE;have cV:off+i*4+x.length<=(laid arr (off+(i+1)*4) ((arr.toList.drop (off+i*4)).take ((es.length-i)*4))).size:=by omega
  refine fin ⟨_,rfl,SL lD _ _,.inr ⟨b,off,cap,_,tb,.inl lD,by simp;omega,B5 az hi gk p0 (setRow_heap _ _ _ _ _ (0,0) (setRow_heap w.drew b arr _ tb (0,0) az.heap)) f' ?_ ?_ ?_ ?_⟩⟩
  ·rw[rj cV,lj];exact dV
  ·intro p hp;rw[mU cV,a6 (by omega),mU jE,a6 (by omega)]
  ·intro p hp;rw[mU cV,aZ (by omega)];rw[show off+i*4+p-(off+i*4)=p by omega]
  intro p hp;rw[mU cV,a6 (by omega),mU jE,aZ (by omega),hj,aZ (by omega),gU,iX];rw[show off+(i+1)*4+p-(off+(i+1)*4)=p by omega]
 have Zq:i=es.length:=by omega
 subst Zq;rcases pM cap (es.length+1) with f' | f'
 ·
  obtain⟨pj,holds⟩:∃pj,pj=(arr.toList.drop off).take (es.length*4):=⟨_,rfl⟩
  have q5:pj.length=es.length*4:=by rw[holds];simp;omega
  obtain⟨G,hy⟩:∃G,G=grownCap w (es.length+1) cap 141:=⟨_,rfl⟩
  have AS:es.length+1<=G:=by rw[hy];exact grownCap_ge w _ _ _
  have fj:∀ty,(Builtin.append_ #[48,48] ty #[.slice (some ⟨b,off,none⟩) es.length cap,.slice (some ⟨gx,hQ,none⟩) 1 vc]).run prog w=.ok (.slice (some ⟨w.heap.size,0,none⟩) (es.length+1) G) (w.drew.alloc (.cells (pj.toArray++x.toArray++Builtin.zeroCells (Value.agg #[.int .i64 0,.int .i64 0,.int .i64 0,.int .i64 0]).cells (G-(es.length+1))) 141)):=by
   intro ty;have:=run_append_grow (P:=prog) w 48 ty 141 i0 _ fJ lf bN ⟨b,off,none⟩ es.length cap pj (by rw[aQ,q5]) (fun j v aP=>by
    rw[holds,hj]at aP;split at aP
    ·rw[gU,iX]at aP;rw[Addr.add_lit];simp[World.cell?,az.heap,aP]
    cases aP) ⟨gx,hQ,none⟩ 1 vc x (by rw[aQ,gk]) Et (by omega) (by omega) (growslice_fits (by omega) (by rw[bb];omega))
   rw[<-hy]at this;exact this
  refine (Mq (some ⟨b,off,none⟩) es.length cap gx hQ vc w _ _ o4 fj).mono ?_;rintro e aJ ⟨rfl,rfl⟩;refine fin ⟨_,rfl,Tv,.inr ⟨w.heap.size,0,G,_,_,.inr (dN _),by simp,B5 az hi gk p0 (ov w.drew _) AS ?_ ?_ ?_ ?_⟩⟩
  ·simp only[rM,l8,size_zeroCells,gk,q5];show 0+G*4<=es.length*4+4+(G-(es.length+1))*4;omega
  ·intro p hp;rw[dq,iq,aZ (by simp[q5];omega),iq,aZ (by simp[q5];omega)];simp only[nY];rw[holds,hj,aZ hp,gU,iX]
  ·intro p hp;rw[dq,iq,aZ (by simp[q5];omega),iq,a6 (by simp[q5])];simp only[nY,l8,q5];rw[show es.length*4+p-es.length*4=p by omega]
  intro p hp;simp at hp
 -- at Ag end,there is room
 have fj:∀ty,(Builtin.append_ #[48,48] ty #[.slice (some ⟨b,off,none⟩) es.length cap,.slice (some ⟨gx,hQ,none⟩) 1 vc]).run prog w=.ok (.slice (some ⟨b,off,none⟩) (es.length+1) cap) (w.setRow b (laid arr (off+es.length*4) x)):=by
  intro ty;have:=E3 (P:=prog) (t:=48) (ty:=ty) fJ lf w b off es.length cap arr tb az.heap ⟨gx,hQ,none⟩ 1 vc x (by rw[aQ,gk]) Et p0 f' (by rw[aQ,gk];omega);rw[aQ]at this;exact this
 refine (Mq (some ⟨b,off,none⟩) es.length cap gx hQ vc w _ _ o4 fj).mono ?_;rintro e aJ ⟨rfl,rfl⟩;have jE:off+es.length*4+x.length<=arr.size:=by omega
 refine fin ⟨_,rfl,aro lD _,.inr ⟨b,off,cap,_,tb,.inl lD,by simp,B5 az hi gk p0 (setRow_heap _ _ _ _ _ (0,0) az.heap) f' ?_ ?_ ?_ ?_⟩⟩
 ·rw[rj jE];exact dV
 ·intro p hp;rw[mU jE,a6 (by omega)]
 ·intro p hp;rw[mU jE,aZ (by omega)];rw[show off+es.length*4+p-(off+es.length*4)=p by omega]
 intro p hp;simp at hp
theorem Cell.yp(xs:List Cell):xs.map Cell.e=gB (xs.map fun r=>r.e.map D.Ah):=by
 simp only[gB,List.map_map];rfl
theorem art(xs:List Cell)(x:Cell)(i:Nat)(hi:i<=xs.length)(aj:xs.length<=8388608):k' prog 305 [.one (.fh 4 (xs.map Cell.e) none),.one (.ro (I i)),.one (.fh 4 [x.e] none)] [.one (.J 4 ((xs.take i++x::xs.drop i).map Cell.e))]:=by
 have:=ars (xs.map fun r=>r.e.map D.Ah) (x.e.map D.Ah) i (by simpa using hi) (by simpa using aj);rw[Cell.yp,Cell.yp];simp only[jV,k8,sW,List.map_drop]at this ⊢;exact this
end Go.Proofs.YtdchjefneblpgaaGreat
namespace Go.Proofs.YtdchjefneblpgaaGreat
open Go.Sx Go.RowKit Go.Proofs.Tryz
def nO(xs:List Cell)(x:Cell):Bool:=xs.any fun a=>decide (a=x)
def mx(xs:List Cell)(x:Cell):Nat:=(xs.findIdx? fun a=>!decide (iO a x<0)).getD xs.length
def ky(xs:List Cell)(x:Cell):List Cell:=if nO xs x then xs else xs.take (mx xs x)++x::xs.drop (mx xs x)
theorem Mr(xs:List Cell)(x:Cell):mx xs x<=xs.length:=by
 unfold mx;cases h:xs.findIdx? (fun a=>!decide (iO a x<0)) with
 | none=>simp
 | some i=>
  rw[uq]at h;have:=h.1;simp;omega
theorem Tw(xs:List Cell)(x:Cell):(ky xs x).length<=xs.length+1:=by
 unfold ky;split
 ·omega
 have:=Mr xs x;simp;omega
theorem Tx(xs:List Cell)(x:Cell)(aj:xs.length<=8388608):aw 306 [.one (.J 4 (xs.map Cell.e)),.agg x.e] [.one (B (nO xs x))]:=by
 have l:=hv (P:=prog) (c:=(av f306 0)) xs (fun a=>decide (a=x)) (fun i=>wV (xs.map Cell.e) x.op x.a7 x.key x.val i) (X:=fun _ _=>Mn true) fl (cL 0)
  (fun i a ad h=>aqy ⟨b4 (aX ad),bH,bL (aX ad),bI Cell.e ad,(Mo a x).trans h,du (aX ad) aj,ae⟩)
  (fun i a ad h=>aqx ⟨b4 (aX ad),bH,bL (aX ad),bI Cell.e ad,(Mo a x).trans h,ae⟩)
  (aqz ⟨ec,ae⟩)
 unfold nO;rcases l with⟨_,_,h1,U⟩ | ⟨i,a,_,_,_,_,h1,U⟩
 ·rw[h1];exact aqB ⟨U,ae⟩
 rw[h1];exact aqA ⟨U,ae⟩
theorem Ty(xs:List Cell)(x:Cell)(r:Bool)(h:nO xs x=r)(aj:xs.length<=8388608):aw 306 [.one (.J 4 (xs.map Cell.e)),.agg x.e] [.one (B r)]:=h▸Tx xs x aj
def Ev(xs:List Cell)(x:Cell):Int:=match xs.findIdx? (fun a=>decide (a=x)) with | some i=>i | none=>-1
theorem aru(xs:List Cell)(x:Cell):decide (Ev xs x>=0)=nO xs x:=by
 unfold Ev nO;cases h:xs.findIdx? (fun a=>decide (a=x)) with
 | none=>
  have:xs.any (fun a=>decide (a=x))=false:=by
   rw[ff];rw[Dq]at h;exact fun a ad=>by simpa using h a ad
  rw[this];rfl
 | some i=>
  rw[uq]at h;obtain⟨hi,U,_⟩:=h;have:xs.any (fun a=>decide (a=x))=true:=l9.2 ⟨_,pK hi,U⟩;rw[this];simp
theorem arv(xs:List Cell)(x:Cell)(aj:xs.length<=8388608):aw 365 [.one (.J 4 (xs.map Cell.e)),.agg x.e] [.one (I (Ev xs x))]:=by
 have l:=hv (P:=prog) (c:=(av f365 0)) xs (fun a=>decide (a=x)) (fun i=>xu (xs.map Cell.e) x.op x.a7 x.key x.val i) (X:=fun i _=>Mk i) fl (cL 0)
  (fun i a ad h=>aqN ⟨b4 (aX ad),bH,bL (aX ad),bI Cell.e ad,(RT a x).trans h,du (aX ad) aj,ae⟩)
  (fun i a ad h=>aqM ⟨b4 (aX ad),bH,bL (aX ad),bI Cell.e ad,(RT a x).trans h,ae⟩)
  (aqO ⟨ec,ae⟩)
 unfold Ev;rcases l with⟨_,h1,_,U⟩ | ⟨i,a,_,_,_,h1,_,U⟩
 ·simp only[h1];exact aqQ ⟨U,ae⟩
 simp only[h1];exact aqP ⟨U,ae⟩
theorem Tz(xs:List Cell)(x:Cell)(aj:xs.length<=8388608):aw 303 [.one (.J 4 (xs.map Cell.e)),.agg x.e] [.one (B (nO xs x))]:=by
 rw[<-aru];exact aqJ ⟨aqL ⟨arv xs x aj,ae⟩,ae⟩
theorem TA(xs:List Cell)(x:Cell)(r:Bool)(h:nO xs x=r)(aj:xs.length<=8388608):aw 303 [.one (.J 4 (xs.map Cell.e)),.agg x.e] [.one (B r)]:=h▸Tz xs x aj
theorem vd(xs:List Cell)(aj:xs.length<=8388608):aw 297 [.one (.J 4 (xs.map Cell.e))] [.one (.J 4 (xs.map Cell.e))]:=
 aqI ⟨by simp;omega,by simp;omega,cd _ Cell.flat _,ae⟩
theorem B6(xs:List Cell)(x:Cell)(aj:xs.length<=8388608):aw 238 [.one (.J 4 (xs.map Cell.e)),.agg x.e] [.one (.J 4 ((ky xs x).map Cell.e))]:=by
 unfold ky;cases h:nO xs x with
 | true=>
  rw[aZ rfl];exact aqC ⟨Ty xs x true h aj,rfl,by simp;omega,by simp;omega,cd _ Cell.flat _,ae⟩
 | false=>
  rw[a6 (by simp)];have l:c6 prog (av f238 0) (wW (xs.map Cell.e) x.op x.a7 x.key x.val 0) (h'.exit 0) (B4 (xs.map Cell.e) x.op x.a7 x.key x.val (mx xs x)):=by
   have l:=hv (P:=prog) (c:=(av f238 0)) xs (fun a=>!decide (iO a x<0)) (fun i=>wW (xs.map Cell.e) x.op x.a7 x.key x.val i) (X:=fun i _=>B4 (xs.map Cell.e) x.op x.a7 x.key x.val i) (cL 0) (cL 0)
    (fun i a ad h=>aqD ⟨b4 (aX ad),bH,bL (aX ad),bI Cell.e ad,Fp a x,by simpa using h,du (aX ad) aj,ae⟩)
    (fun i a ad h=>ap4 ⟨b4 (aX ad),bH,bL (aX ad),bI Cell.e ad,Fp a x,by simpa using h,ae⟩)
    (ap5 ⟨ec,ae⟩)
   unfold mx;rcases l with⟨_,h1,_,U⟩ | ⟨i,a,_,_,_,h1,_,U⟩
   ·rw[h1];exact U
   rw[h1];exact U
  have hp:=Mr xs x;generalize mx xs x=p at*;refine ar1 (ap6 ⟨Ty xs x false h aj,rfl,l,by simp,by simp,by simp;omega,by simp;omega,by simp;omega,?_,by simp;omega,by simp;omega,dY x.flat,by simp,by simp;omega,by simp,by simp;omega,by simp;omega,?_,ae⟩) ?_
  ·simp only[jx,nd,Nat.sub_zero,sV,<-sW];exact cd _ Cell.flat _
  ·simp only[jx,nd,<-sW,<-List.map_drop];exact cd _ Cell.flat _
  simp only[jx,nd,Nat.sub_zero,sV,List.nil_append,<-sW,<-List.map_drop,jV,k8,pL]
  congr 1
  rw[vU (by simp)];rfl
theorem TB(xs:List Cell)(x:Cell)(aj:xs.length<=8388608):aw 237 [.one (.J 4 (xs.map Cell.e)),.agg x.e] [.one (.J 4 ((ky xs x).map Cell.e))]:=by
 have c:=vd xs aj;unfold ky;cases h:nO xs x with
 | true=>
  rw[aZ rfl];exact aqR ⟨c,TA xs x true h aj,rfl,ae⟩
 | false=>
  rw[a6 (by simp)];have l:c6 prog (av f237 0) (wT (xs.map Cell.e) x.op x.a7 x.key x.val (xs.map Cell.e) 0) (h'.exit 0) (B3 x.op x.a7 x.key x.val (xs.map Cell.e) (mx xs x)):=by
   have l:=hv (P:=prog) (c:=(av f237 0)) xs (fun a=>!decide (iO a x<0)) (fun i=>wT (xs.map Cell.e) x.op x.a7 x.key x.val (xs.map Cell.e) i) (X:=fun i _=>B3 x.op x.a7 x.key x.val (xs.map Cell.e) i) (cL 0) (cL 0)
    (fun i a ad h=>aqS ⟨b4 (aX ad),bH,bL (aX ad),bI Cell.e ad,Fo a x,by simpa using h,du (aX ad) aj,ae⟩)
    (fun i a ad h=>aqT ⟨b4 (aX ad),bH,bL (aX ad),bI Cell.e ad,Fo a x,by simpa using h,ae⟩)
    (aqU ⟨ec,ae⟩)
   unfold mx;rcases l with⟨_,h1,_,U⟩ | ⟨i,a,_,_,_,h1,_,U⟩
   ·rw[h1];exact U
   rw[h1];exact U
  exact aqV ⟨c,TA xs x false h aj,rfl,l,art xs x (mx xs x) (Mr xs x) aj,ae⟩
end Go.Proofs.YtdchjefneblpgaaGreat
namespace Go.Proofs.YtdchjefneblpgaaGreat
open Go.Sx Go.RowKit Go.Proofs.Tryz
def fK(g:b0)(op:Int):Option Node:=if 0<=op then g.nodes[op.toNat]? else none
variable{g:b0}{a:Int}{w:Node}
theorem Fq(h:fK g a=some w):0<=a/\a<(↑(g.nodes.map Node.e).length:Int)/\(g.nodes.map Node.e)[a.toNat]?=some w.e/\ap a 0 (↑(g.nodes.map Node.e).length-1)=true:=by
 unfold fK at h;split at h
 ·have:=(ey.1 h).1;refine⟨‹_›,by simp;omega,by simp[h],?_⟩;simp only[ap,bk,b'];omega
 cases h
theorem TC(h:fK g a=none):ap a 0 (↑(g.nodes.map Node.e).length-1)=false:=by
 unfold fK at h;simp only[ap,bk,lr];split at h
 ·rw[List.getElem?_eq_none_iff]at h;omega
 omega
theorem Ms(h:fK g a=some w):w∈g.nodes:=by
 unfold fK at h;split at h
 ·exact fE h
 cases h
theorem b0.aaZ(h:g.sz<=8388608):g.nodes.length<=8388608:=by simp only[b0.sz,iV]at h;omega
theorem b0.Bw(h:g.sz<=8388608)(hw:w∈g.nodes):w.outs.length<=8388608:=by
 have:=F4 (sz:=Node.sz) hw;simp only[b0.sz,iV]at h;have aQ:w.outs.length<=w.sz:=by simp only[Node.sz];omega
 omega
theorem Fs(h:g.sz<=8388608):aC .i64 ((↑(g.nodes.map Node.e).length:Int)-1):=by
 have:=b0.aaZ h;exact⟨by simp;omega,by simp;omega⟩
theorem arw(g:b0)(op:Int)(ar:g.sz<=8388608):aw 250 [.agg g.e,.one (I op)] [.one (B (fK g op).isSome)]:=by
 cases h:fK g op with
 | none=>exact RN ⟨Fs ar,hN _ (TC h),ae⟩
 | some w=>exact RN ⟨Fs ar,hN _ (Fq h).2.2.2,ae⟩
theorem zI(g:b0)(op:Int)(r:Bool)(h:(fK g op).isSome=r)(ar:g.sz<=8388608):aw 250 [.agg g.e,.one (I op)] [.one (B r)]:=h▸arw g op ar
def ve(g:b0)(op:Int):Node×Bool:=match fK g op with | some n=>(n,true) | none=>(⟨0,0,0,[]⟩,false)
theorem arx(n:Int):∀d∈ba n,∃x,d=.v x:=by
 intro d aB;simp only[ba,et,qt,or_false]at aB;subst aB;exact⟨_,rfl⟩
theorem ary(g:b0)(op:Int)(ar:g.sz<=8388608):aw 249 [.agg g.e,.one (I op)] [.agg (ve g op).1.e,.one (B (ve g op).2)]:=by
 unfold ve;cases h:fK g op with
 | none=>exact ap7 ⟨Fs ar,fe _ (TC h),rfl,ae⟩
 | some w=>
  obtain⟨h1,U,ax,aF⟩:=Fq h;have aN:=b0.Bw ar (Ms h);exact ap8 ⟨Fs ar,fe _ aF,rfl,h1,U,ax,by simp;omega,by simp;omega,cd _ arx _,ae⟩
theorem Ft(g:b0)(op:Int)(r:Node×Bool)(h:ve g op=r)(ar:g.sz<=8388608):aw 249 [.agg g.e,.one (I op)] [.agg r.1.e,.one (B r.2)]:=h▸ary g op ar
