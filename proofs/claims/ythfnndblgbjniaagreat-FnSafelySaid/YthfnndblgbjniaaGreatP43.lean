import Derived.Test.YthfnndblgbjniaaGreatC6
import Derived.Test.YthfnndblgbjniaaGreatQ2
import Derived.Test.YthfnndblgbjniaaGreatGV
import Derived.WalkKit
import Derived.Deep.RegionLaw
import Derived.Shelf.RegionOpenPlain
import Derived.Lib.SliceRun
import Derived.Deep.LoopGhost
import Derived.Lib.Walk
set_option linter.unusedVariables false
set_option linter.unusedSimpArgs false
namespace Go.Proofs.YthfnndblgbjniaaGreat
open Go.Sx Go.RowKit Go.Proofs.Tryz
theorem Bv(xs:List Int):Flat (xs.map bd):=dt bd (fun _ _ aE=>⟨_,List.mem_singleton.1 aE⟩) xs
theorem Bu(xs:List Bool):Flat (xs.map cG):=dt cG (fun _ _ aE=>⟨_,List.mem_singleton.1 aE⟩) xs
theorem cS.flat(r:cS):∀d∈r.e,∃x,d=.v x:=by
 intro d aE;simp only[cS.e,ev,od,or_false]at aE;rcases aE with rfl | rfl<;>exact⟨_,rfl⟩
theorem bT.flat(r:bT):∀d∈r.e,∃x,d=.v x:=by
 intro d aE;simp only[bT.e,ev,od,or_false]at aE;rcases aE with rfl | rfl | rfl<;>exact⟨_,rfl⟩
theorem bQ.flat(r:bQ):∀d∈r.e,∃x,d=.v x:=by
 intro d aE;simp only[bQ.e,ev,od,or_false]at aE;rcases aE with rfl | rfl | rfl | rfl | rfl<;>exact⟨_,rfl⟩
theorem Aq{α:Type}{f:α->List D}{xs:List α}{i:Nat}{a:α}(h:xs[i]?=some a):(xs.take (i+1)).map f=(xs.take i).map f++[f a]:=by simp[o4,h]
theorem nl{l:List (List D)}{k m:Nat}(h:l.length*k<=m):(([]:List (List D)).length+l.length)*k<=m:=by simpa using h
theorem ln{l:List (List D)}{m:Nat}(h:l.length<=m):([]:List (List D)).length+l.length<=m:=by simpa using h
theorem bX.Ti{g:bX}(h:g.sz<=8388608){x:Node}(ag:x∈g.nodes):x.sz<=8388608:=Du (sz:=Node.sz) (xs:=g.nodes) (m:=8388608) (by simp only[bX.sz]at h;omega) ag
theorem bX.Tj{g:bX}(h:g.sz<=8388608):g.nodes.length<=8388608:=by simp only[bX.sz,fw]at h;omega
variable{c:aO}
theorem aO.Qo(h:c.sz<=8388608){w:aK}(hw:w∈c.aq):w.sz<=8388608:=Du (sz:=aK.sz) (xs:=c.aq) (m:=8388608) (by simp only[aO.sz]at h;omega) hw
theorem aO.LC(h:c.sz<=8388608){w:bj}(hw:w∈c.bn):w.sz<=8388608:=Du (sz:=bj.sz) (xs:=c.bn) (m:=8388608) (by simp only[aO.sz]at h;omega) hw
theorem aO.oq(h:c.sz<=8388608):c.au.sz<=8388608:=by simp only[aO.sz]at h;omega
theorem atg(x:Node)(h:x.sz<=8388608):ar 175 [.agg x.e] [.agg x.e]:=by
 simp only[Node.sz]at h;exact asL ⟨nl (by simp;omega),ln (by simp;omega),Bv _,aa⟩
theorem H9(x:bj)(h:x.sz<=8388608):ar 140 [.agg x.e] [.agg x.e]:=
 asP ⟨C5 x.queue h,aa⟩
theorem H'(x:bj)(h:x.sz<=8388608):ar 178 [.agg x.e] [.agg x.e]:=by
 simp only[bj.sz]at h;exact ar5 ⟨nl (by simp;omega),ln (by simp;omega),dt _ az.flat _,aa⟩
theorem Ar(x:aK)(h:x.sz<=8388608):ar 139 [.agg x.e] [.agg x.e]:=by
 simp only[aK.sz]at h;exact asQ ⟨C5 x.queue (by omega),C5 x.b9 (by omega),C5 x.bM (by omega),wF x.cells (by omega),nl (by simp;omega),ln (by simp;omega),Bv _,nl (by simp;omega),ln (by simp;omega),Bu _,nl (by simp;omega),ln (by simp;omega),Bu _,nl (by simp;omega),ln (by simp;omega),dt _ cS.flat _,aa⟩
theorem As(x:aK)(h:x.sz<=8388608):ar 177 [.agg x.e] [.agg x.e]:=by
 simp only[aK.sz]at h;exact ar9 ⟨nl (by simp;omega),ln (by simp;omega),dt _ az.flat _,nl (by simp;omega),ln (by simp;omega),dt _ az.flat _,nl (by simp;omega),ln (by simp;omega),dt _ az.flat _,nl (by simp;omega),ln (by simp;omega),dt _ Cell.flat _,nl (by simp;omega),ln (by simp;omega),Bv _,nl (by simp;omega),ln (by simp;omega),Bu _,nl (by simp;omega),ln (by simp;omega),Bu _,nl (by simp;omega),ln (by simp;omega),dt _ cS.flat _,aa⟩
theorem ath(g:bX)(ay:g.sz<=8388608):ar 138 [.agg g.e] [.agg g.e]:=by
 have aW:=bX.Tj ay;have l:=er (P:=prog) (c:=(ap f138 0)) (cn 0) g.nodes.length (fun i:Nat=>DQ (g.nodes.map Node.e) i ((g.nodes.take i).map Node.e) g.aq g.cap 0 0) (fun i hi=>by
  obtain⟨a,ah⟩:=c5 hi;rw[Aq ah];exact asM ⟨bV hi,bx,bH hi,bA Node.e ah,atg a (bX.Ti ay (cD ah)),by simp;omega,by simp;omega,c0 hi aW,aa⟩) (asN ⟨dq,aa⟩)
 rw[jh]at l;exact asO ⟨l,aa⟩
theorem Ye(g:bX)(ay:g.sz<=8388608):ar 57 [.agg g.e] [.agg g.e]:=by
 have aW:=bX.Tj ay;have l:=er (P:=prog) (c:=(ap f57 0)) (cn 0) g.nodes.length (fun i:Nat=>DT i ((g.nodes.take i).map Node.e) g.aq g.cap 0 0 (g.nodes.map Node.e) g.aq g.cap) (fun i hi=>by
  obtain⟨a,ah⟩:=c5 hi;have ao:=bX.Ti ay (cD ah);simp only[Node.sz]at ao;rw[Aq ah];exact ar6 ⟨bV hi,bx,bH hi,bA Node.e ah,nl (by simp;omega),ln (by simp;omega),Bv _,by simp;omega,by simp;omega,c0 hi aW,aa⟩) (ar7 ⟨dq,aa⟩)
 rw[jh]at l;exact ar8 ⟨l,aa⟩
theorem v'(c:aO)(ai:c.sz<=8388608):ar 95 [.agg c.e] [.agg c.e]:=by
 have hw:=aO.nA ai;have al:=aO.zJ ai;have bK:c.tokens.length<=8388608:=by simp only[aO.sz,fw]at ai;omega
 have ag:c.news.length<=8388608:=by simp only[aO.sz,fw]at ai;omega
 have dn:=er (P:=prog) (c:=(ap f95 0)) (cn 0) c.aq.length (fun i:Nat=>DR (c.aq.map aK.e) i (c.au.nodes.map Node.e) c.au.aq c.au.cap ((c.aq.take i).map aK.e) (c.tokens.map bQ.e) (c.news.map bT.e) 0 0 (c.au.nodes.map Node.e) c.au.aq c.au.cap (c.aq.map aK.e) (c.bn.map bj.e) (c.tokens.map bQ.e) (c.news.map bT.e)) (fun i hi=>by
  obtain⟨a,ah⟩:=c5 hi;rw[Aq ah];exact asR ⟨bV hi,bx,bH hi,bA aK.e ah,Ar a (aO.Qo ai (cD ah)),by simp;omega,by simp;omega,c0 hi hw,aa⟩) (asS ⟨dq,aa⟩)
 have eX:=er (P:=prog) (c:=(ap f95 1)) (cn 2) c.bn.length (fun i:Nat=>DS (c.bn.map bj.e) i (c.au.nodes.map Node.e) c.au.aq c.au.cap (c.aq.map aK.e) ((c.bn.take i).map bj.e) (c.tokens.map bQ.e) (c.news.map bT.e) 0 0) (fun i hi=>by
  obtain⟨a,ah⟩:=c5 hi;rw[Aq ah];exact asT ⟨bV hi,bx,bH hi,bA bj.e ah,H9 a (aO.LC ai (cD ah)),by simp;omega,by simp;omega,c0 hi al,aa⟩) (asU ⟨dq,aa⟩)
 rw[jh]at dn eX;exact ar4 ⟨ath c.au (aO.oq ai),nl (by simp;omega),ln (by simp;omega),dt _ bQ.flat _,nl (by simp;omega),ln (by simp;omega),dt _ bT.flat _,dn,eX,aa⟩
theorem ati(c:aO)(ai:c.sz<=8388608):ar 141 [.agg c.e] [.agg c.e]:=by
 have hw:=aO.nA ai;have al:=aO.zJ ai;have bK:c.tokens.length<=8388608:=by simp only[aO.sz,fw]at ai;omega
 have ag:c.news.length<=8388608:=by simp only[aO.sz,fw]at ai;omega
 have dn:=er (P:=prog) (c:=(ap f141 0)) (cn 0) c.aq.length (fun i:Nat=>DU i (c.au.nodes.map Node.e) c.au.aq c.au.cap ((c.aq.take i).map aK.e) (c.tokens.map bQ.e) (c.news.map bT.e) 0 0 (c.au.nodes.map Node.e) c.au.aq c.au.cap (c.aq.map aK.e) (c.bn.map bj.e) (c.tokens.map bQ.e) (c.news.map bT.e)) (fun i hi=>by
  obtain⟨a,ah⟩:=c5 hi;rw[Aq ah];exact asa ⟨bV hi,bx,bH hi,bA aK.e ah,As a (aO.Qo ai (cD ah)),by simp;omega,by simp;omega,c0 hi hw,aa⟩) (asb ⟨dq,aa⟩)
 have eX:=er (P:=prog) (c:=(ap f141 1)) (cn 2) c.bn.length (fun i:Nat=>DV i (c.au.nodes.map Node.e) c.au.aq c.au.cap (c.aq.map aK.e) ((c.bn.take i).map bj.e) (c.tokens.map bQ.e) (c.news.map bT.e) 0 0 (c.au.nodes.map Node.e) c.au.aq c.au.cap (c.aq.map aK.e) (c.bn.map bj.e) (c.tokens.map bQ.e) (c.news.map bT.e)) (fun i hi=>by
  obtain⟨a,ah⟩:=c5 hi;rw[Aq ah];exact asc ⟨bV hi,bx,bH hi,bA bj.e ah,H' a (aO.LC ai (cD ah)),by simp;omega,by simp;omega,c0 hi al,aa⟩) (asd ⟨dq,aa⟩)
 rw[jh]at dn eX;exact ase ⟨Ye c.au (aO.oq ai),nl (by simp;omega),ln (by simp;omega),dt _ bQ.flat _,nl (by simp;omega),ln (by simp;omega),dt _ bT.flat _,dn,eX,aa⟩
end Go.Proofs.YthfnndblgbjniaaGreat
namespace Go.Proofs.YthfnndblgbjniaaGreat
open Go.Sx Go.RowKit Go.Shelf Go.Lib Go.Proofs.Tryz
theorem atj{P:Program}{ops:Array Oper}{o:Oper}{a:Act}{w:World}{K:Act->World->Prop}{Q:Exit->Act->World->Prop}{E:Prop}
  (ay:o.guard=none) (x y:Operand) (aaK ty:TypeId) (rB:o.op=Op.call { callee:=Callee.builtin Builtin.append,args:=#[x,y],argTypes:=#[aaK,ty] })
  (v u:Value) (ag:a.eval x=v) (bu:a.eval y=u) {k9:Value} {aN:World} (aC:(Builtin.append_ #[aaK,ty] o.type #[v,u]).run P w=.ok k9 aN) (iv:K (a.put o.dst k9) aN):
  if Region.wanted o (yielded ops a.tmps)=true then Oper.wp P o a w K Q else E:=by
 have hw:Region.wanted o (yielded ops a.tmps)=true:=by simp[Region.wanted,ay]
 rw[bq hw];unfold Oper.wp;simp[execOp,rB,resolve,invoke,builtin,ag,bu,aC,Result.andThen];exact iv
theorem Yf{arr:Array Value}{p m j:Nat}{v:Value}(h:((arr.toList.drop p).take m)[j]?=some v):arr[p+j]?=some v/\j<m:=by
 rw[jZ]at h;split at h
 ·rw[lx,mN]at h;exact⟨h,‹_›⟩
 cases h
theorem cell_of_heap{w:World}{b:Nat}{arr:Array Value}{tb:TypeId}(aw:w.heap[b]?=some (.cells arr tb (0,0))){x:Nat}{v:Value}(h:arr[x]?=some v):w.cell? ⟨b,x,none⟩=some v:=by
 simp[World.cell?,aw,h]
set_option maxHeartbeats 4000000 in
set_option maxRecDepth 1000000 in
theorem atk(b off n cap i j:Nat)(arr:Array Value)(tb:TypeId)(w:World)(aw:w.heap[b]?=some (.cells arr tb (0,0)))(aW:n<=cap)(eo:off+cap*3<=arr.size)(oD:i<j)(bf:j<=n)
  (h1:∀x v,off<=x->x<off+n*3->arr[x]?=some v->v.oneCell'=true):
  Calls prog 137 #[.slice (some ⟨b,off,none⟩) n cap,.int .i64 i,.int .i64 j] w fun e aN=>e=.returned (.slice (some ⟨b,off,none⟩) (i+(n-j)) cap)/\
   ∃zs:List Value,zs.length=(n-(i+(n-j)))*3/\aN=(w.drew.setRow b (laid arr (off+i*3) ((arr.toList.drop (off+j*3)).take ((n-j)*3)))).setRow b (laid (laid arr (off+i*3) ((arr.toList.drop (off+j*3)).take ((n-j)*3))) (off+(i+(n-j))*3) zs):=by
 obtain⟨news,ka⟩:∃news,news=(arr.toList.drop (off+j*3)).take ((n-j)*3):=⟨_,rfl⟩
 have vD:news.length=(n-j)*3:=by rw[ka];simp;omega
 have sM:∀u∈news,u.oneCell'=true:=by
  intro u hu;obtain⟨x,ag⟩:=ob.1 hu;rw[ka]at ag;obtain⟨U,aA⟩:=Yf ag;exact h1 _ u (by omega) (by omega) U
 rw[<-ka];obtain⟨dD,rk⟩:∃dD,dD=laid arr (off+i*3) news:=⟨_,rfl⟩
 have mw:dD.size=arr.size:=by rw[rk];exact rZ (by omega)
 obtain⟨iq,mX⟩:∃iq,iq=w.drew.setRow b dD:=⟨_,rfl⟩
 have hs:iq.heap[b]?=some (.cells dD tb (0,0)):=by rw[mX];exact setRow_heap w.drew b arr dD tb (0,0) aw
 obtain⟨zs,nd,BS⟩:=T5 (P:=prog) iq 30 58 0 _ (by kernel_rfl) (by rfl) b (off+(i+(n-j))*3) (n-(i+(n-j))) (cap-(i+(n-j))) dD tb hs (by show off+(i+(n-j))*3+(n-(i+(n-j)))*3<=dD.size;omega) (by decide);rw[bD (by omega)]at BS;obtain⟨pb,rl⟩:∃pb,pb=iq.setRow b (laid dD (off+(i+(n-j))*3) zs):=⟨_,rfl⟩
 rw[<-rl]at BS;have dO:(prog.info? 58).map (·.size)=some 3:=by kernel_rfl
 have gV:prog.underlying 30=some (.slice 58):=by kernel_rfl
 have vt:∀ty,(Builtin.append_ #[30,30] ty #[.slice (some ⟨b,off,none⟩) i cap,.slice (if cap=j then some ⟨b,off,none⟩ else some ⟨b,off+j*3,none⟩) (n-j) (cap-j)]).run prog w.drew=.ok (.slice (some ⟨b,off,none⟩) (i+(n-j)) cap) iq:=by
  intro ty;cases hi:prog.info? 58 with
  | none=>rw[hi]at dO;cases dO
  | some i0=>
   rw[hi]at dO;have a7:i0.size=3:=by simpa using dO
   have key:∀cw:Addr,(∀x u,news[x]?=some u->w.drew.cell? (cw.add x)=some u)->(Builtin.append_ #[30,30] ty #[.slice (some ⟨b,off,none⟩) i cap,.slice (some cw) (n-j) (cap-j)]).run prog w.drew=.ok (.slice (some ⟨b,off,none⟩) (i+(n-j)) cap) iq:=by
    intro cw J8;have:=Gs (P:=prog) (t:=30) (ty:=ty) gV hi w.drew b off i cap arr tb aw cw (n-j) (cap-j) news (by rw[vD,a7]) J8 sM (by omega) (by rw[a7];omega);rw[this,mX,rk,a7];rfl
   split
   ·refine key _ fun x u ag=>?_
    have bJ:news.length=0:=by rw[vD];have:n-j=0:=(by omega);rw[this]
    rw[List.length_eq_zero_iff.1 bJ]at ag;simp at ag
   refine key _ fun x u ag=>?_
   rw[ka]at ag;obtain⟨U,_⟩:=Yf ag;rw[Addr.add_lit];exact cell_of_heap (w:=w.drew) aw U
 have X:Aside (pb=(w.drew.setRow b dD).setRow b (laid dD (off+(i+(n-j))*3) zs)):=by rw[rl,mX];trivial
 have aFh:i+(n-j)<n:=by omega
 have adY:i<=cap:=by omega
 have aFM:j<=cap:=by omega
 have mixed:prog.follows .mixedOrders=true:=by kernel_rfl
 clear mX rl hs aw ka vD sM mw dO gV h1
 go_enter func137,Tryz.ntmps137
 go_wp2_with fail
 go_region_law_o (refine atj rfl (.tmp 22) (.tmp 25) 30 30 rfl _ _ (by simp[Act.eval,Act.put]) (by simp[Act.eval,Act.put]) (vt _) ?_)
 go_wp2
 all_goals (go_ret;exact⟨rfl,zs,nd,by rw[<-rk];exact X⟩)
theorem bT.Bp(xs:List bT):xs.map bT.e=gG (xs.map fun r=>r.e.map D.yP):=by
 simp only[gG,List.map_map];rfl
theorem atl(es:List (List Value))(i j:Nat)(oD:i<j)(bf:j<=es.length):ks prog 137 [.one (.e5 3 (gG es) none),.one (.ro (I i)),.one (.ro (I j))] [.one (.J 3 (gG (es.take i++es.drop j)))]:=by
 rintro w vs ω ⟨ay,aW,ah⟩ mx;obtain⟨y,bu,kY⟩:=ah 0 _ rfl;obtain⟨gD,hd,KS⟩:=ah 1 _ rfl;obtain⟨ko,fG,ae1⟩:=ah 2 _ rfl;have e1:gD=.int .i64 i:=b3.Fl KS;have e2:ko=.int .i64 j:=b3.Fl ae1;subst e1;subst e2;have qw:=RG aW bu hd fG;subst qw;rcases ay.row kY with⟨rfl,_⟩ | ⟨b,off,cap,arr,tb,di,rfl,aC⟩
 ·simp at bf;omega
 have lK:ω b≠.bP:=by rw[di];simp
 have nc:=aC.room;have eo:=aC.fit;have h1:∀x v,off<=x->x<off+es.length*3->arr[x]?=some v->v.oneCell'=true:=by
  intro x v qx kz bF;have bR:(x-off) / 3<es.length:=by omega
  have he:=gU bR;have hlen:=aC.len _ (p9 bR);have kx:(x-off) % 3<(es[(x-off) / 3]).length:=by omega
  have:=aC.cell _ _ _ _ he (gU kx);rw[show off+(x-off) / 3*3+(x-off) % 3=x by omega,bF]at this;rw[gO this];exact aC.one _ (p9 bR) _ (p9 kx)
 refine (atk b off es.length cap i j arr tb w aC.heap nc eo oD bf h1).mono ?_;rintro e aN ⟨rfl,zs,FV,rfl⟩;obtain⟨news,ka⟩:∃news,news=(arr.toList.drop (off+j*3)).take ((es.length-j)*3):=⟨_,rfl⟩
 rw[<-ka];have vD:news.length=(es.length-j)*3:=by rw[ka];simp;omega
 have jm:off+i*3+news.length<=arr.size:=by omega
 have mw:=rZ jm;have c4:off+(i+(es.length-j))*3+zs.length<=(laid arr (off+i*3) news).size:=by omega
 have FE:(es.take i++es.drop j).length=i+(es.length-j):=by simp;omega
 have cJ:EX w ((w.drew.setRow b (laid arr (off+i*3) news)).setRow b (laid (laid arr (off+i*3) news) (off+(i+(es.length-j))*3) zs)) (fun b=>ω b≠.bP) 3 (es.take i++es.drop j) (.slice (some ⟨b,off,none⟩) (i+(es.length-j)) cap):=by
  refine⟨U9 lK _ _,.inr ⟨b,off,cap,_,tb,.inl lK,by rw[FE],?_,by omega,by rw[rZ c4,mw];exact eo,?_,?_,?_⟩⟩
  ·exact setRow_heap _ b _ _ tb (0,0) (setRow_heap w.drew b arr _ tb (0,0) aC.heap)
  ·intro e he;rcases hM.1 he with h | h
   ·exact aC.len e (sl h)
   exact aC.len e (wY h)
  ·intro e he;rcases hM.1 he with h | h
   ·exact aC.one e (sl h)
   exact aC.one e (wY h)
  intro x y e v ag bF;have gz:=(ga.1 ag).1;rw[FE]at gz;have bu:y<3:=by
   have U:=(ga.1 bF).1;have:e.length=3:=by
    have:=gj ag;rcases hM.1 this with h | h
    ·exact aC.len e (sl h)
    exact aC.len e (wY h)
   omega
  rw[nh c4,bD (by omega),nh jm];by_cases zC:x<i
  ·rw[bD (by omega)];refine aC.cell x y e v ?_ bF;rwa[Ba (by simp;omega),jZ,bq zC]at ag
  rw[bq (by omega),ka,jZ,bq (by omega),lx,mN];have:(es.take i).length=i:=by simp;omega
  rw[wX (by omega),this,lx]at ag;have:=aC.cell (j+(x-i)) y e v ag bF;rw[<-this]
  congr 1
  omega
 obtain⟨bh,U,aA,aJ⟩:=cJ.res;refine⟨_,rfl,cJ.RI.full mx,bh,U,aA,U8 ?_,aJ⟩;intro gk kZ fe k dT cC gI ai
 match gk with
 | 0=>simp at gI;subst gI;simp only[GA.cell]at ai;split at ai<;>simp at ai
 | 1=>simp at gI;subst gI;simp only[GA.cell]at ai;split at ai<;>simp at ai
 | 2=>simp at gI;subst gI;simp only[GA.cell]at ai;split at ai<;>simp at ai
 | _+3=>simp at gI
theorem atm(xs:List bT)(i j:Nat)(oD:i<j)(bf:j<=xs.length):ks prog 137 [.one (.e5 3 (xs.map bT.e) none),.one (.ro (I i)),.one (.ro (I j))] [.one (.J 3 ((xs.take i++xs.drop j).map bT.e))]:=by
 have:=atl (xs.map fun r=>r.e.map D.yP) i j oD (by simpa using bf);rw[bT.Bp,bT.Bp];simpa using this
end Go.Proofs.YthfnndblgbjniaaGreat
namespace Go.Proofs.YthfnndblgbjniaaGreat
open Go.Sx Go.RowKit Go.Proofs.Tryz
def jQ(w:Nat):List b7:=[⟨1,w,0⟩,⟨3,w,0⟩,⟨2,w,0⟩,⟨7,w,0⟩]
def lv(a b:Nat):List b7:=if a=b then [] else [⟨4,a,b⟩,⟨5,a,b⟩]
def mG(n:Nat):List b7:=(List.range n).flatMap jQ
def qJ(a n:Nat):List b7:=(List.range n).flatMap (lv a)
def nt(m n:Nat):List b7:=(List.range n).flatMap fun a=>qJ a m
def oneOf(e:Nat):List b7:=[⟨6,e,0⟩]
def uF(n:Nat):List b7:=(List.range n).flatMap oneOf
def fB(c:aO):List b7:=mG (gd c.au.aq 0 4).toNat++nt (gd c.au.aq 0 4).toNat (gd c.au.aq 0 4).toNat++uF 4
theorem Yg(n:Nat):mG (n+1)=mG n++jQ n:=by simp[mG,List.range_succ]
theorem Yh(a n:Nat):qJ a (n+1)=qJ a n++lv a n:=by simp[qJ,List.range_succ]
theorem Yi(m n:Nat):nt m (n+1)=nt m n++qJ n m:=by simp[nt,List.range_succ]
theorem Yj(n:Nat):uF (n+1)=uF n++[⟨6,n,0⟩]:=by simp[uF,List.range_succ,oneOf]
theorem DX(n:Nat):(mG n).length<=n*4:=by
 have h:=z8 jQ 4 (fun _=>by simp[jQ]) (List.range n);rwa[w3]at h
theorem OL(a n:Nat):(qJ a n).length<=n*2:=by
 have h:=z8 (lv a) 2 (fun b=>by unfold lv;split<;>simp) (List.range n);rwa[w3]at h
theorem DY(m n:Nat):(nt m n).length<=n*(m*2):=by
 have h:=z8 (fun a=>qJ a m) (m*2) (fun a=>OL a m) (List.range n);rwa[w3]at h
theorem OM(n:Nat):(uF n).length<=n*1:=by
 have h:=z8 oneOf 1 (fun _=>by simp[oneOf]) (List.range n);rwa[w3]at h
theorem ON(n:Int):∃k:Nat,gd n 0 4=k/\k<=4:=by
 refine⟨(gd n 0 4).toNat,?_,?_⟩<;>(unfold gd;simp only[show ¬(4:Int)<0 by omega,mh];split<;>(try split)<;>omega)
theorem Cu(a b:Nat)(ah:a<=4)(aw:b<=4):a*(b*2)<=32:=by
 have:=Nat.mul_le_mul ah (hI 2 aw);omega
theorem Ia(c:aO):(fB c).length<=100:=by
 obtain⟨k,hk,aJ⟩:=ON c.au.aq;unfold fB;rw[hk];have a:=DX k;have b:=DY k k;have e:=OM 4;have m:=Cu k k aJ aJ;simp only[f',lz];omega
theorem Ib(c:aO):ar 51 [.agg c.e] [.one (.J 3 ((fB c).map b7.e))]:=by
 have b:=GZ c.au.aq 0 4;obtain⟨k,hk,aJ⟩:=ON c.au.aq;unfold fB;rw[hk]at b ⊢;have afs:=DX k;have aft:=DY k k;have m:=Cu k k aJ aJ;have dn:=er (P:=prog) (c:=(ap f51 0)) (cn 0) k (fun i:Nat=>CO k i ((mG i).map b7.e)) (fun i hi=>by
  have h1:=DX i;rw[Yg,gi];exact aCz ⟨dh (by omega),by simp;omega,by simp;omega,dt b7.e b7.flat (jQ i),⟨by omega,by omega⟩,aa⟩) (aCA ⟨ea (by omega),aa⟩)
 have nT:=fun (a:Nat) (ah:a<k)=>er (P:=prog) (c:=(ap f51 2)) (cn 4) k (fun i:Nat=>ym k a i ((mG k++nt k a++qJ a i).map b7.e)) (fun i hi=>by
  have h1:=OL a i;have U:=DY k a;have aA:=Cu a k (by omega) aJ;rw[Yh,<-mO,gi (l₂:=lv a i)];by_cases ec:a=i
  ·have e:(lv a i).map b7.e=[]:=by simp[lv,ec]
   rw[e,iO];exact aCC ⟨dh (by omega),by simp[ec],⟨by omega,by omega⟩,aa⟩
  have e:(lv a i).map b7.e=[[I 4,I a,I i],[I 5,I a,I i]]:=by simp[lv,ec,b7.e]
  rw[e];have bI:Flat [[I 4,I a,I i],[I 5,I a,I i]]:=by rw[<-e];exact dt b7.e b7.flat _
  exact aCB ⟨dh (by omega),by simp;omega,by simp;omega,by simp;omega,bI,⟨by omega,by omega⟩,aa⟩) (aCD ⟨ea (by omega),aa⟩)
 have eX:=er (P:=prog) (c:=(ap f51 1)) (cn 2) k (fun i:Nat=>CP k i ((mG k++nt k i).map b7.e)) (fun i hi=>by
  have h:=nT i hi;rw[Yi,<-mO];simp only[qJ,yZ,w2,iO]at h;exact aCE ⟨dh (by omega),h,⟨by omega,by omega⟩,aa⟩) (aCF ⟨ea (by omega),aa⟩)
 have FY:=er (P:=prog) (c:=(ap f51 3)) (cn 6) 4 (fun i:Nat=>CQ i ((mG k++nt k k++uF i).map b7.e)) (fun i hi=>by
  have h1:=OM i;rw[Yj,<-mO,gi (l₂:=[_])];exact aCG ⟨dh (by omega),by simp;omega,by simp;omega,dt b7.e b7.flat [⟨6,i,0⟩],⟨by omega,by omega⟩,aa⟩) (aCH ⟨ea (by omega),aa⟩)
 simp only[nt,yZ,w2,iO]at eX;simp only[uF,yZ,w2,iO]at FY;rw[lz];exact aCI ⟨b,dn,eX,FY,aa⟩
theorem atn(c:aO):ar 48 [.agg c.e] [.one (.J 3 ((fB c).map b7.e))]:=by
 have b:=ahc c.au.aq 0 4;obtain⟨k,hk,aJ⟩:=ON c.au.aq;unfold fB;rw[hk]at b ⊢;have afs:=DX k;have aft:=DY k k;have m:=Cu k k aJ aJ;have eX:=fun (w:Nat) (hw:w<k)=>er (P:=prog) (c:=(ap f48 1)) (cn 2) 4 (fun i:Nat=>uR k w i ((mG w).map b7.e++((jQ w).take i).map b7.e)) (fun i hi=>by
  have h1:=DX w
  match i,hi with
  | 0,_=>exact oX (uR k w (((0:Nat):Int)+1)) (GV ⟨rfl,by omega,by decide,rfl,by simp[jQ];omega,by simp[jQ];omega,dt b7.e b7.flat [⟨1,w,0⟩],⟨by omega,by omega⟩,aa⟩) (by simp[jQ,b7.e])
  | 1,_=>exact oX (uR k w (((1:Nat):Int)+1)) (GV ⟨rfl,by omega,by decide,rfl,by simp[jQ];omega,by simp[jQ];omega,dt b7.e b7.flat [⟨3,w,0⟩],⟨by omega,by omega⟩,aa⟩) (by simp[jQ,b7.e])
  | 2,_=>exact oX (uR k w (((2:Nat):Int)+1)) (GV ⟨rfl,by omega,by decide,rfl,by simp[jQ];omega,by simp[jQ];omega,dt b7.e b7.flat [⟨2,w,0⟩],⟨by omega,by omega⟩,aa⟩) (by simp[jQ,b7.e])
  | 3,_=>exact oX (uR k w (((3:Nat):Int)+1)) (GV ⟨rfl,by omega,by decide,rfl,by simp[jQ];omega,by simp[jQ];omega,dt b7.e b7.flat [⟨7,w,0⟩],⟨by omega,by omega⟩,aa⟩) (by simp[jQ,b7.e])) (aCJ ⟨rfl,aa⟩)
 have dn:=er (P:=prog) (c:=(ap f48 0)) (cn 0) k (fun i:Nat=>CR k i ((mG i).map b7.e)) (fun i hi=>by
  have h:=eX i hi;rw[Yg,gi];simp only[List.take_zero,List.map_nil,iO]at h;exact aCK ⟨dh (by omega),h,⟨by omega,by omega⟩,aa⟩) (aCL ⟨ea (by omega),aa⟩)
 have FY:=fun (a:Nat) (ah:a<k)=>er (P:=prog) (c:=(ap f48 3)) (cn 6) k (fun i:Nat=>yn k a i ((mG k++nt k a++qJ a i).map b7.e)) (fun i hi=>by
  have h1:=OL a i;have U:=DY k a;have aA:=Cu a k (by omega) aJ;rw[Yh,<-mO,gi (l₂:=lv a i)];by_cases ec:a=i
  ·have e:(lv a i).map b7.e=[]:=by simp[lv,ec]
   rw[e,iO];exact aBX ⟨dh (by omega),by simp[ec],⟨by omega,by omega⟩,aa⟩
  have e:(lv a i).map b7.e=[[I 4,I a,I i],[I 5,I a,I i]]:=by simp[lv,ec,b7.e]
  rw[e];have bI:Flat [[I 4,I a,I i],[I 5,I a,I i]]:=by rw[<-e];exact dt b7.e b7.flat _
  exact aBW ⟨dh (by omega),by simp;omega,by simp;omega,by simp;omega,bI,⟨by omega,by omega⟩,aa⟩) (aBY ⟨ea (by omega),aa⟩)
 have nT:=er (P:=prog) (c:=(ap f48 2)) (cn 4) k (fun i:Nat=>CS k i ((mG k++nt k i).map b7.e)) (fun i hi=>by
  have h:=FY i hi;rw[Yi,<-mO];simp only[qJ,yZ,w2,iO]at h;exact aBZ ⟨dh (by omega),h,⟨by omega,by omega⟩,aa⟩) (aB0 ⟨ea (by omega),aa⟩)
 have Te:=er (P:=prog) (c:=(ap f48 4)) (cn 8) 4 (fun i:Nat=>CT i ((mG k++nt k k++uF i).map b7.e)) (fun i hi=>by
  have h1:=OM i;rw[Yj,<-mO,gi (l₂:=[_])];exact aB1 ⟨dh (by omega),by simp;omega,by simp;omega,dt b7.e b7.flat [⟨6,i,0⟩],⟨by omega,by omega⟩,aa⟩) (aB2 ⟨ea (by omega),aa⟩)
 simp only[nt,yZ,w2,iO]at nT;simp only[uF,yZ,w2,iO]at Te;rw[lz];exact aB3 ⟨b,dn,nT,Te,aa⟩
