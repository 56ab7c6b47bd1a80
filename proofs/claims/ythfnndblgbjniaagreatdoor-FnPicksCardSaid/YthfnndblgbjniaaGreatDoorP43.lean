import Derived.Test.YthfnndblgbjniaaGreatDoorGV
import Derived.WalkKit
import Derived.Deep.RegionLaw
import Derived.Shelf.RegionOpenPlain
import Derived.Lib.SliceRun
import Derived.Deep.LoopGhost
import Derived.Lib.Walk
import Derived.Test.YthfnndblgbjniaaGreatDoorP31
set_option linter.unusedVariables false
set_option linter.unusedSimpArgs false
namespace Go.Proofs.YthfnndblgbjniaaGreatDoor
open Go.Sx Go.RowKit Go.Proofs.Tryz
theorem yW(xs:List Int):Flat (xs.map bb):=dE bb (fun _ _ aI=>⟨_,List.mem_singleton.1 aI⟩) xs
theorem wY(xs:List Bool):Flat (xs.map cp):=dE cp (fun _ _ aI=>⟨_,List.mem_singleton.1 aI⟩) xs
theorem cz.flat(r:cz):∀d∈r.e,∃x,d=.v x:=by
 intro d aI;simp only[cz.e,eK,nP,or_false]at aI;rcases aI with rfl | rfl<;>exact⟨_,rfl⟩
theorem bR.flat(r:bR):∀d∈r.e,∃x,d=.v x:=by
 intro d aI;simp only[bR.e,eK,nP,or_false]at aI;rcases aI with rfl | rfl | rfl<;>exact⟨_,rfl⟩
theorem bW.flat(r:bW):∀d∈r.e,∃x,d=.v x:=by
 intro d aI;simp only[bW.e,eK,nP,or_false]at aI;rcases aI with rfl | rfl | rfl | rfl | rfl<;>exact⟨_,rfl⟩
theorem xT{α:Type}{f:α->List D}{xs:List α}{i:Nat}{a:α}(h:xs[i]?=some a):(xs.take (i+1)).map f=(xs.take i).map f++[f a]:=by simp[wL,h]
theorem nl{l:List (List D)}{k m:Nat}(h:l.length*k<=m):(([]:List (List D)).length+l.length)*k<=m:=by simpa using h
theorem ky{l:List (List D)}{m:Nat}(h:l.length<=m):([]:List (List D)).length+l.length<=m:=by simpa using h
theorem b5.Pj{g:b5}(h:g.sz<=8388608){x:Node}(aq:x∈g.nodes):x.sz<=8388608:=vJ (sz:=Node.sz) (xs:=g.nodes) (m:=8388608) (by simp only[b5.sz]at h;omega) aq
theorem b5.Pk{g:b5}(h:g.sz<=8388608):g.nodes.length<=8388608:=by simp only[b5.sz,fr]at h;omega
variable{c:bi}
theorem bi.Mv(h:c.sz<=8388608){w:aR}(hw:w∈c.az):w.sz<=8388608:=vJ (sz:=aR.sz) (xs:=c.az) (m:=8388608) (by simp only[bi.sz]at h;omega) hw
theorem bi.IE(h:c.sz<=8388608){w:br}(hw:w∈c.bU):w.sz<=8388608:=vJ (sz:=br.sz) (xs:=c.bU) (m:=8388608) (by simp only[bi.sz]at h;omega) hw
theorem bi.mX(h:c.sz<=8388608):c.aA.sz<=8388608:=by simp only[bi.sz]at h;omega
theorem ahA(x:Node)(h:x.sz<=8388608):al 125 [.agg x.e] [.agg x.e]:=by
 simp only[Node.sz]at h;exact agP ⟨nl (by simp;omega),ky (by simp;omega),yW _,ad⟩
theorem EF(x:br)(h:x.sz<=8388608):al 77 [.agg x.e] [.agg x.e]:=
 agT ⟨E5 x.queue h,ad⟩
theorem EG(x:br)(h:x.sz<=8388608):al 137 [.agg x.e] [.agg x.e]:=by
 simp only[br.sz]at h;exact ag0 ⟨nl (by simp;omega),ky (by simp;omega),dE _ aD.flat _,ad⟩
theorem xU(x:aR)(h:x.sz<=8388608):al 76 [.agg x.e] [.agg x.e]:=by
 simp only[aR.sz]at h;exact agU ⟨E5 x.queue (by omega),E5 x.ck (by omega),E5 x.cb (by omega),ux x.cells (by omega),nl (by simp;omega),ky (by simp;omega),yW _,nl (by simp;omega),ky (by simp;omega),wY _,nl (by simp;omega),ky (by simp;omega),wY _,nl (by simp;omega),ky (by simp;omega),dE _ cz.flat _,ad⟩
theorem xV(x:aR)(h:x.sz<=8388608):al 136 [.agg x.e] [.agg x.e]:=by
 simp only[aR.sz]at h;exact agu ⟨nl (by simp;omega),ky (by simp;omega),dE _ aD.flat _,nl (by simp;omega),ky (by simp;omega),dE _ aD.flat _,nl (by simp;omega),ky (by simp;omega),dE _ aD.flat _,nl (by simp;omega),ky (by simp;omega),dE _ Cell.flat _,nl (by simp;omega),ky (by simp;omega),yW _,nl (by simp;omega),ky (by simp;omega),wY _,nl (by simp;omega),ky (by simp;omega),wY _,nl (by simp;omega),ky (by simp;omega),dE _ cz.flat _,ad⟩
theorem ahB(g:b5)(ax:g.sz<=8388608):al 75 [.agg g.e] [.agg g.e]:=by
 have a':=b5.Pk ax;have l:=er (P:=prog) (c:=(ap f75 0)) (cy 0) g.nodes.length (fun i:Nat=>Aw (g.nodes.map Node.e) i ((g.nodes.take i).map Node.e) g.az g.cap 0 0) (fun i hi=>by
  obtain⟨a,aj⟩:=c2 hi;rw[xT aj];exact agQ ⟨cc hi,bB,bI hi,bC Node.e aj,ahA a (b5.Pj ax (eQ aj)),by simp;omega,by simp;omega,dc hi a',ad⟩) (agR ⟨dG,ad⟩)
 rw[kX]at l;exact agS ⟨l,ad⟩
theorem Tb(g:b5)(ax:g.sz<=8388608):al 135 [.agg g.e] [.agg g.e]:=by
 have a':=b5.Pk ax;have l:=er (P:=prog) (c:=(ap f135 0)) (cy 0) g.nodes.length (fun i:Nat=>Az i ((g.nodes.take i).map Node.e) g.az g.cap 0 0 (g.nodes.map Node.e) g.az g.cap) (fun i hi=>by
  obtain⟨a,aj⟩:=c2 hi;have ak:=b5.Pj ax (eQ aj);simp only[Node.sz]at ak;rw[xT aj];exact ag1 ⟨cc hi,bB,bI hi,bC Node.e aj,nl (by simp;omega),ky (by simp;omega),yW _,by simp;omega,by simp;omega,dc hi a',ad⟩) (ag2 ⟨dG,ad⟩)
 rw[kX]at l;exact agt ⟨l,ad⟩
theorem sM(c:bi)(ao:c.sz<=8388608):al 38 [.agg c.e] [.agg c.e]:=by
 have hw:=bi.Bu ao;have ar:=bi.Dj ao;have bZ:c.tokens.length<=8388608:=by simp only[bi.sz,fr]at ao;omega
 have aq:c.news.length<=8388608:=by simp only[bi.sz,fr]at ao;omega
 have eW:=er (P:=prog) (c:=(ap f38 0)) (cy 0) c.az.length (fun i:Nat=>Ax (c.az.map aR.e) i (c.aA.nodes.map Node.e) c.aA.az c.aA.cap ((c.az.take i).map aR.e) (c.tokens.map bW.e) (c.news.map bR.e) 0 0 (c.aA.nodes.map Node.e) c.aA.az c.aA.cap (c.az.map aR.e) (c.bU.map br.e) (c.tokens.map bW.e) (c.news.map bR.e)) (fun i hi=>by
  obtain⟨a,aj⟩:=c2 hi;rw[xT aj];exact agV ⟨cc hi,bB,bI hi,bC aR.e aj,xU a (bi.Mv ao (eQ aj)),by simp;omega,by simp;omega,dc hi hw,ad⟩) (agW ⟨dG,ad⟩)
 have ku:=er (P:=prog) (c:=(ap f38 1)) (cy 2) c.bU.length (fun i:Nat=>Ay (c.bU.map br.e) i (c.aA.nodes.map Node.e) c.aA.az c.aA.cap (c.az.map aR.e) ((c.bU.take i).map br.e) (c.tokens.map bW.e) (c.news.map bR.e) 0 0) (fun i hi=>by
  obtain⟨a,aj⟩:=c2 hi;rw[xT aj];exact agX ⟨cc hi,bB,bI hi,bC br.e aj,EF a (bi.IE ao (eQ aj)),by simp;omega,by simp;omega,dc hi ar,ad⟩) (agY ⟨dG,ad⟩)
 rw[kX]at eW ku;exact agZ ⟨ahB c.aA (bi.mX ao),nl (by simp;omega),ky (by simp;omega),dE _ bW.flat _,nl (by simp;omega),ky (by simp;omega),dE _ bR.flat _,eW,ku,ad⟩
theorem ahC(c:bi)(ao:c.sz<=8388608):al 83 [.agg c.e] [.agg c.e]:=by
 have hw:=bi.Bu ao;have ar:=bi.Dj ao;have bZ:c.tokens.length<=8388608:=by simp only[bi.sz,fr]at ao;omega
 have aq:c.news.length<=8388608:=by simp only[bi.sz,fr]at ao;omega
 have eW:=er (P:=prog) (c:=(ap f83 0)) (cy 0) c.az.length (fun i:Nat=>AA i (c.aA.nodes.map Node.e) c.aA.az c.aA.cap ((c.az.take i).map aR.e) (c.tokens.map bW.e) (c.news.map bR.e) 0 0 (c.aA.nodes.map Node.e) c.aA.az c.aA.cap (c.az.map aR.e) (c.bU.map br.e) (c.tokens.map bW.e) (c.news.map bR.e)) (fun i hi=>by
  obtain⟨a,aj⟩:=c2 hi;rw[xT aj];exact agv ⟨cc hi,bB,bI hi,bC aR.e aj,xV a (bi.Mv ao (eQ aj)),by simp;omega,by simp;omega,dc hi hw,ad⟩) (agw ⟨dG,ad⟩)
 have ku:=er (P:=prog) (c:=(ap f83 1)) (cy 2) c.bU.length (fun i:Nat=>AB i (c.aA.nodes.map Node.e) c.aA.az c.aA.cap (c.az.map aR.e) ((c.bU.take i).map br.e) (c.tokens.map bW.e) (c.news.map bR.e) 0 0 (c.aA.nodes.map Node.e) c.aA.az c.aA.cap (c.az.map aR.e) (c.bU.map br.e) (c.tokens.map bW.e) (c.news.map bR.e)) (fun i hi=>by
  obtain⟨a,aj⟩:=c2 hi;rw[xT aj];exact agx ⟨cc hi,bB,bI hi,bC br.e aj,EG a (bi.IE ao (eQ aj)),by simp;omega,by simp;omega,dc hi ar,ad⟩) (agy ⟨dG,ad⟩)
 rw[kX]at eW ku;exact agz ⟨Tb c.aA (bi.mX ao),nl (by simp;omega),ky (by simp;omega),dE _ bW.flat _,nl (by simp;omega),ky (by simp;omega),dE _ bR.flat _,eW,ku,ad⟩
end Go.Proofs.YthfnndblgbjniaaGreatDoor
namespace Go.Proofs.YthfnndblgbjniaaGreatDoor
open Go.Sx Go.RowKit Go.Shelf Go.Lib Go.Proofs.Tryz
theorem ai4{P:Program}{ops:Array Oper}{o:Oper}{a:Act}{w:World}{K:Act->World->Prop}{Q:Exit->Act->World->Prop}{E:Prop}
  (ax:o.guard=none) (x y:Operand) (VQ ty:TypeId) (p5:o.op=Op.call { callee:=Callee.builtin Builtin.append,args:=#[x,y],argTypes:=#[VQ,ty] })
  (v u:Value) (aq:a.eval x=v) (bM:a.eval y=u) {mK:Value} {aN:World} (aH:(Builtin.append_ #[VQ,ty] o.type #[v,u]).run P w=.ok mK aN) (hH:K (a.put o.dst mK) aN):
  if Region.wanted o (yielded ops a.tmps)=true then Oper.wp P o a w K Q else E:=by
 have hw:Region.wanted o (yielded ops a.tmps)=true:=by simp[Region.wanted,ax]
 rw[bL hw];unfold Oper.wp;simp[execOp,p5,resolve,invoke,builtin,aq,bM,aH,Result.andThen];exact hH
theorem Tc{arr:Array Value}{p m j:Nat}{v:Value}(h:((arr.toList.drop p).take m)[j]?=some v):arr[p+j]?=some v/\j<m:=by
 rw[jZ]at h;split at h
 ·rw[kW,lJ]at h;exact⟨h,‹_›⟩
 cases h
theorem cell_of_heap{w:World}{b:Nat}{arr:Array Value}{tb:TypeId}(ay:w.heap[b]?=some (.cells arr tb (0,0))){x:Nat}{v:Value}(h:arr[x]?=some v):w.cell? ⟨b,x,none⟩=some v:=by
 simp[World.cell?,ay,h]
set_option maxHeartbeats 4000000 in
set_option maxRecDepth 1000000 in
theorem ai5(b off n cap i j:Nat)(arr:Array Value)(tb:TypeId)(w:World)(ay:w.heap[b]?=some (.cells arr tb (0,0)))(a':n<=cap)(ee:off+cap*3<=arr.size)(o9:i<j)(bm:j<=n)
  (U:∀x v,off<=x->x<off+n*3->arr[x]?=some v->v.oneCell'=true):
  Calls prog 42 #[.slice (some ⟨b,off,none⟩) n cap,.int .i64 i,.int .i64 j] w fun e aN=>e=.returned (.slice (some ⟨b,off,none⟩) (i+(n-j)) cap)/\
   ∃zs:List Value,zs.length=(n-(i+(n-j)))*3/\aN=(w.drew.setRow b (laid arr (off+i*3) ((arr.toList.drop (off+j*3)).take ((n-j)*3)))).setRow b (laid (laid arr (off+i*3) ((arr.toList.drop (off+j*3)).take ((n-j)*3))) (off+(i+(n-j))*3) zs):=by
 obtain⟨news,j7⟩:∃news,news=(arr.toList.drop (off+j*3)).take ((n-j)*3):=⟨_,rfl⟩
 have vk:news.length=(n-j)*3:=by rw[j7];simp;omega
 have CZ:∀u∈news,u.oneCell'=true:=by
  intro u hu;obtain⟨x,aq⟩:=oN.1 hu;rw[j7]at aq;obtain⟨aa,aB⟩:=Tc aq;exact U _ u (by omega) (by omega) aa
 rw[<-j7];obtain⟨dv,pT⟩:∃dv,dv=laid arr (off+i*3) news:=⟨_,rfl⟩
 have lx:dv.size=arr.size:=by rw[pT];exact qq (by omega)
 obtain⟨hZ,lV⟩:∃hZ,hZ=w.drew.setRow b dv:=⟨_,rfl⟩
 have gD:hZ.heap[b]?=some (.cells dv tb (0,0)):=by rw[lV];exact setRow_heap w.drew b arr dv tb (0,0) ay
 obtain⟨zs,lZ,zg⟩:=QO (P:=prog) hZ 30 56 0 _ (by kernel_rfl) (by rfl) b (off+(i+(n-j))*3) (n-(i+(n-j))) (cap-(i+(n-j))) dv tb gD (by show off+(i+(n-j))*3+(n-(i+(n-j)))*3<=dv.size;omega) (by decide);rw[bH (by omega)]at zg;obtain⟨nW,pU⟩:∃nW,nW=hZ.setRow b (laid dv (off+(i+(n-j))*3) zs):=⟨_,rfl⟩
 rw[<-pU]at zg;have dI:(prog.info? 56).map (·.size)=some 3:=by kernel_rfl
 have gg:prog.underlying 30=some (.slice 56):=by kernel_rfl
 have tD:∀ty,(Builtin.append_ #[30,30] ty #[.slice (some ⟨b,off,none⟩) i cap,.slice (if cap=j then some ⟨b,off,none⟩ else some ⟨b,off+j*3,none⟩) (n-j) (cap-j)]).run prog w.drew=.ok (.slice (some ⟨b,off,none⟩) (i+(n-j)) cap) hZ:=by
  intro ty;cases hi:prog.info? 56 with
  | none=>rw[hi]at dI;cases dI
  | some i0=>
   rw[hi]at dI;have a6:i0.size=3:=by simpa using dI
   have key:∀cq:Addr,(∀x u,news[x]?=some u->w.drew.cell? (cq.add x)=some u)->(Builtin.append_ #[30,30] ty #[.slice (some ⟨b,off,none⟩) i cap,.slice (some cq) (n-j) (cap-j)]).run prog w.drew=.ok (.slice (some ⟨b,off,none⟩) (i+(n-j)) cap) hZ:=by
    intro cq G';have:=DF (P:=prog) (t:=30) (ty:=ty) gg hi w.drew b off i cap arr tb ay cq (n-j) (cap-j) news (by rw[vk,a6]) G' CZ (by omega) (by rw[a6];omega);rw[this,lV,pT,a6];rfl
   split
   ·refine key _ fun x u aq=>?_
    have b4:news.length=0:=by rw[vk];have:n-j=0:=(by omega);rw[this]
    rw[List.length_eq_zero_iff.1 b4]at aq;simp at aq
   refine key _ fun x u aq=>?_
   rw[j7]at aq;obtain⟨aa,_⟩:=Tc aq;rw[Addr.add_lit];exact cell_of_heap (w:=w.drew) ay aa
 have X:Aside (nW=(w.drew.setRow b dv).setRow b (laid dv (off+(i+(n-j))*3) zs)):=by rw[pU,lV];trivial
 have axL:i+(n-j)<n:=by omega
 have YQ:i<=cap:=by omega
 have ax9:j<=cap:=by omega
 have mixed:prog.follows .mixedOrders=true:=by kernel_rfl
 clear lV pU gD ay j7 vk CZ lx dI gg U
 go_enter func42,Tryz.ntmps42
 go_wp2_with fail
 go_region_law_o (refine ai4 rfl (.tmp 22) (.tmp 25) 30 30 rfl _ _ (by simp[Act.eval,Act.put]) (by simp[Act.eval,Act.put]) (tD _) ?_)
 go_wp2
 all_goals (go_ret;exact⟨rfl,zs,lZ,by rw[<-pT];exact X⟩)
theorem bR.yQ(xs:List bR):xs.map bR.e=gn (xs.map fun r=>r.e.map D.Bt):=by
 simp only[gn,List.map_map];rfl
theorem ai6(es:List (List Value))(i j:Nat)(o9:i<j)(bm:j<=es.length):kl prog 42 [.one (.e3 3 (gn es) none),.one (.ro (I i)),.one (.ro (I j))] [.one (.J 3 (gn (es.take i++es.drop j)))]:=by
 rintro w vs ω ⟨ax,a',aj⟩ ob;obtain⟨y,bM,kN⟩:=aj 0 _ rfl;obtain⟨gK,gG,HS⟩:=aj 1 _ rfl;obtain⟨kk,fw,ZD⟩:=aj 2 _ rfl;have e1:gK=.int .i64 i:=b1.CE HS;have e2:kk=.int .i64 j:=b1.CE ZD;subst e1;subst e2;have pb:=NQ a' bM gG fw;subst pb;rcases ax.row kN with⟨rfl,_⟩ | ⟨b,off,cap,arr,tb,dj,rfl,aH⟩
 ·simp at bm;omega
 have nn:ω b≠.bG:=by rw[dj];simp
 have n9:=aH.room;have ee:=aH.fit;have U:∀x v,off<=x->x<off+es.length*3->arr[x]?=some v->v.oneCell'=true:=by
  intro x v pc jO bx;have bO:(x-off) / 3<es.length:=by omega
  have he:=iB bO;have hlen:=aH.len _ (oP bO);have jM:(x-off) % 3<(es[(x-off) / 3]).length:=by omega
  have:=aH.cell _ _ _ _ he (iB jM);rw[show off+(x-off) / 3*3+(x-off) % 3=x by omega,bx]at this;rw[gd this];exact aH.one _ (oP bO) _ (oP jM)
 refine (ai5 b off es.length cap i j arr tb w aH.heap n9 ee o9 bm U).mono ?_;rintro e aN ⟨rfl,zs,De,rfl⟩;obtain⟨news,j7⟩:∃news,news=(arr.toList.drop (off+j*3)).take ((es.length-j)*3):=⟨_,rfl⟩
 rw[<-j7];have vk:news.length=(es.length-j)*3:=by rw[j7];simp;omega
 have iI:off+i*3+news.length<=arr.size:=by omega
 have lx:=qq iI;have c1:off+(i+(es.length-j))*3+zs.length<=(laid arr (off+i*3) news).size:=by omega
 have CW:(es.take i++es.drop j).length=i+(es.length-j):=by simp;omega
 have cB:Ci w ((w.drew.setRow b (laid arr (off+i*3) news)).setRow b (laid (laid arr (off+i*3) news) (off+(i+(es.length-j))*3) zs)) (fun b=>ω b≠.bG) 3 (es.take i++es.drop j) (.slice (some ⟨b,off,none⟩) (i+(es.length-j)) cap):=by
  refine⟨RO nn _ _,.inr ⟨b,off,cap,_,tb,.inl nn,by rw[CW],?_,by omega,by rw[qq c1,lx];exact ee,?_,?_,?_⟩⟩
  ·exact setRow_heap _ b _ _ tb (0,0) (setRow_heap w.drew b arr _ tb (0,0) aH.heap)
  ·intro e he;rcases lM.1 he with h | h
   ·exact aH.len e (uU h)
   exact aH.len e (wM h)
  ·intro e he;rcases lM.1 he with h | h
   ·exact aH.one e (uU h)
   exact aH.one e (wM h)
  intro x y e v aq bx;have fR:=(fP.1 aq).1;rw[CW]at fR;have bM:y<3:=by
   have aa:=(fP.1 bx).1;have:e.length=3:=by
    have:=fI aq;rcases lM.1 this with h | h
    ·exact aH.len e (uU h)
    exact aH.len e (wM h)
   omega
  rw[l7 c1,bH (by omega),l7 iI];by_cases ZL:x<i
  ·rw[bH (by omega)];refine aH.cell x y e v ?_ bx;rwa[B7 (by simp;omega),jZ,bL ZL]at aq
  rw[bL (by omega),j7,jZ,bL (by omega),kW,lJ];have:(es.take i).length=i:=by simp;omega
  rw[B6 (by omega),this,kW]at aq;have:=aH.cell (j+(x-i)) y e v aq bx;rw[<-this]
  congr 1
  omega
 obtain⟨bd,aa,aB,aJ⟩:=cB.res;refine⟨_,rfl,cB.NS.full ob,bd,aa,aB,RN ?_,aJ⟩;intro fE ks eY k dM cv iG ao
 match fE with
 | 0=>simp at iG;subst iG;simp only[GA.cell]at ao;split at ao<;>simp at ao
 | 1=>simp at iG;subst iG;simp only[GA.cell]at ao;split at ao<;>simp at ao
 | 2=>simp at iG;subst iG;simp only[GA.cell]at ao;split at ao<;>simp at ao
 | _+3=>simp at iG
theorem ai7(xs:List bR)(i j:Nat)(o9:i<j)(bm:j<=xs.length):kl prog 42 [.one (.e3 3 (xs.map bR.e) none),.one (.ro (I i)),.one (.ro (I j))] [.one (.J 3 ((xs.take i++xs.drop j).map bR.e))]:=by
 have:=ai6 (xs.map fun r=>r.e.map D.Bt) i j o9 (by simpa using bm);rw[bR.yQ,bR.yQ];simpa using this
end Go.Proofs.YthfnndblgbjniaaGreatDoor
namespace Go.Proofs.YthfnndblgbjniaaGreatDoor
open Go.Sx Go.RowKit Go.Proofs.Tryz
variable{l:br}
theorem uF:ik l=true<->av l.cap 1 4=true/\av l.eH 0 l.cap=true/\av l.back 0 l.cap=true/\l.eH+l.back+l.queue.length=l.cap/\av l.e7 0 1000000000=true/\0<=l.de/\l.de=l.e7-l.queue.length/\(l.queue.any fun r=>!fb r)=false:=by
 simp only[ik,cH,i',kE,c3,and_assoc]
variable{g:b5}
theorem xW{i:Nat}:jT g i l=false<->ik l=true/\l.cap=g.cap/\gb g l.queue=true/\((i:Int).tdiv g.az=(i:Int).tmod g.az->l.queue=[]):=by
 simp only[jT,gX,lf,bne_eq_false_iff_eq,Bool.and_eq_false_imp,kE,nR];simp_all
variable{r:aD}
theorem ai8{i:Nat}(h:jT g i l=false)(aH:lD g r=false)(ak:(et l r).2=true)(aI:(i:Int).tdiv g.az≠(i:Int).tmod g.az):jT g i (et l r).1=false:=by
 obtain⟨U,aa,aB,aJ⟩:=xW.1 h;unfold et at ak ⊢;split
 ·rename_i ao;simp only[cH,bne_iff_ne,nQ,c3]at ao;obtain⟨⟨⟨_,np⟩,o4⟩,OR⟩:=ao;obtain⟨c7,bQ,fW,qa,j',od,kt,pf⟩:=uF.1 U;refine xW.2 ⟨uF.2 ⟨c7,?_,fW,?_,?_,od,?_,?_⟩,aa,K6.2 ⟨aB,aH⟩,fun e=>(aI e).elim⟩
  ·simp only[av,c3]at bQ ⊢;omega
  ·grind
  ·simp only[av,c3]at j' ⊢;omega
  ·grind
  grind
 grind
theorem EH{i:Nat}(h:jT g i l=false)(ak:(d' l).2.2=true):jT g i (d' l).1=false/\lD g (d' l).2.1=false:=by
 obtain⟨U,aa,aB,aJ⟩:=xW.1 h;obtain⟨c7,bQ,fW,qa,j',od,kt,pf⟩:=uF.1 U;unfold d' at ak ⊢;rw[bL U]at ak ⊢;split
 ·grind
 rename_i r q aL;rw[aL]at aB pf qa kt aJ;rw[sL]at aB;rw[B',gX]at pf;simp only[ic]at qa kt;refine⟨xW.2 ⟨uF.2 ⟨c7,bQ,?_,?_,j',?_,?_,pf.2⟩,aa,aB.2,fun e=>absurd (aJ e) (by simp)⟩,aB.1⟩
 ·simp only[av,c3]at bQ fW ⊢;omega
 ·grind
 ·grind
 grind
theorem ai9{i:Nat}(h:jT g i l=false):jT g i (fB l).1=false:=by
 obtain⟨U,aa,aB,aJ⟩:=xW.1 h;obtain⟨c7,bQ,fW,qa,j',od,kt,pf⟩:=uF.1 U;unfold fB;split
 ·rename_i ao;simp only[cH,bne_iff_ne,nQ]at ao;refine xW.2 ⟨uF.2 ⟨c7,?_,?_,?_,j',od,kt,pf⟩,aa,aB,aJ⟩
  ·simp only[av,c3]at bQ fW ⊢;omega
  ·simp only[av,c3]at bQ fW ⊢;omega
  grind
 exact h
theorem EI{a b:Int}(a':1<=g.az/\g.az<=4)(aj:av a 0 (g.az-1)=true)(ay:av b 0 (g.az-1)=true):
  fg g a b=a*g.az+b/\0<=a*g.az+b/\a*g.az+b<g.az*g.az/\(a*g.az+b).tdiv g.az=a/\(a*g.az+b).tmod g.az=b:=by
 have e:fg g a b=a*g.az+b:=by grind[fg]
 simp only[av,c3]at aj ay;generalize g.az=n at*;have b4:0<=a*n+b:=by have:=Int.mul_nonneg aj.1 (show 0<=n by omega);omega
 rw[Int.tdiv_eq_ediv_of_nonneg b4,Int.tmod_eq_emod_of_nonneg b4];have C0:n=1\/n=2\/n=3\/n=4:=by omega
 grind
variable{b:Int}
theorem uG{a:Int}(h:(av a 0 (g.az-1)&&av b 0 (g.az-1))=false):fg g a b=-1:=by
 grind[fg]
variable{n:Int}
theorem Td(key:Int)(a':1<=n):av (jx key n) 0 (n-1)=true:=by
 have U:=K1 key n (by omega);have aa:=Int.tmod_lt_of_pos key (show 0<n by omega);unfold jx;rw[bH (by omega)];simp only[av,c3];grind
variable{c:bi}
theorem xX(h:cP c=true){a:Int}(aj:av a 0 (c.aA.az-1)=true)(ay:av b 0 (c.aA.az-1)=true):∃l,hd c (fg c.aA a b)=some l:=by
 obtain⟨U,aa,aB,_⟩:=hL.1 h;obtain⟨e,b4,bO,_⟩:=EI (mc U) aj ay;simp_all[hd,bL,c2]
variable{i:Int}
theorem aja(h:hd c i=some l):((i.toNat:Nat):Int)=i:=by have:=(qA h).1;omega
theorem AE{c:bi}{i:Int}(b4:0<=i)(U:i<c.az.length):∃x,dh c i=some x:=by
 simp_all[dh,bL,c2]
variable{e:Int}
theorem ajb(h:cP c=true)(he:av e 0 3=true):∃t,jX c e=some t:=by
 have aJ:=(hL.1 h).2.2.2.1;simp only[av,c3]at he;unfold jX;rw[bL he.1];exact c2 (by omega)
variable{t:bW}
theorem xY:la n t=false<->(0<=t.place/\t.place<=n-1)/\(t.going=false->t.place=0)/\(-1000000<=t.sum/\t.sum<=1000000):=by
 simp only[la,av,gX,lf,c3,Bool.and_eq_false_imp,i',bne_eq_false_iff_eq]
theorem AF{j:Int}:dh (ea c i l) j=dh c j:=rfl
theorem z6{j:Int}:dh (dV c i t) j=dh c j:=rfl
theorem Te:(ea c i l).aA=c.aA:=rfl
theorem Tf:(dV c i t).aA=c.aA:=rfl
variable{x:aR}
theorem ajc:(setW c i x).aA=c.aA:=rfl
theorem ajd{w o:Int}{t:List aD}(h:cP c=true)(aq:dh c w=some x)(ak:x.ck=r::t)
  (bc:av o 0 (c.aA.az-1)=true) (db:o≠w) (ar:hd c (fg c.aA w o)=some l) (hsend:(et l r).2=true):
  cP (setW (ea c (fg c.aA w o) (et l r).1) w (mG (il x t) r.bw.bh))=av (x.bJ.getD r.bw.bh.toNat 0+1) (-1000000) 1000000:=by
 obtain⟨U,aa,_⟩:=hL.1 h;obtain⟨w0,w1,_⟩:=kR aq;obtain⟨ok,aH⟩:=ED (l1 h aq) ak;obtain⟨e,jr,IU,aaj,ayH⟩:=EI (mc U) (a:=w) (b:=o) (by simp only[av,c3];omega) bc;have cB:cP (ea c (fg c.aA w o) (et l r).1)=true:=by
  grind[K4,ai8,xP,aja]
 rw[uD cB (AF.trans aq),Te,ahs ok (qB aH)];rfl
theorem aje{w:Int}{t:List aD}(h:cP c=true)(aq:dh c w=some x)(ak:x.ck=r::t):cP (setW c w (kept (il x t) r))=true:=by
 grind[ED,l1,uD,ahp]
theorem ajf{k:Int}(h:cP c=true)(ar:hd c k=some l)(aq:dh c b=some x)(bZ:(d' l).2.2=true):
  cP (setW (ea c k (d' l).1) b (im x (d' l).2.1))=av (x.bJ.getD (d' l).2.1.bw.bh.toNat 0+-1) (-1000000) 1000000:=by
 obtain⟨c7,bQ⟩:=EH (xP h ar) bZ;have cB:cP (ea c k (d' l).1)=true:=by grind[K4]
 rw[uD cB (AF.trans aq),Te,agD (l1 h aq) bQ]
theorem ajg{c:bi}{w:Int}(h:cP c=true):cP (iS c w).1=true:=by
 unfold iS;rw[bL h];grind[uD,agO,l1]
theorem ajh{c:bi}{w:Int}(h:cP c=true):cP (iT c w).1=true:=by
 unfold iT;rw[bL h];grind[uD,agE,l1]
theorem aji{c:bi}{a b:Int}(h:cP c=true):cP (iV c a b).1=true:=by
 grind[iV,K4,ai9,xP]
theorem Tg{b:Bool}{m:Nat}(hm:(m:Int)=n-1)(he:av e 0 3=true):(hh m e b).any (lb n)=false:=by
 rw[hW];intro x aq;simp only[hh,mO,List.mem_range]at aq;obtain⟨k,ba,rfl⟩:=aq;have U:av ((k:Int)+1) 0 (n-1)=true:=by simp only[av,c3];omega
 simp_all[lb,ja,Bool.or_false,nM,not_false_eq_true]
theorem ajj{e9:aR}(h:cP c=true)(he:av e 0 3=true)(bZ:jX c e=some t)(aq:dh c t.place=some x)(b4:dh c 0=some e9)(aI:h5 e9 e=false):cP (eA c e t x).1=true:=by
 obtain⟨U,aa,aB,aJ,a6,bF,bY,dy⟩:=hL.1 h;have a':=mc U;obtain⟨t1,t2,t3⟩:=xY.1 (K5 h bZ);have ok:=l1 h aq;have VJ:∀dn:bW,la c.aA.az dn=false->cP (dV c e dn)=true:=fun dn k=>by grind[ahl]
 have both:∀dn:bW,la c.aA.az dn=false->cP (setW (dV c e dn) t.place (gr x e))=true:=fun dn k=>by
  rw[uD (VJ dn k) (z6.trans aq),Tf,ahq ok]
 unfold eA;split
 ·split
  ·exact both _ (xY.2 ⟨by grind,by simp,by simp⟩)
  rename_i ax;split
  ·split
   ·rename_i hp aH;simp only[av,c3]at aH;exact both _ (xY.2 ⟨by grind,by simp,aH⟩)
   exact h
  rename_i hp;have bz:t.place=0:=by omega
  have Pc:=VJ ⟨false,t.place,t.sum,t.bV,t.dx⟩ (xY.2 ⟨t1,fun _=>bz,t3⟩);split
  ·rw[bz]at aq;have ayu:e9=x:=by grind
   have kw:cP (setW (dV c e ⟨false,t.place,t.sum,t.bV,t.dx⟩) 0 (told x e (t.dx||x.bt.getD e.toNat false)))=true:=by
    rw[uD Pc (z6.trans aq),Tf];grind[TN]
   rw[TM kw,List.any_append];have e1:(setW (dV c e ⟨false,t.place,t.sum,t.bV,t.dx⟩) 0 (told x e (t.dx||x.bt.getD e.toNat false))).aA=c.aA:=rfl;grind[Tg]
  exact Pc
 exact h
theorem ajk{c:bi}{e:Int}(h:cP c=true):cP (h9 c e).1=true:=by
 unfold h9;split
 ·rename_i ao;rw[cH]at ao;grind[ajj]
 exact h
theorem Th{k:Nat}{n:bR}(h:cP c=true)(a':c.news[k]?=some n):lb c.aA.az n=false:=by
 have dy:=(hL.1 h).2.2.2.2.2.2.2;grind
theorem ajl{α:Type}{p:α->Bool}{xs:List α}{k:Nat}(h:xs.any p=false):(cutAt xs k).any p=false:=by
 rw[hW]at h ⊢;intro a aj;rcases lM.1 aj with aj | aj
 ·grind
 grind
theorem ajm{c:bi}{w:Int}(h:cP c=true):cP (jV c w).1=true:=by
 unfold jV;split
 ·rw[bL h];split
  ·rename_i n x a' aq;have ay:=Th h a';simp only[lb,gX,lf]at ay;have kw:cP (setW c w (hb x n))=true:=by grind[uD,ahr,l1]
   rw[TM kw,ajc,ajl (hL.1 h).2.2.2.2.2.2.2];rfl
  exact h
 exact h
theorem vF{α:Type}{sz:α->Nat}{y:α}(x:α):∀{xs:List α} {i:Nat},xs[i]?=some y->fr sz (xs.set i x)+sz y=fr sz xs+sz x
 | [],i,h=>by simp at h
 | a::xs,0,h=>by
  grind[fr,ic]
 | a::xs,i+1,h=>by
  have:=vF (sz:=sz) x (xs:=xs) (i:=i) (by simpa using h);simp only[fr,List.set_cons_succ,ic,mM,Gl]at this ⊢;omega
theorem uH{c:bi}{x y:aR}(h:dh c i=some y):(setW c i x).sz+y.sz=c.sz+x.sz:=by
 have:=vF (sz:=aR.sz) x (kR h).2.2;grind[setW,bi.sz]
theorem La{x y:br}(h:hd c i=some y):(ea c i x).sz+y.sz=c.sz+x.sz:=by
 have:=vF (sz:=br.sz) x (qA h).2.2;grind[ea,bi.sz]
theorem EJ{x:bW}:(dV c i x).sz=c.sz:=by
 grind[dV,bi.sz,hr]
theorem Ti{c:bi}{x:List bR}:(iu c x).sz+c.news.length=c.sz+x.length:=by
 grind[iu,bi.sz]
theorem Tj(g:b5)(w:aR):(eI g w).1.sz<=w.sz+2:=by
 unfold eI;split
 ·rename_i ao;rw[cH]at ao;split
  ·grind[afz,aR.sz,ic,eh,hr]
  grind
 grind
theorem Tk(g:b5)(w:aR):(eJ g w).1.sz<=w.sz:=by
 unfold eJ;split
 ·split
  ·grind[aR.sz,ic,eh]
  grind
 grind
theorem Lb{w:aR}{t:List aD}(h:w.ck=r::t):(il w t).sz+1=w.sz:=by
 grind[il,aR.sz,ic]
theorem ajn(w:aR)(r:aD):(kept w r).sz=w.sz+1:=by
 grind[kept,aR.sz,lL,ic,eh]
theorem ajo(w:aR)(e:Int):(mG w e).sz=w.sz:=by
 grind[mG,mx,aR.sz,hr]
theorem Tl(w:aR)(r:aD):(im w r).sz=w.sz+1:=by
 simp only[im,mx,aR.sz,hr,lL,ic,eh];omega
theorem ajp(w:aR)(e:Int):(gr w e).sz=w.sz:=by
 grind[gr,aR.sz,hr]
theorem Tm(w:aR)(e:Int)(b:Bool):(told w e b).sz=w.sz+1:=by
 grind[told,aR.sz,lL,ic,eh]
theorem ajq(w:aR)(n:bR):(hb w n).sz<=w.sz+1:=by
 grind[hb,Tm]
theorem Tn(l:br)(r:aD):(et l r).1.sz<=l.sz+1:=by
 grind[et,br.sz]
theorem To(l:br):(d' l).1.sz<=l.sz:=by
 unfold d';split
 ·split
  ·grind
  grind[br.sz]
 grind
theorem Tp(l:br):(fB l).1.sz=l.sz:=by
 unfold fB;split<;>rfl
theorem ajr{α:Type}(xs:List α)(k:Nat):(cutAt xs k).length<=xs.length:=by
 grind[cutAt,lL,uT,List.length_drop]
theorem ajs(hw:c.az.length<=4)(aq:dh c t.place=some x)(b4:0<=t.place):(eA c e t x).1.sz<=c.sz+4:=by
 unfold eA;have w1:∀dn,(setW (dV c e dn) t.place (gr x e)).sz+x.sz=c.sz+x.sz:=fun dn=>by
  have:=uH (c:=dV c e dn) (x:=gr x e) (z6.trans aq);grind[EJ,ajp]
 split
 ·split
  ·grind
  split
  ·grind
  rename_i hp;have bz:t.place=0:=by omega
  split
  ·rw[bz]at aq;have a:=uH (c:=dV c e ⟨false,t.place,t.sum,t.bV,t.dx⟩) (x:=told x e (t.dx||x.bt.getD e.toNat false)) (z6.trans aq);rw[EJ,Tm]at a;have b:=Ti (c:=setW (dV c e ⟨false,t.place,t.sum,t.bV,t.dx⟩) 0 (told x e (t.dx||x.bt.getD e.toNat false))) (x:=c.news++hh (c.az.length-1) e (t.dx||x.bt.getD e.toNat false));have d:(setW (dV c e ⟨false,t.place,t.sum,t.bV,t.dx⟩) 0 (told x e (t.dx||x.bt.getD e.toNat false))).news=c.news:=rfl;grind[lL,hh,cr,yI]
  grind[EJ]
 grind
theorem ajt(h:cP c=true):c.az.length<=4:=by
 obtain⟨U,aa,_⟩:=hL.1 h;have:=mc U;omega
theorem Tq(c:bi)(p:cf):(dC c p).1.sz<=c.sz+4:=by
 have dk:c.sz<=c.sz+4:=by omega
 unfold dC;split
 ·grind[iS,uH,eI,Tj]
 split
 ·grind[iT,uH,eJ,Tk]
 split
 ·unfold iU;split
  ·split
   ·rename_i x aq;split
    ·rename_i r t ak;have hu:=Lb ak;unfold uC;split
     ·grind[uH,kept,il,ajn]
     split
     ·rename_i l ar;split
      ·have a:=La (x:=(et l r).1) ar;have b:=uH (c:=ea c (fg c.aA p.a (jx r.key c.aA.az)) (et l r).1) (x:=mG (il x t) r.bw.bh) (AF.trans aq);grind[ajo,Tn]
      exact dk
     exact dk
    exact dk
   exact dk
  exact dk
 split
 ·unfold jU;split
  ·split
   ·rename_i l x ar aq;split
    ·have a:=La (x:=(d' l).1) ar;have b:=uH (c:=ea c (fg c.aA p.a p.b) (d' l).1) (x:=im x (d' l).2.1) (AF.trans aq);grind[Tl,To]
    exact dk
   exact dk
  exact dk
 split
 ·grind[iV,La,fB,Tp]
 split
 ·unfold h9;split
  ·rename_i ao;rw[cH]at ao;grind[ajs,ajt,kR]
  exact dk
 split
 ·unfold jV;split
  ·rename_i k ba;split
   ·split
    ·rename_i n x a' aq;have a:=uH (x:=hb x n) aq;grind[Ti,setW,hb,cutAt,ajq,ajr]
    exact dk
   exact dk
  exact dk
 exact dk
end Go.Proofs.YthfnndblgbjniaaGreatDoor
namespace Go.Proofs.YthfnndblgbjniaaGreatDoor
open Go.Sx Go.RowKit Go.Proofs.Tryz
def me(c:bi)(b:Bool):List D:=[.J 4 (c.aA.nodes.map Node.e),I c.aA.az,I c.aA.cap,.J 8 (c.az.map aR.e),.J 6 (c.bU.map br.e),.J 5 (c.tokens.map bW.e),.J 3 (c.news.map bR.e),B b]
abbrev fC(c:bi):List D:=me c (cP c)
theorem EK(w:aR)(e:Int)(r:Bool)(h:h5 w e=r)(hw:w.sz<=8388608):al 43 [.agg w.e,.one (I e)] [.one (B r)]:=h▸avh w e hw
theorem EL(c:bi)(ao:c.sz<=8388608)(hw:fs c):b3 prog 44 [.ro (.agg c.e)] (.new (fC c)):=
 agA ⟨ahC c ao,ahg c ao hw,ad⟩
variable{i:Nat}
theorem Lc{α:Type}{f:α->List D}{xs:List α}{a:α}:(xs.map f).set i (f a)=(xs.set i a).map f:=List.map_set.symm
variable{c:bi}{x:aR}
theorem lE{i:Int}(h:dh c i=some x):0<=i/\i<(↑(c.az.map aR.e).length:Int)/\(c.az.map aR.e)[i.toNat]?=some x.e:=by
 obtain⟨U,aa,aB⟩:=kR h;exact⟨U,by rw[cr];omega,bN aR.e aB⟩
theorem l2{i:Int}(h:dh c i=some x)(ao:c.sz<=8388608):x.sz<=8388608:=bi.Mv ao (eQ (kR h).2.2)
theorem aiE{l:List bR}(hi:i<l.length):([]++((l.map bR.e).drop 0).take (((some (i:Int)).getD (↑(l.map bR.e).length:Int)).toNat-0)++((l.map bR.e).drop ((some ((i:Int)+1)).getD 0).toNat).take ((l.map bR.e).length-((some ((i:Int)+1)).getD 0).toNat))=(cutAt l i).map bR.e:=by
 have e1:((i:Int)+1).toNat=i+1:=by omega
 simp only[cutAt,kZ,pA,Nat.sub_zero,wN,List.nil_append,e1,gx,rV,List.map_drop]
 congr 1
 rw[B8 (by simp)]
theorem Tr{l:List bR}:((l.map bR.e).drop ((some ((i:Int)+1)).getD 0).toNat).take ((l.map bR.e).length-((some ((i:Int)+1)).getD 0).toNat)=(l.drop (i+1)).map bR.e:=by
 have e1:((i:Int)+1).toNat=i+1:=by omega
 simp only[kZ,e1,List.map_drop];rw[B8 (by simp)]
theorem Ld(h:cP c=true){n:bR}(a':c.news[i]?=some n){w:Int}(hw:(n.dest==w)=true):∃x,dh c w=some x:=by
 have ay:=Th h a';simp only[lb,av,gX,lf,c3]at ay;have aa:=(hL.1 h).2.1;have e:=eq_of_beq hw;exact AE (by omega) (by omega)
theorem EM{α:Type}{f:α->List D}(h:∀a,∀d∈f a,∃x,d=.v x){l:List (List D)}{xs:List α}(ar:l=xs.map f):Flat l:=ar▸dE f h xs
theorem Ts{w:Int}{n:bR}(U:c.news.findIdx? (fun n=>n.dest==w)=some i)(cN:cP c=true)(a':c.news[i]?=some n)(aq:dh c w=some x):jV c w=(iu (setW c w (hb x n)) (cutAt c.news i),true):=by
 unfold jV;simp only[U,cN,gy,a',aq]
theorem aiF(c:bi)(w:Int)(ao:c.sz<=8388608):b3 prog 45 [.ref (fC c) (fC (jV c w).1),.ro (.one (I w))] (.vals [.one (B (jV c w).2)]):=by
 have ar:=vC ao;have C3:=fun h=>ajm (c:=c) (w:=w) h
 cases cN:cP c with
 | false=>
  have e:jV c w=(c,false):=by
   unfold jV;split<;>simp[cN]
  rw[e];simp only[fC,cN];cases a':c.news with
  | nil=>
   have l:c6 prog (ap f45 0) (qC w 0 (c.aA.nodes.map Node.e) c.aA.az c.aA.cap (c.az.map aR.e) (c.bU.map br.e) (c.tokens.map bW.e) (c.news.map bR.e) false) (.exit 0) _:=.last (cy 0) (TY ⟨by simp[a'],ad⟩);exact K9 ⟨l,ad⟩
  | cons a l=>
   have l:c6 prog (ap f45 0) (qC w 0 (c.aA.nodes.map Node.e) c.aA.az c.aA.cap (c.az.map aR.e) (c.bU.map br.e) (c.tokens.map bW.e) (c.news.map bR.e) false) (.exit 0) _:=.last (cy 0) (ah4 ⟨dm (by simp[a']<;>omega),rfl,ad⟩);exact K9 ⟨l,ad⟩
 | true=>
  have C3:=C3 cN;have l:=gI (P:=prog) (c:=(ap f45 0)) c.news (fun n=>n.dest==w) (fun i=>qC w i (c.aA.nodes.map Node.e) c.aA.az c.aA.cap (c.az.map aR.e) (c.bU.map br.e) (c.tokens.map bW.e) (c.news.map bR.e) true)
   (X:=fun i n=>match dh c w with
    | some x=>EE true (c.aA.nodes.map Node.e) c.aA.az c.aA.cap ((setW c w (hb x n)).az.map aR.e) (c.bU.map br.e) (c.tokens.map bW.e) ((cutAt c.news i).map bR.e) true
    | none=>⟨[],[]⟩) ff (cy 0)
   (fun i a aj h=>agB ⟨cc (a7 aj),rfl,bB,bI (a7 aj),bC bR.e aj,by simp only[bne,h];rfl,dc (a7 aj) ar,ad⟩)
   (fun i a aj h=>by
    obtain⟨x,aq⟩:=Ld cN aj h;have hi:=a7 aj;obtain⟨w0,w1,fO⟩:=lE aq;have ak:=l2 aq ao;simp only[aq];rw[<-aiE hi];cases aI:h5 x a.bh with
    | true=>
     rw[show hb x a=x by unfold hb;rw[aI];rfl,sK aq];exact ah3 ⟨cc hi,rfl,bB,bI hi,bC bR.e aj,by simp only[bne,h];rfl,by simp,by simp,by simp;omega,by simp;omega,by simp;omega,EM (xs:=c.news.take i) bR.flat (by simp),dc hi ar,by simp;omega,by simp;omega,by simp,by simp;omega,by simp;omega,EM (xs:=c.news.drop (i+1)) bR.flat Tr,w0,w1,fO,J1 x a.bh true aI ak,rfl,ad⟩
    | false=>
     have pX:x.bX.length<=8388608:=by simp only[aR.sz]at ak;omega
     have e2:(setW c w (hb x a)).az.map aR.e=(c.az.map aR.e).set w.toNat (told x a.bh a.dx).e:=by
      rw[show hb x a=told x a.bh a.dx by unfold hb;rw[aI];rfl];exact Lc.symm
     rw[e2];have cn:(told x a.bh a.dx).e=[.J 5 (x.queue.map aD.e),.J 5 (x.ck.map aD.e),.J 5 (x.cb.map aD.e),.J 4 (x.cells.map Cell.e),.J 1 (x.bJ.map bb),.J 1 (x.bV.map cp),.J 1 (x.bt.map cp),.J 2 (x.bX.map cz.e++[[I a.bh,B a.dx]])]:=by
      simp only[told,aR.e,gx];rfl
     rw[cn];exact agC ⟨cc hi,rfl,bB,bI hi,bC bR.e aj,by simp only[bne,h];rfl,by simp,by simp,by simp;omega,by simp;omega,by simp;omega,EM (xs:=c.news.take i) bR.flat (by simp),dc hi ar,by simp;omega,by simp;omega,by simp,by simp;omega,by simp;omega,EM (xs:=c.news.drop (i+1)) bR.flat Tr,w0,w1,fO,J1 x a.bh false aI ak,rfl,w0,w1,fO,by simp;omega,by simp;omega,fO,rfl,fA (cz.flat ⟨a.bh,a.dx⟩),rfl,rfl,rfl,rfl,rfl,rfl,rfl,rfl,rfl,rfl,rfl,w0,w1,fO,rfl,ad⟩)
   (TY ⟨dG,ad⟩)
  rcases l with⟨_,U,_,aa⟩ | ⟨i,a,aj,hp,_,U,_,aa⟩
  ·have e:jV c w=(c,false):=by unfold jV;simp only[U]
   rw[e];simp only[fC,cN];exact K9 ⟨aa,ad⟩
  obtain⟨x,aq⟩:=Ld cN aj hp;rw[Ts U cN aj aq]at C3 ⊢;simp only[aq]at aa;simp only[fC,cN,C3];exact ah5 ⟨aa,ad⟩
theorem aiG(c:bi)(w:Int)(ao:c.sz<=8388608)(hw:fs c):al 7 [.agg c.e,.one (I w)] [.agg (jV c w).1.e,.one (B (jV c w).2)]:=by
 have ar:=vC ao;have cx:=sM c ao;have kO:=ave c.news (fun n=>n.dest==w) 40 [.ptr [I w]] ar (by kernel_rfl) (fun x _=>ah6 trivial);have ok:=EA c ao hw;unfold l0 at kO;cases U:c.news.findIdx? (fun n=>n.dest==w) with
 | none=>
  simp only[U]at kO;rw[show jV c w=(c,false) by unfold jV;simp only[U]];exact ah7 ⟨cx,kO,dm (by omega),ad⟩
 | some i=>
  simp only[U]at kO;cases cN:cP c with
  | false=>
   rw[cN]at ok;rw[show jV c w=(c,false) by unfold jV;simp[U,cN]];exact ah8 ⟨cx,kO,dX (by omega),ok,rfl,ad⟩
  | true=>
   rw[cN]at ok;obtain⟨hi,hp,_⟩:=tg.1 U;have aj:c.news[i]?=some c.news[i]:=iB hi;generalize c.news[i]=a at aj hp;obtain⟨x,aq⟩:=Ld cN aj hp;obtain⟨w0,w1,fO⟩:=lE aq;have ak:=l2 aq ao;rw[Ts U cN aj aq];have dl:=ai7 c.news i (i+1) (by omega) (by omega);rw[show (((i+1:Nat):Int))=(i:Int)+1 by omega]at dl;cases aI:h5 x a.bh with
   | true=>
    rw[show hb x a=x by unfold hb;rw[aI];rfl,sK aq];exact aia ⟨cx,kO,dX (by omega),ok,rfl,bB,bI hi,bC bR.e aj,dc hi ar,dl,w0,w1,fO,EK x a.bh true aI ak,rfl,ad⟩
   | false=>
    have pX:x.bX.length<=8388608:=by simp only[aR.sz]at ak;omega
    have e2:(setW c w (hb x a)).az.map aR.e=(c.az.map aR.e).set w.toNat (told x a.bh a.dx).e:=by
     rw[show hb x a=told x a.bh a.dx by unfold hb;rw[aI];rfl];exact Lc.symm
    have cn:(told x a.bh a.dx).e=[.J 5 (x.queue.map aD.e),.J 5 (x.ck.map aD.e),.J 5 (x.cb.map aD.e),.J 4 (x.cells.map Cell.e),.J 1 (x.bJ.map bb),.J 1 (x.bV.map cp),.J 1 (x.bt.map cp),.J 2 (x.bX.map cz.e++[[I a.bh,B a.dx]])]:=by
     simp only[told,aR.e,gx];rfl
    have ed:(iu (setW c w (hb x a)) (cutAt c.news i)).e=[.J 4 (c.aA.nodes.map Node.e),I c.aA.az,I c.aA.cap,.J 8 ((c.az.map aR.e).set w.toNat (told x a.bh a.dx).e),.J 6 (c.bU.map br.e),.J 5 (c.tokens.map bW.e),.J 3 ((cutAt c.news i).map bR.e)]:=by
     rw[<-e2];rfl
    rw[ed,cn];exact ah9 ⟨cx,kO,dX (by omega),ok,rfl,bB,bI hi,bC bR.e aj,dc hi ar,dl,w0,w1,fO,EK x a.bh false aI ak,rfl,w0,w1,fO,by simp;omega,by simp;omega,fO,rfl,fA (cz.flat ⟨a.bh,a.dx⟩),rfl,rfl,rfl,rfl,rfl,rfl,rfl,rfl,w0,w1,fO,rfl,ad⟩
end Go.Proofs.YthfnndblgbjniaaGreatDoor
namespace Go.Proofs.YthfnndblgbjniaaGreatDoor
open Go.Sx Go.RowKit Go.Proofs.Tryz
theorem NT(a b:Nat):(((a:Int)+(b:Int))==0)=(a+b==0):=by
 rw[Bool.eq_iff_iff];simp only[kE];omega
theorem aiH(w:aR)(e:Int)(hw:w.sz<=8388608):al 199 [.agg w.e,.one (I e)] [.one (B (vD w e))]:=by
 have ar:w.cb.length<=8388608:=by simp only[aR.sz]at hw;omega
 have l:=gI (P:=prog) (c:=(ap f199 0)) w.cb (fun r=>decide (r.bw.bh<=e)) (fun i=>vE (w.queue.map aD.e) (w.ck.map aD.e) (w.cb.map aD.e) (w.cells.map Cell.e) (w.bJ.map bb) (w.bV.map cp) (w.bt.map cp) (w.bX.map cz.e) e i) (X:=fun _ _=>K' true) ff (cy 0)
  (fun i a aj h=>ahY ⟨cc (a7 aj),bB,bI (a7 aj),bC aD.e aj,h,dc (a7 aj) ar,ad⟩)
  (fun i a aj h=>ahX ⟨cc (a7 aj),bB,bI (a7 aj),bC aD.e aj,h,ad⟩)
  (ahZ ⟨dG,ad⟩)
 unfold vD;rcases l with⟨_,_,U,aa⟩ | ⟨i,a,_,_,_,_,U,aa⟩
 ·rw[U];exact ah1 ⟨aa,ad⟩
 rw[U];exact ah0 ⟨aa,ad⟩
theorem aiI(w:aR)(e:Int)(hw:w.sz<=8388608):al 153 [.agg w.e,.one (I e)] [.one (B (vD w e))]:=by
 have ar:w.cb.length<=8388608:=by simp only[aR.sz]at hw;omega
 exact ahv ⟨avb w.cb (fun r=>decide (r.bw.bh<=e)) 192 [.ptr [I e]] ar (by kernel_rfl) (fun x _=>ahw trivial),ad⟩
theorem aiJ(w:aR)(e:Int)(hw:w.sz<=8388608):al 200 [.agg w.e,.one (I e)] [.one (I ((↑((l8 e w.queue).map aD.e).length:Int)+(↑((l8 e w.ck).map aD.e).length:Int)))]:=by
 simp only[aR.sz]at hw;have c7:(l8 e w.queue).length<=w.queue.length:=pC _ _;have bQ:(l8 e w.ck).length<=w.ck.length:=pC _ _;exact ahu ⟨SQ w.queue e (by omega),SQ w.ck e (by omega),⟨by simp only[cr];omega,by simp only[cr];omega⟩,ad⟩
theorem aiK(w:aR)(e:Int)(hw:w.sz<=8388608):al 165 [.agg w.e,.one (I e)] [.one (B (kh w e))]:=by
 have o:=aiH w e hw;unfold kh;cases h:vD w e with
 | true=>rw[h]at o;exact aht ⟨o,rfl,ad⟩
 | false=>
  rw[h]at o;have a:=aiJ w e hw;rw[cr,cr]at a;have b:=ah2 ⟨o,rfl,a,ad⟩;rw[NT]at b;exact b
theorem aiL(w:aR)(e:Int)(hw:w.sz<=8388608):al 154 [.agg w.e,.one (I e)] [.one (I ((↑((l8 e w.queue).map aD.e).length:Int)+(↑((l8 e w.ck).map aD.e).length:Int)))]:=by
 simp only[aR.sz]at hw;have c7:(l8 e w.queue).length<=w.queue.length:=pC _ _;have bQ:(l8 e w.ck).length<=w.ck.length:=pC _ _;exact ahz ⟨SR w.queue e (by omega),SR w.ck e (by omega),⟨by simp only[cr];omega,by simp only[cr];omega⟩,ad⟩
theorem aiM(w:aR)(e:Int)(hw:w.sz<=8388608):al 109 [.agg w.e,.one (I e)] [.one (B (kh w e))]:=by
 have o:=aiI w e hw;unfold kh;cases h:vD w e with
 | true=>rw[h]at o;exact ahy ⟨o,rfl,ad⟩
 | false=>
  rw[h]at o;have a:=aiL w e hw;rw[cr,cr]at a;have b:=ahx ⟨o,rfl,a,ad⟩;rw[NT]at b;exact b
theorem Tt(w:aR)(e:Int)(r:Bool)(h:kh w e=r)(hw:w.sz<=8388608):al 165 [.agg w.e,.one (I e)] [.one (B r)]:=h▸aiK w e hw
theorem Tu(w:aR)(e:Int)(r:Bool)(h:kh w e=r)(hw:w.sz<=8388608):al 109 [.agg w.e,.one (I e)] [.one (B r)]:=h▸aiM w e hw
end Go.Proofs.YthfnndblgbjniaaGreatDoor
namespace Go.Proofs.YthfnndblgbjniaaGreatDoor
open Go.Sx Go.RowKit Go.Proofs.Tryz
variable{c:bi}{i:Int}
theorem Tv{t:bW}(h:jX c i=some t):0<=i/\i<(↑(c.tokens.map bW.e).length:Int)/\(c.tokens.map bW.e)[i.toNat]?=some t.e:=by
 obtain⟨U,aa,aB⟩:=EC h;exact⟨U,by rw[cr];omega,bN bW.e aB⟩
variable{e:Int}
theorem xt{xs:List Int}(aJ:xs.length=4)(he:0<=e/\e<=3):e<(↑(xs.map bb).length:Int)/\(xs.map bb)[e.toNat]?=some [I (xs.getD e.toNat 0)]:=by
 have ar:e.toNat<xs.length:=by omega
 refine⟨by rw[cr];omega,?_⟩;rw[dP,iB ar,kY,iB ar];rfl
theorem qU{xs:List Bool}(aJ:xs.length=4)(he:0<=e/\e<=3):e<(↑(xs.map cp).length:Int)/\(xs.map cp)[e.toNat]?=some [B (xs.getD e.toNat false)]:=by
 have ar:e.toNat<xs.length:=by omega
 refine⟨by rw[cr];omega,?_⟩;rw[dP,iB ar,kY,iB ar];rfl
variable{l:List (List D)}{a:List D}
theorem hv(b4:0<=i)(h:i<(↑l.length:Int)):(l.set i.toNat a)[i.toNat]?=some a:=List.getElem?_set_self (by omega)
theorem tx{b:List D}(b4:0<=i)(h:i<(↑l.length:Int)):((l.set i.toNat a).set i.toNat b)[i.toNat]?=some b:=by rw[pB];exact hv b4 h
theorem tz{b d:List D}(b4:0<=i)(h:i<(↑l.length:Int)):(((l.set i.toNat a).set i.toNat b).set i.toNat d)[i.toNat]?=some d:=by rw[pB,pB];exact hv b4 h
theorem Ec(x:aR)(e:Int):(gr x e).e=[.J 5 (x.queue.map aD.e),.J 5 (x.ck.map aD.e),.J 5 (x.cb.map aD.e),.J 4 (x.cells.map Cell.e),.J 1 (x.bJ.map bb),.J 1 ((x.bV.map cp).set e.toNat [B false]),.J 1 (x.bt.map cp),.J 2 (x.bX.map cz.e)]:=by
 simp only[gr,aR.e,ib];rfl
theorem Tw(x:aR)(e:Int)(b:Bool):(told x e b).e=[.J 5 (x.queue.map aD.e),.J 5 (x.ck.map aD.e),.J 5 (x.cb.map aD.e),.J 4 (x.cells.map Cell.e),.J 1 (x.bJ.map bb),.J 1 (x.bV.map cp),.J 1 (x.bt.map cp),.J 2 (x.bX.map cz.e++[[I e,B b]])]:=by
 simp only[told,aR.e,gx];rfl
theorem Tx(c:bi)(e p:Int)(t:bW)(y:aR):(setW (dV c e t) p y).e=[.J 4 (c.aA.nodes.map Node.e),I c.aA.az,I c.aA.cap,.J 8 ((c.az.map aR.e).set p.toNat y.e),.J 6 (c.bU.map br.e),.J 5 ((c.tokens.map bW.e).set e.toNat t.e),.J 3 (c.news.map bR.e)]:=by
 simp only[setW,dV,bi.e,ib]
theorem Le(c:bi)(e:Int)(t:bW):(dV c e t).e=[.J 4 (c.aA.nodes.map Node.e),I c.aA.az,I c.aA.cap,.J 8 (c.az.map aR.e),.J 6 (c.bU.map br.e),.J 5 ((c.tokens.map bW.e).set e.toNat t.e),.J 3 (c.news.map bR.e)]:=by
 simp only[dV,bi.e,ib]
theorem Ty(c:bi)(e p:Int)(t:bW)(y:aR)(b:Bool):me (setW (dV c e t) p y) b=[.J 4 (c.aA.nodes.map Node.e),I c.aA.az,I c.aA.cap,.J 8 ((c.az.map aR.e).set p.toNat y.e),.J 6 (c.bU.map br.e),.J 5 ((c.tokens.map bW.e).set e.toNat t.e),.J 3 (c.news.map bR.e),B b]:=by
 simp only[setW,dV,me,ib]
theorem aiN(c:bi)(e:Int)(t:bW)(b:Bool):me (dV c e t) b=[.J 4 (c.aA.nodes.map Node.e),I c.aA.az,I c.aA.cap,.J 8 (c.az.map aR.e),.J 6 (c.bU.map br.e),.J 5 ((c.tokens.map bW.e).set e.toNat t.e),.J 3 (c.news.map bR.e),B b]:=by
 simp only[dV,me,ib]
theorem Lf(n:Nat)(e:Int)(b:Bool):hh (n+1) e b=hh n e b++[⟨(n:Int)+1,e,b⟩]:=by simp[hh,List.range_succ]
theorem Lg(n:Nat)(e:Int)(b:Bool):(hh n e b).length=n:=by simp[hh]
theorem Tz{e9 x:aR}{t:bW}(ok:cP c=true)(he:av e 0 3=true)(b4:dh c 0=some e9)(bZ:jX c e=some t)(aI:h5 e9 e=false)(aq:dh c t.place=some x):h9 c e=eA c e t x:=by
 unfold h9;simp only[ok,he,Bool.and_self,gy,b4,bZ,aI,nM,lN,aq]
theorem S1(ok:cP c=true)(he:av e 0 3=true):∃e9 t x,dh c 0=some e9/\jX c e=some t/\dh c t.place=some x/\0<c.az.length/\c.az.length<=4/\
  (0<=t.place/\t.place<=3)/\(t.going=false->t.place=0)/\(-1000000<=t.sum/\t.sum<=1000000)/\x.bJ.length=4/\x.bV.length=4/\x.bt.length=4/\(-1000000<=x.bJ.getD e.toNat 0/\x.bJ.getD e.toNat 0<=1000000):=by
 obtain⟨U,aa,aB,aJ,a6,bF,bY,dy⟩:=hL.1 ok;have a':=mc U;obtain⟨e9,b4⟩:=AE (c:=c) (i:=0) (by omega) (by omega);obtain⟨t,bZ⟩:=ajb ok he;obtain⟨t1,t2,t3⟩:=xY.1 (K5 ok bZ);obtain⟨x,aq⟩:=AE (c:=c) (i:=t.place) (by omega) (by omega);obtain⟨_,_,_,_,j',od,kt,_,sw,_⟩:=jy.1 (l1 ok aq);refine⟨e9,t,x,b4,bZ,aq,by omega,by omega,by omega,t2,t3,j',od,kt,?_⟩;simp only[av,c3]at he;have ar:e.toNat<x.bJ.length:=by omega
 rw[hW]at sw;have:=sw _ (oP ar);rw[kY,iB ar,kZ];simpa only[nD,i',lf,av,c3,uV,Bool.not_not,Bool.not_eq_eq_eq_not,ja,nR,Classical.not_not]using this
theorem S2(c:bi)(e:Int)(x:aR)(r:Bool)(b4:dh c 0=some x)(aI:h5 x e=r)(ao:c.sz<=8388608):al 164 [.agg c.e,.one (I e)] [.one (B r)]:=by
 obtain⟨w0,w1,fO⟩:=lE b4;exact ahW ⟨dm (by omega),w0,w1,fO,J1 x e r aI (l2 b4 ao),ad⟩
theorem aiO(c:bi)(b:Bool)(x:aR)(e:Int)(cap:Bool)(b4:dh c 0=some x)(aJ:c.az.length<=4)(ao:c.sz<=8388608):
  b3 prog 166 [.ref (me c b) (me (iu (setW c 0 (told x e cap)) (c.news++hh (c.az.length-1) e cap)) b),.ro (.one (I e)),.ro (.one (B cap))] (.vals []):=by
 obtain⟨w0,w1,fO⟩:=lE b4;have a':=vC ao;have ak:=l2 b4 ao;have pX:x.bX.length<=8388608:=by simp only[aR.sz]at ak;omega
 have hlen:=(kR b4).2.1;have tC:((setW c 0 (told x e cap)).az.map aR.e).length=c.az.length:=by simp[setW]
 have l:=er (P:=prog) (c:=(ap f166 0)) (cy 0) (c.az.length-1) (fun i:Nat=>AD e cap ((i:Int)+1) (c.aA.nodes.map Node.e) c.aA.az c.aA.cap ((setW c 0 (told x e cap)).az.map aR.e) (c.bU.map br.e) (c.tokens.map bW.e) ((c.news++hh i e cap).map bR.e) b) (fun i hi=>by
  have hm:=Lg i e cap;rw[Lf,<-mN,gx (l₂:=[_])];exact aib ⟨dm (by rw[tC];omega),by simp;omega,by simp;omega,fA (bR.flat ⟨(i:Int)+1,e,cap⟩),⟨by omega,by omega⟩,ad⟩) (aic ⟨dX (by rw[tC];omega),ad⟩)
 have e2:(setW c 0 (told x e cap)).az.map aR.e=(c.az.map aR.e).set 0 [.J 5 (x.queue.map aD.e),.J 5 (x.ck.map aD.e),.J 5 (x.cb.map aD.e),.J 4 (x.cells.map Cell.e),.J 1 (x.bJ.map bb),.J 1 (x.bV.map cp),.J 1 (x.bt.map cp),.J 2 (x.bX.map cz.e++[[I e,B cap]])]:=by
  rw[<-Tw];exact Lc.symm
 have bz:hh 0 e cap=[]:=rfl;rw[e2,bz,iz]at l;have hP:me (iu (setW c 0 (told x e cap)) (c.news++hh (c.az.length-1) e cap)) b=[.J 4 (c.aA.nodes.map Node.e),I c.aA.az,I c.aA.cap,.J 8 ((setW c 0 (told x e cap)).az.map aR.e),.J 6 (c.bU.map br.e),.J 5 (c.tokens.map bW.e),.J 3 ((c.news++hh (c.az.length-1) e cap).map bR.e),B b]:=rfl;rw[hP,e2];exact aid ⟨by omega,w1,fO,by simp;omega,by simp;omega,fO,rfl,fA (cz.flat ⟨e,cap⟩),rfl,rfl,rfl,rfl,rfl,rfl,rfl,by omega,w1,fO,rfl,l,ad⟩
theorem aiP(c:bi)(e:Int)(ao:c.sz<=8388608):b3 prog 115 [.ref (fC c) (fC (h9 c e).1),.ro (.one (I e))] (.vals [.one (B (h9 c e).2)]):=by
 have post:=fun h=>ajk (c:=c) (e:=e) h
 cases ok:cP c with
 | false=>
  rw[show h9 c e=(c,false) by unfold h9;simp[ok]];simp only[fC,ok];exact aie ⟨rfl,ad⟩
 | true=>
 replace post:=post ok;cases he:av e 0 3 with
 | false=>
  rw[show h9 c e=(c,false) by unfold h9;simp[he]];simp only[fC,ok];exact aif ⟨rfl,fM _ _ _ _ he,rfl,ad⟩
 | true=>
 have he:=he;obtain⟨e9,t,x,b4,bZ,aq,xg,tJ,OJ,Hs,Zx,p9,vd,xa,xp⟩:=S1 ok he;have pZ:0<=e/\e<=3:=by simpa only[av,c3]using he
 obtain⟨cl,dF,dp⟩:=Tv bZ;obtain⟨cV,c4,cj⟩:=lE aq;obtain⟨aw8,nJ,nK⟩:=lE b4;obtain⟨iY,iZ⟩:=xt p9 pZ;obtain⟨jl,hS⟩:=qU vd pZ;obtain⟨r4,r5⟩:=qU xa pZ;have dI:=l2 aq ao;have pX:x.bX.length<=8388608:=by simp only[aR.sz]at dI;omega
 have CY:(↑(c.az.map aR.e).length:Int)=(c.az.length:Int):=by rw[cr]
 cases aI:h5 e9 e with
 | true=>
  rw[show h9 c e=(c,false) by unfold h9;simp only[ok,he,Bool.and_self,gy,b4,bZ,aI]];simp only[fC,ok];exact aih ⟨rfl,fM _ _ _ _ he,rfl,S2 c e e9 true b4 aI ao,rfl,ad⟩
 | false=>
 rw[Tz ok he b4 bZ aI aq]at post ⊢;have rd:=S2 c e e9 false b4 aI ao;have ia:=fM _ _ _ _ he;cases hp:kh x e with
 | false=>
  rw[show eA c e t x=(c,false) by unfold eA;simp[hp]];simp only[fC,ok];exact aii ⟨rfl,ia,rfl,rd,rfl,cl,dF,dp,cV,c4,cj,Tt x e _ hp dI,rfl,ad⟩
 | true=>
 have jt:=Tt x e _ hp dI;have hG:aK .i64 (t.sum+x.bJ.getD e.toNat 0):=⟨by omega,by omega⟩
 simp only[fC,ok,post];clear post;obtain⟨Ft,ld,ts,tb,eC⟩:=t;dsimp only at*;cases Ft with
 | false=>
  obtain rfl:ld=0:=Hs rfl;rw[show eA c e ⟨false,0,ts,tb,eC⟩ x=(setW (dV c e ⟨true,(c.az.length:Int)-1,0,false,x.bt.getD e.toNat false⟩) 0 (gr x e),true) by simp only[eA,hp,gy,nN]];dsimp only;rw[Ty,Ec,<-CY];exact aij ⟨rfl,ia,rfl,rd,rfl,cl,dF,dp,cV,c4,cj,jt,rfl,cl,iY,iZ,hG,rfl,⟨by omega,by omega⟩,cl,r4,r5,cl,dF,dp,by omega,c4,cj,cl,jl,hS,cj,rfl,rfl,rfl,rfl,rfl,ad⟩
 | true=>
 by_cases lv:0<ld
 case pos=>
  have je:decide (ld>0)=true:=dm lv;cases aH:av (ts+x.bJ.getD e.toNat 0) (-1000000) 1000000 with
  | false=>
   rw[show eA c e ⟨true,ld,ts,tb,eC⟩ x=(c,false) by simp only[eA,hp,gy,ja,nM,lN,lv,aH]];exact aik ⟨rfl,ia,rfl,rd,rfl,cl,dF,dp,cV,c4,cj,jt,rfl,cl,iY,iZ,hG,rfl,je,fM _ _ _ _ aH,rfl,ad⟩
  | true=>
   have e1:eA c e ⟨true,ld,ts,tb,eC⟩ x=(setW (dV c e ⟨true,ld-1,ts+x.bJ.getD e.toNat 0,tb||x.bV.getD e.toNat false,eC||x.bt.getD e.toNat false⟩) ld (gr x e),true):=by
    simp only[eA,hp,gy,ja,nM,lN,lv,aH]
   rw[e1];dsimp only;rw[Ty,Ec];have wr:=fM _ _ _ _ aH;cases tb with
   | true=>
    cases eC with
    | true=>exact ail ⟨rfl,ia,rfl,rd,rfl,cl,dF,dp,cV,c4,cj,jt,rfl,cl,iY,iZ,hG,rfl,je,wr,rfl,⟨by omega,by omega⟩,rfl,rfl,cl,dF,dp,cV,c4,cj,cl,jl,hS,cj,rfl,rfl,rfl,rfl,rfl,ad⟩
    | false=>exact aim ⟨rfl,ia,rfl,rd,rfl,cl,dF,dp,cV,c4,cj,jt,rfl,cl,iY,iZ,hG,rfl,je,wr,rfl,⟨by omega,by omega⟩,rfl,rfl,cl,r4,r5,cl,dF,dp,cV,c4,cj,cl,jl,hS,cj,rfl,rfl,rfl,rfl,rfl,ad⟩
   | false=>
    cases eC with
    | true=>exact ain ⟨rfl,ia,rfl,rd,rfl,cl,dF,dp,cV,c4,cj,jt,rfl,cl,iY,iZ,hG,rfl,je,wr,rfl,⟨by omega,by omega⟩,rfl,cl,jl,hS,rfl,cl,dF,dp,cV,c4,cj,cl,jl,hS,cj,rfl,rfl,rfl,rfl,rfl,rfl,rfl,ad⟩
    | false=>exact aio ⟨rfl,ia,rfl,rd,rfl,cl,dF,dp,cV,c4,cj,jt,rfl,cl,iY,iZ,hG,rfl,je,wr,rfl,⟨by omega,by omega⟩,rfl,cl,jl,hS,rfl,cl,r4,r5,cl,dF,dp,cV,c4,cj,cl,jl,hS,cj,rfl,rfl,rfl,rfl,rfl,rfl,rfl,ad⟩
 case neg=>
  obtain rfl:ld=0:=by omega
  have je:decide ((0:Int)>0)=false:=rfl;have e1:=fun b=>aiN c e ⟨false,0,ts,tb,eC⟩ b
  have ends:=fun cap=>aiO (dV c e ⟨false,0,ts,tb,eC⟩) true x e cap (z6.trans aq) tJ (by rw[EJ];exact ao)
  rw[e1]at ends;cases tb with
  | true=>
   rw[show eA c e ⟨true,0,ts,true,eC⟩ x=(dV c e ⟨false,0,ts,true,eC⟩,true) by simp[eA,hp]];dsimp only;rw[e1];exact ait ⟨rfl,ia,rfl,rd,rfl,cl,dF,dp,cV,c4,cj,jt,rfl,cl,iY,iZ,hG,rfl,je,cl,dF,dp,rfl,ad⟩
  | false=>
  cases ba:x.bV.getD e.toNat false with
  | true=>
   rw[ba]at hS;rw[show eA c e ⟨true,0,ts,false,eC⟩ x=(dV c e ⟨false,0,ts,false,eC⟩,true) by unfold eA;simp only[hp,ba];rfl];dsimp only;rw[e1];exact ais ⟨rfl,ia,rfl,rd,rfl,cl,dF,dp,cV,c4,cj,jt,rfl,cl,iY,iZ,hG,rfl,je,cl,dF,dp,rfl,cl,jl,hS,rfl,ad⟩
  | false=>
  rw[ba]at hS;cases bp:(ts+x.bJ.getD e.toNat 0==0) with
  | false=>
   rw[show eA c e ⟨true,0,ts,false,eC⟩ x=(dV c e ⟨false,0,ts,false,eC⟩,true) by unfold eA;simp only[hp,ba,bp];rfl];dsimp only;rw[e1];exact air ⟨rfl,ia,rfl,rd,rfl,cl,dF,dp,cV,c4,cj,jt,rfl,cl,iY,iZ,hG,rfl,je,cl,dF,dp,rfl,cl,jl,hS,rfl,bp,ad⟩
  | true=>
  rw[show eA c e ⟨true,0,ts,false,eC⟩ x=(iu (setW (dV c e ⟨false,0,ts,false,eC⟩) 0 (told x e (eC||x.bt.getD e.toNat false))) (c.news++hh (c.az.length-1) e (eC||x.bt.getD e.toNat false)),true) by unfold eA;simp only[hp,ba,bp];rfl];cases eC with
  | true=>exact aip ⟨rfl,ia,rfl,rd,rfl,cl,dF,dp,cV,c4,cj,jt,rfl,cl,iY,iZ,hG,rfl,je,cl,dF,dp,rfl,cl,jl,hS,rfl,bp,rfl,ends true,ad⟩
  | false=>exact aiq ⟨rfl,ia,rfl,rd,rfl,cl,dF,dp,cV,c4,cj,jt,rfl,cl,iY,iZ,hG,rfl,je,cl,dF,dp,rfl,cl,jl,hS,rfl,bp,rfl,cl,r4,r5,ends _,ad⟩
theorem aiQ(c:bi)(e:Int)(W T:List (List D))(hlen:0<c.az.length)(aJ:c.az.length<=4)(ao:c.sz<=8388608):c6 prog (ap f62 0) (xQ e 1 (c.aA.nodes.map Node.e) c.aA.az c.aA.cap W (c.bU.map br.e) T (c.news.map bR.e) 0 0 (c.aA.nodes.map Node.e) c.aA.az c.aA.cap (c.az.map aR.e) (c.bU.map br.e) (c.tokens.map bW.e) (c.news.map bR.e)) (.exit 1) (xR (c.aA.nodes.map Node.e) c.aA.az c.aA.cap W (c.bU.map br.e) T ((c.news++hh (c.az.length-1) e true).map bR.e) 0 0):=by
 have a':=vC ao;have l:=er (P:=prog) (c:=(ap f62 0)) (cy 1) (c.az.length-1) (fun i:Nat=>xQ e ((i:Int)+1) (c.aA.nodes.map Node.e) c.aA.az c.aA.cap W (c.bU.map br.e) T ((c.news++hh i e true).map bR.e) 0 0 (c.aA.nodes.map Node.e) c.aA.az c.aA.cap (c.az.map aR.e) (c.bU.map br.e) (c.tokens.map bW.e) (c.news.map bR.e)) (fun i hi=>by
  have hm:=Lg i e true;rw[Lf,<-mN,gx (l₂:=[_])];exact ahN ⟨dm (by simp;omega),by simp;omega,by simp;omega,fA (bR.flat ⟨(i:Int)+1,e,true⟩),⟨by omega,by omega⟩,ad⟩) (ahO ⟨dX (by simp;omega),ad⟩)
 have bz:hh 0 e true=[]:=rfl;rw[bz,iz]at l;exact l
theorem aiR(c:bi)(e:Int)(cap:Bool)(W T:List (List D))(hlen:0<c.az.length)(aJ:c.az.length<=4)(ao:c.sz<=8388608):c6 prog (ap f62 0) (xS e cap 1 (c.aA.nodes.map Node.e) c.aA.az c.aA.cap W (c.bU.map br.e) T (c.news.map bR.e) 0 0 (c.aA.nodes.map Node.e) c.aA.az c.aA.cap (c.az.map aR.e) (c.bU.map br.e) (c.tokens.map bW.e) (c.news.map bR.e)) (.exit 1) (xR (c.aA.nodes.map Node.e) c.aA.az c.aA.cap W (c.bU.map br.e) T ((c.news++hh (c.az.length-1) e cap).map bR.e) 0 0):=by
 have a':=vC ao;have l:=er (P:=prog) (c:=(ap f62 0)) (cy 1) (c.az.length-1) (fun i:Nat=>xS e cap ((i:Int)+1) (c.aA.nodes.map Node.e) c.aA.az c.aA.cap W (c.bU.map br.e) T ((c.news++hh i e cap).map bR.e) 0 0 (c.aA.nodes.map Node.e) c.aA.az c.aA.cap (c.az.map aR.e) (c.bU.map br.e) (c.tokens.map bW.e) (c.news.map bR.e)) (fun i hi=>by
  have hm:=Lg i e cap;rw[Lf,<-mN,gx (l₂:=[_])];exact ahQ ⟨dm (by simp;omega),by simp;omega,by simp;omega,fA (bR.flat ⟨(i:Int)+1,e,cap⟩),⟨by omega,by omega⟩,ad⟩) (ahR ⟨dX (by simp;omega),ad⟩)
 have bz:hh 0 e cap=[]:=rfl;rw[bz,iz]at l;exact l
theorem aiS(c:bi)(e:Int)(ao:c.sz<=8388608)(hw:fs c):al 62 [.agg c.e,.one (I e)] [.agg (h9 c e).1.e,.one (B (h9 c e).2)]:=by
 have cx:=sM c ao;have lz:=EA c ao hw;cases ok:cP c with
 | false=>
  rw[ok]at lz;rw[show h9 c e=(c,false) by unfold h9;simp[ok]];exact ahD ⟨cx,lz,rfl,ad⟩
 | true=>
 rw[ok]at lz;cases he:av e 0 3 with
 | false=>
  rw[show h9 c e=(c,false) by unfold h9;simp[he]];exact ahE ⟨cx,lz,rfl,hl _ he,rfl,ad⟩
 | true=>
 have he:=he;obtain⟨e9,t,x,b4,bZ,aq,xg,tJ,OJ,Hs,Zx,p9,vd,xa,xp⟩:=S1 ok he;have pZ:0<=e/\e<=3:=by simpa only[av,c3]using he
 obtain⟨cl,dF,dp⟩:=Tv bZ;obtain⟨cV,c4,cj⟩:=lE aq;obtain⟨aw8,nJ,nK⟩:=lE b4;obtain⟨iY,iZ⟩:=xt p9 pZ;obtain⟨jl,hS⟩:=qU vd pZ;obtain⟨r4,r5⟩:=qU xa pZ;have dI:=l2 aq ao;have pX:x.bX.length<=8388608:=by simp only[aR.sz]at dI;omega
 have CY:(↑(c.az.map aR.e).length:Int)=(c.az.length:Int):=by rw[cr]
 have ia:=hl _ he;cases aI:h5 e9 e with
 | true=>
  rw[show h9 c e=(c,false) by unfold h9;simp only[ok,he,Bool.and_self,gy,b4,bZ,aI]];exact ahF ⟨cx,lz,rfl,ia,rfl,by omega,nJ,nK,EK e9 e true aI (l2 b4 ao),rfl,ad⟩
 | false=>
 have dd:=EK e9 e false aI (l2 b4 ao);rw[Tz ok he b4 bZ aI aq];cases hp:kh x e with
 | false=>
  rw[show eA c e t x=(c,false) by unfold eA;simp[hp]];exact ahG ⟨cx,lz,rfl,ia,rfl,by omega,nJ,nK,dd,rfl,cl,dF,dp,cV,c4,cj,Tu x e _ hp dI,rfl,ad⟩
 | true=>
 have jt:=Tu x e _ hp dI;have hG:aK .i64 (t.sum+x.bJ.getD e.toNat 0):=⟨by omega,by omega⟩
 obtain⟨Ft,ld,ts,tb,eC⟩:=t;dsimp only at*;cases Ft with
 | false=>
  obtain rfl:ld=0:=Hs rfl;rw[show eA c e ⟨false,0,ts,tb,eC⟩ x=(setW (dV c e ⟨true,(c.az.length:Int)-1,0,false,x.bt.getD e.toNat false⟩) 0 (gr x e),true) by simp only[eA,hp,gy,nN]];dsimp only;rw[Tx,Ec,<-CY];exact ahH ⟨cx,lz,rfl,ia,rfl,by omega,nJ,nK,dd,rfl,cl,dF,dp,cV,c4,cj,jt,rfl,dp,rfl,cj,cl,r4,r5,⟨by omega,by omega⟩,dp,cj,cl,jl,hS,cj,rfl,rfl,rfl,ad⟩
 | true=>
 by_cases lv:0<ld
 case pos=>
  have je:decide (ld>0)=true:=dm lv;cases aH:av (ts+x.bJ.getD e.toNat 0) (-1000000) 1000000 with
  | false=>
   rw[show eA c e ⟨true,ld,ts,tb,eC⟩ x=(c,false) by simp only[eA,hp,gy,ja,nM,lN,lv,aH]];exact ahI ⟨cx,lz,rfl,ia,rfl,by omega,nJ,nK,dd,rfl,cl,dF,dp,cV,c4,cj,jt,rfl,dp,rfl,dp,je,dp,cj,cl,iY,iZ,hG,hl _ aH,rfl,ad⟩
  | true=>
   have e1:eA c e ⟨true,ld,ts,tb,eC⟩ x=(setW (dV c e ⟨true,ld-1,ts+x.bJ.getD e.toNat 0,tb||x.bV.getD e.toNat false,eC||x.bt.getD e.toNat false⟩) ld (gr x e),true):=by
    simp only[eA,hp,gy,ja,nM,lN,lv,aH]
   rw[e1];dsimp only;rw[Tx,Ec];have wr:=hl _ aH;have c7:aK .i64 (ld-1):=⟨by omega,by omega⟩
   cases tb with
   | true=>
    cases eC with
    | true=>
     have key:=ahJ ⟨cx,lz,rfl,ia,rfl,by omega,nJ,nK,dd,rfl,cl,dF,dp,cV,c4,cj,jt,rfl,dp,rfl,dp,je,dp,cj,cl,iY,iZ,hG,wr,rfl,dp,cj,cl,iY,iZ,hG,dp,hv cl dF,rfl,hv cl dF,tx cl dF,rfl,tx cl dF,cj,cl,jl,hS,cj,rfl,rfl,rfl,tz cl dF,c7,tz cl dF,ad⟩;simp only[pB]at key;exact key
    | false=>
     have key:=ahK ⟨cx,lz,rfl,ia,rfl,by omega,nJ,nK,dd,rfl,cl,dF,dp,cV,c4,cj,jt,rfl,dp,rfl,dp,je,dp,cj,cl,iY,iZ,hG,wr,rfl,dp,cj,cl,iY,iZ,hG,dp,hv cl dF,rfl,hv cl dF,tx cl dF,rfl,cj,cl,r4,r5,tx cl dF,cj,cl,jl,hS,cj,rfl,rfl,rfl,tz cl dF,c7,tz cl dF,ad⟩;simp only[pB]at key;exact key
   | false=>
    cases eC with
    | true=>
     have key:=ahL ⟨cx,lz,rfl,ia,rfl,by omega,nJ,nK,dd,rfl,cl,dF,dp,cV,c4,cj,jt,rfl,dp,rfl,dp,je,dp,cj,cl,iY,iZ,hG,wr,rfl,dp,cj,cl,iY,iZ,hG,dp,hv cl dF,rfl,cj,cl,jl,hS,hv cl dF,tx cl dF,rfl,tx cl dF,cj,cl,jl,hS,cj,rfl,rfl,rfl,rfl,rfl,tz cl dF,c7,tz cl dF,ad⟩;simp only[pB]at key;exact key
    | false=>
     have key:=ahM ⟨cx,lz,rfl,ia,rfl,by omega,nJ,nK,dd,rfl,cl,dF,dp,cV,c4,cj,jt,rfl,dp,rfl,dp,je,dp,cj,cl,iY,iZ,hG,wr,rfl,dp,cj,cl,iY,iZ,hG,dp,hv cl dF,rfl,cj,cl,jl,hS,hv cl dF,tx cl dF,rfl,cj,cl,r4,r5,tx cl dF,cj,cl,jl,hS,cj,rfl,rfl,rfl,rfl,rfl,tz cl dF,c7,tz cl dF,ad⟩;simp only[pB]at key;exact key
 case neg=>
  obtain rfl:ld=0:=by omega
  have je:decide ((0:Int)>0)=false:=rfl;cases tb with
  | true=>
   rw[show eA c e ⟨true,0,ts,true,eC⟩ x=(dV c e ⟨false,0,ts,true,eC⟩,true) by simp[eA,hp]];dsimp only;rw[Le];exact ahV ⟨cx,lz,rfl,ia,rfl,by omega,nJ,nK,dd,rfl,cl,dF,dp,cV,c4,cj,jt,rfl,dp,rfl,dp,je,dp,hv cl dF,rfl,ad⟩
  | false=>
  cases ba:x.bV.getD e.toNat false with
  | true=>
   rw[ba]at hS;rw[show eA c e ⟨true,0,ts,false,eC⟩ x=(dV c e ⟨false,0,ts,false,eC⟩,true) by unfold eA;simp only[hp,ba];rfl];dsimp only;rw[Le];exact ahU ⟨cx,lz,rfl,ia,rfl,by omega,nJ,nK,dd,rfl,cl,dF,dp,cV,c4,cj,jt,rfl,dp,rfl,dp,je,dp,hv cl dF,rfl,cj,cl,jl,hS,rfl,ad⟩
  | false=>
  rw[ba]at hS;cases bp:(ts+x.bJ.getD e.toNat 0==0) with
  | false=>
   rw[show eA c e ⟨true,0,ts,false,eC⟩ x=(dV c e ⟨false,0,ts,false,eC⟩,true) by unfold eA;simp only[hp,ba,bp];rfl];dsimp only;rw[Le];exact ahT ⟨cx,lz,rfl,ia,rfl,by omega,nJ,nK,dd,rfl,cl,dF,dp,cV,c4,cj,jt,rfl,dp,rfl,dp,je,dp,hv cl dF,rfl,cj,cl,jl,hS,rfl,hv cl dF,cj,cl,iY,iZ,hG,bp,ad⟩
  | true=>
  rw[show eA c e ⟨true,0,ts,false,eC⟩ x=(iu (setW (dV c e ⟨false,0,ts,false,eC⟩) 0 (told x e (eC||x.bt.getD e.toNat false))) (c.news++hh (c.az.length-1) e (eC||x.bt.getD e.toNat false)),true) by unfold eA;simp only[hp,ba,bp];rfl];have ed:∀cap,(iu (setW (dV c e ⟨false,0,ts,false,eC⟩) 0 (told x e cap)) (c.news++hh (c.az.length-1) e cap)).e=[.J 4 (c.aA.nodes.map Node.e),I c.aA.az,I c.aA.cap,.J 8 ((c.az.map aR.e).set 0 [.J 5 (x.queue.map aD.e),.J 5 (x.ck.map aD.e),.J 5 (x.cb.map aD.e),.J 4 (x.cells.map Cell.e),.J 1 (x.bJ.map bb),.J 1 (x.bV.map cp),.J 1 (x.bt.map cp),.J 2 (x.bX.map cz.e++[[I e,B cap]])]),.J 6 (c.bU.map br.e),.J 5 ((c.tokens.map bW.e).set e.toNat (bW.e ⟨false,0,ts,false,eC⟩)),.J 3 ((c.news++hh (c.az.length-1) e cap).map bR.e)]:=fun cap=>by
   rw[<-Tw];simp only[iu,setW,dV,bi.e,ib];rfl
  cases eC with
  | true=>
   dsimp only[Bool.true_or];rw[ed];exact ahP ⟨cx,lz,rfl,ia,rfl,by omega,nJ,nK,dd,rfl,cl,dF,dp,cV,c4,cj,jt,rfl,dp,rfl,dp,je,dp,hv cl dF,rfl,cj,cl,jl,hS,rfl,hv cl dF,cj,cl,iY,iZ,hG,bp,hv cl dF,rfl,cj,by simp;omega,by simp;omega,cj,rfl,rfl,rfl,fA (cz.flat ⟨e,true⟩),cj,rfl,aiQ c e _ _ xg tJ ao,ad⟩
  | false=>
   dsimp only[j1];rw[ed];exact ahS ⟨cx,lz,rfl,ia,rfl,by omega,nJ,nK,dd,rfl,cl,dF,dp,cV,c4,cj,jt,rfl,dp,rfl,dp,je,dp,hv cl dF,rfl,cj,cl,jl,hS,rfl,hv cl dF,cj,cl,iY,iZ,hG,bp,hv cl dF,rfl,cj,cl,r4,r5,cj,by simp;omega,by simp;omega,cj,rfl,rfl,rfl,fA (cz.flat ⟨e,_⟩),cj,rfl,aiR c e _ _ _ xg tJ ao,ad⟩
