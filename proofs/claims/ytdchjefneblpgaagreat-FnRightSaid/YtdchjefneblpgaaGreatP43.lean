import Derived.Test.YtdchjefneblpgaaGreatP18
import Derived.Test.YtdchjefneblpgaaGreatGV
import Derived.WalkKit
import Derived.Deep.RegionLaw
import Derived.Shelf.RegionOpenPlain
import Derived.Lib.SliceRun
import Derived.Deep.LoopGhost
import Derived.Lib.Walk
set_option linter.unusedVariables false
set_option linter.unusedSimpArgs false
namespace Go.Proofs.YtdchjefneblpgaaGreat
open Go.Sx Go.RowKit Go.Proofs.Tryz
theorem BI(xs:List Int):Flat (xs.map bd):=dy bd (fun _ _ aF=>⟨_,List.mem_singleton.1 aF⟩) xs
theorem zd(xs:List Bool):Flat (xs.map cF):=dy cF (fun _ _ aF=>⟨_,List.mem_singleton.1 aF⟩) xs
theorem cz.flat(r:cz):∀d∈r.e,∃x,d=.v x:=by
 intro d aF;simp only[cz.e,dQ,qW,or_false]at aF;rcases aF with rfl | rfl<;>exact⟨_,rfl⟩
theorem bW.flat(r:bW):∀d∈r.e,∃x,d=.v x:=by
 intro d aF;simp only[bW.e,dQ,qW,or_false]at aF;rcases aF with rfl | rfl | rfl<;>exact⟨_,rfl⟩
theorem bO.flat(r:bO):∀d∈r.e,∃x,d=.v x:=by
 intro d aF;simp only[bO.e,dQ,qW,or_false]at aF;rcases aF with rfl | rfl | rfl | rfl | rfl<;>exact⟨_,rfl⟩
theorem Au{α:Type}{f:α->List D}{xs:List α}{i:Nat}{a:α}(h:xs[i]?=some a):(xs.take (i+1)).map f=(xs.take i).map f++[f a]:=by simp[p6,h]
theorem nl{l:List (List D)}{k m:Nat}(h:l.length*k<=m):(([]:List (List D)).length+l.length)*k<=m:=by simpa using h
theorem lx{l:List (List D)}{m:Nat}(h:l.length<=m):([]:List (List D)).length+l.length<=m:=by simpa using h
theorem bF.S5{g:bF}(h:g.sz<=8388608){x:Node}(aa:x∈g.nodes):x.sz<=8388608:=G' (sz:=Node.sz) (xs:=g.nodes) (m:=8388608) (by simp only[bF.sz]at h;omega) aa
theorem bF.S6{g:bF}(h:g.sz<=8388608):g.nodes.length<=8388608:=by simp only[bF.sz,fZ]at h;omega
theorem aV.Ek{c:aV}(h:c.sz<=8388608){w:aN}(hw:w∈c.ao):w.sz<=8388608:=G' (sz:=aN.sz) (xs:=c.ao) (m:=8388608) (by simp only[aV.sz]at h;omega) hw
theorem aV.LM{c:aV}(h:c.sz<=8388608){w:bC}(hw:w∈c.bQ):w.sz<=8388608:=G' (sz:=bC.sz) (xs:=c.bQ) (m:=8388608) (by simp only[aV.sz]at h;omega) hw
theorem aV.ox{c:aV}(h:c.sz<=8388608):c.ax.sz<=8388608:=by simp only[aV.sz]at h;omega
theorem apk(x:Node)(h:x.sz<=8388608):av 276 [.agg x.e] [.agg x.e]:=by
 simp only[Node.sz]at h;exact aoz ⟨nl (by simp;omega),lx (by simp;omega),BI _,ad⟩
theorem It(x:bC)(h:x.sz<=8388608):av 256 [.agg x.e] [.agg x.e]:=
 aoD ⟨DS x.queue h,ad⟩
theorem Iu(x:bC)(h:x.sz<=8388608):av 279 [.agg x.e] [.agg x.e]:=by
 simp only[bC.sz]at h;exact aoK ⟨nl (by simp;omega),lx (by simp;omega),dy _ ay.flat _,ad⟩
theorem Av(x:aN)(h:x.sz<=8388608):av 255 [.agg x.e] [.agg x.e]:=by
 simp only[aN.sz]at h;exact aoE ⟨DS x.queue (by omega),DS x.cj (by omega),DS x.bX (by omega),uL x.cells (by omega),nl (by simp;omega),lx (by simp;omega),BI _,nl (by simp;omega),lx (by simp;omega),zd _,nl (by simp;omega),lx (by simp;omega),zd _,nl (by simp;omega),lx (by simp;omega),dy _ cz.flat _,ad⟩
theorem apl(x:aN)(h:x.sz<=8388608):av 174 [.agg x.e] [.agg x.e]:=by
 simp only[aN.sz]at h;exact aoe ⟨nl (by simp;omega),lx (by simp;omega),dy _ ay.flat _,nl (by simp;omega),lx (by simp;omega),dy _ ay.flat _,nl (by simp;omega),lx (by simp;omega),dy _ ay.flat _,nl (by simp;omega),lx (by simp;omega),dy _ Cell.flat _,nl (by simp;omega),lx (by simp;omega),BI _,nl (by simp;omega),lx (by simp;omega),zd _,nl (by simp;omega),lx (by simp;omega),zd _,nl (by simp;omega),lx (by simp;omega),dy _ cz.flat _,ad⟩
theorem WJ(g:bF)(ar:g.sz<=8388608):av 181 [.agg g.e] [.agg g.e]:=by
 have aP:=bF.S6 ar;have l:=dO (P:=prog) (c:=(ap f181 0)) (ci 0) g.nodes.length (fun i:Nat=>D0 (g.nodes.map Node.e) i ((g.nodes.take i).map Node.e) g.ao g.cap 0 0) (fun i hi=>by
  obtain⟨a,ae⟩:=cV hi;rw[Au ae];exact aoA ⟨bT hi,bx,bA hi,bw Node.e ae,apk a (bF.S5 ar (cB ae)),by simp;omega,by simp;omega,cP hi aP,ad⟩) (aoB ⟨dq,ad⟩)
 rw[h6]at l;exact aoC ⟨l,ad⟩
theorem WK(g:bF)(ar:g.sz<=8388608):av 123 [.agg g.e] [.agg g.e]:=by
 have aP:=bF.S6 ar;have l:=dO (P:=prog) (c:=(ap f123 0)) (ci 0) g.nodes.length (fun i:Nat=>D3 i ((g.nodes.take i).map Node.e) g.ao g.cap 0 0 (g.nodes.map Node.e) g.ao g.cap) (fun i hi=>by
  obtain⟨a,ae⟩:=cV hi;have ai:=bF.S5 ar (cB ae);simp only[Node.sz]at ai;rw[Au ae];exact aoL ⟨bT hi,bx,bA hi,bw Node.e ae,nl (by simp;omega),lx (by simp;omega),BI _,by simp;omega,by simp;omega,cP hi aP,ad⟩) (aoc ⟨dq,ad⟩)
 rw[h6]at l;exact aod ⟨l,ad⟩
theorem r5(c:aV)(al:c.sz<=8388608):av 144 [.agg c.e] [.agg c.e]:=by
 have hw:=aV.Ei al;have aj:=aV.Gm al;have bG:c.tokens.length<=8388608:=by simp only[aV.sz,fZ]at al;omega
 have aa:c.news.length<=8388608:=by simp only[aV.sz,fZ]at al;omega
 have fR:=dO (P:=prog) (c:=(ap f144 0)) (ci 0) c.ao.length (fun i:Nat=>D1 (c.ao.map aN.e) i (c.ax.nodes.map Node.e) c.ax.ao c.ax.cap ((c.ao.take i).map aN.e) (c.tokens.map bO.e) (c.news.map bW.e) 0 0 (c.ax.nodes.map Node.e) c.ax.ao c.ax.cap (c.ao.map aN.e) (c.bQ.map bC.e) (c.tokens.map bO.e) (c.news.map bW.e)) (fun i hi=>by
  obtain⟨a,ae⟩:=cV hi;rw[Au ae];exact aoF ⟨bT hi,bx,bA hi,bw aN.e ae,Av a (aV.Ek al (cB ae)),by simp;omega,by simp;omega,cP hi hw,ad⟩) (aoG ⟨dq,ad⟩)
 have jO:=dO (P:=prog) (c:=(ap f144 1)) (ci 2) c.bQ.length (fun i:Nat=>D2 (c.bQ.map bC.e) i (c.ax.nodes.map Node.e) c.ax.ao c.ax.cap (c.ao.map aN.e) ((c.bQ.take i).map bC.e) (c.tokens.map bO.e) (c.news.map bW.e) 0 0) (fun i hi=>by
  obtain⟨a,ae⟩:=cV hi;rw[Au ae];exact aoH ⟨bT hi,bx,bA hi,bw bC.e ae,It a (aV.LM al (cB ae)),by simp;omega,by simp;omega,cP hi aj,ad⟩) (aoI ⟨dq,ad⟩)
 rw[h6]at fR jO;exact aoJ ⟨WJ c.ax (aV.ox al),nl (by simp;omega),lx (by simp;omega),dy _ bO.flat _,nl (by simp;omega),lx (by simp;omega),dy _ bW.flat _,fR,jO,ad⟩
theorem aqN(c:aV)(al:c.sz<=8388608):av 186 [.agg c.e] [.agg c.e]:=by
 have hw:=aV.Ei al;have aj:=aV.Gm al;have bG:c.tokens.length<=8388608:=by simp only[aV.sz,fZ]at al;omega
 have aa:c.news.length<=8388608:=by simp only[aV.sz,fZ]at al;omega
 have fR:=dO (P:=prog) (c:=(ap f186 0)) (ci 0) c.ao.length (fun i:Nat=>D4 i (c.ax.nodes.map Node.e) c.ax.ao c.ax.cap ((c.ao.take i).map aN.e) (c.tokens.map bO.e) (c.news.map bW.e) 0 0 (c.ax.nodes.map Node.e) c.ax.ao c.ax.cap (c.ao.map aN.e) (c.bQ.map bC.e) (c.tokens.map bO.e) (c.news.map bW.e)) (fun i hi=>by
  obtain⟨a,ae⟩:=cV hi;rw[Au ae];exact aof ⟨bT hi,bx,bA hi,bw aN.e ae,apl a (aV.Ek al (cB ae)),by simp;omega,by simp;omega,cP hi hw,ad⟩) (aog ⟨dq,ad⟩)
 have jO:=dO (P:=prog) (c:=(ap f186 1)) (ci 2) c.bQ.length (fun i:Nat=>D5 i (c.ax.nodes.map Node.e) c.ax.ao c.ax.cap (c.ao.map aN.e) ((c.bQ.take i).map bC.e) (c.tokens.map bO.e) (c.news.map bW.e) 0 0 (c.ax.nodes.map Node.e) c.ax.ao c.ax.cap (c.ao.map aN.e) (c.bQ.map bC.e) (c.tokens.map bO.e) (c.news.map bW.e)) (fun i hi=>by
  obtain⟨a,ae⟩:=cV hi;rw[Au ae];exact aoh ⟨bT hi,bx,bA hi,bw bC.e ae,Iu a (aV.LM al (cB ae)),by simp;omega,by simp;omega,cP hi aj,ad⟩) (aoi ⟨dq,ad⟩)
 rw[h6]at fR jO;exact aoj ⟨WK c.ax (aV.ox al),nl (by simp;omega),lx (by simp;omega),dy _ bO.flat _,nl (by simp;omega),lx (by simp;omega),dy _ bW.flat _,fR,jO,ad⟩
end Go.Proofs.YtdchjefneblpgaaGreat
namespace Go.Proofs.YtdchjefneblpgaaGreat
open Go.Sx Go.RowKit Go.Shelf Go.Lib Go.Proofs.Tryz
theorem aqO{P:Program}{ops:Array Oper}{o:Oper}{a:Act}{w:World}{K:Act->World->Prop}{Q:Exit->Act->World->Prop}{E:Prop}
  (ar:o.guard=none) (x y:Operand) (Z6 ty:TypeId) (ps:o.op=Op.call { callee:=Callee.builtin Builtin.append,args:=#[x,y],argTypes:=#[Z6,ty] })
  (v u:Value) (aa:a.eval x=v) (bk:a.eval y=u) {la:Value} {aM:World} (aB:(Builtin.append_ #[Z6,ty] o.type #[v,u]).run P w=.ok la aM) (im:K (a.put o.dst la) aM):
  if Region.wanted o (yielded ops a.tmps)=true then Oper.wp P o a w K Q else E:=by
 have hw:Region.wanted o (yielded ops a.tmps)=true:=by simp[Region.wanted,ar]
 rw[bh hw];unfold Oper.wp;simp[execOp,ps,resolve,invoke,builtin,aa,bk,aB,Result.andThen];exact im
theorem WL{arr:Array Value}{p m j:Nat}{v:Value}(h:((arr.toList.drop p).take m)[j]?=some v):arr[p+j]?=some v/\j<m:=by
 rw[kK]at h;split at h
 ·rw[lY,mT]at h;exact⟨h,‹_›⟩
 cases h
theorem cell_of_heap{w:World}{b:Nat}{arr:Array Value}{tb:TypeId}(aq:w.heap[b]?=some (.cells arr tb (0,0))){x:Nat}{v:Value}(h:arr[x]?=some v):w.cell? ⟨b,x,none⟩=some v:=by
 simp[World.cell?,aq,h]
theorem ay.za(xs:List ay):xs.map ay.e=gI (xs.map fun r=>r.e.map D.Bn):=by
 simp only[gI,List.map_map];rfl
set_option maxHeartbeats 4000000 in
set_option maxRecDepth 1000000 in
theorem aqP(b off n cap i j:Nat)(arr:Array Value)(tb:TypeId)(w:World)(aq:w.heap[b]?=some (.cells arr tb (0,0)))(aP:n<=cap)(eh:off+cap*3<=arr.size)(oG:i<j)(a8:j<=n)
  (h1:∀x v,off<=x->x<off+n*3->arr[x]?=some v->v.oneCell'=true):
  Calls prog 296 #[.slice (some ⟨b,off,none⟩) n cap,.int .i64 i,.int .i64 j] w fun e aM=>e=.returned (.slice (some ⟨b,off,none⟩) (i+(n-j)) cap)/\
   ∃zs:List Value,zs.length=(n-(i+(n-j)))*3/\aM=(w.drew.setRow b (laid arr (off+i*3) ((arr.toList.drop (off+j*3)).take ((n-j)*3)))).setRow b (laid (laid arr (off+i*3) ((arr.toList.drop (off+j*3)).take ((n-j)*3))) (off+(i+(n-j))*3) zs):=by
 obtain⟨news,ke⟩:∃news,news=(arr.toList.drop (off+j*3)).take ((n-j)*3):=⟨_,rfl⟩
 have xp:news.length=(n-j)*3:=by rw[ke];simp;omega
 have sF:∀u∈news,u.oneCell'=true:=by
  intro u hu;obtain⟨x,aa⟩:=p4.1 hu;rw[ke]at aa;obtain⟨U,aA⟩:=WL aa;exact h1 _ u (by omega) (by omega) U
 rw[<-ke];obtain⟨dH,rj⟩:∃dH,dH=laid arr (off+i*3) news:=⟨_,rfl⟩
 have mG:dH.size=arr.size:=by rw[rj];exact rT (by omega)
 obtain⟨iR,nh⟩:∃iR,iR=w.drew.setRow b dH:=⟨_,rfl⟩
 have ht:iR.heap[b]?=some (.cells dH tb (0,0)):=by rw[nh];exact setRow_heap w.drew b arr dH tb (0,0) aq
 obtain⟨zs,np,B8⟩:=UD (P:=prog) iR 34 181 0 _ (by kernel_rfl) (by rfl) b (off+(i+(n-j))*3) (n-(i+(n-j))) (cap-(i+(n-j))) dH tb ht (by show off+(i+(n-j))*3+(n-(i+(n-j)))*3<=dH.size;omega) (by decide);rw[bq (by omega)]at B8;obtain⟨o9,rk⟩:∃o9,o9=iR.setRow b (laid dH (off+(i+(n-j))*3) zs):=⟨_,rfl⟩
 rw[<-rk]at B8;have dN:(prog.info? 181).map (·.size)=some 3:=by kernel_rfl
 have gS:prog.underlying 34=some (.slice 181):=by kernel_rfl
 have vv:∀ty,(Builtin.append_ #[34,34] ty #[.slice (some ⟨b,off,none⟩) i cap,.slice (if cap=j then some ⟨b,off,none⟩ else some ⟨b,off+j*3,none⟩) (n-j) (cap-j)]).run prog w.drew=.ok (.slice (some ⟨b,off,none⟩) (i+(n-j)) cap) iR:=by
  intro ty;cases hi:prog.info? 181 with
  | none=>rw[hi]at dN;cases dN
  | some i0=>
   rw[hi]at dN;have a':i0.size=3:=by simpa using dN
   have key:∀ct:Addr,(∀x u,news[x]?=some u->w.drew.cell? (ct.add x)=some u)->(Builtin.append_ #[34,34] ty #[.slice (some ⟨b,off,none⟩) i cap,.slice (some ct) (n-j) (cap-j)]).run prog w.drew=.ok (.slice (some ⟨b,off,none⟩) (i+(n-j)) cap) iR:=by
    intro ct Kh;have:=Gz (P:=prog) (t:=34) (ty:=ty) gS hi w.drew b off i cap arr tb aq ct (n-j) (cap-j) news (by rw[xp,a']) Kh sF (by omega) (by rw[a'];omega);rw[this,nh,rj,a'];rfl
   split
   ·refine key _ fun x u aa=>?_
    have bE:news.length=0:=by rw[xp];have:n-j=0:=(by omega);rw[this]
    rw[List.length_eq_zero_iff.1 bE]at aa;simp at aa
   refine key _ fun x u aa=>?_
   rw[ke]at aa;obtain⟨U,_⟩:=WL aa;rw[Addr.add_lit];exact cell_of_heap (w:=w.drew) aq U
 have X:Aside (o9=(w.drew.setRow b dH).setRow b (laid dH (off+(i+(n-j))*3) zs)):=by rw[rk,nh];trivial
 have aCF:i+(n-j)<n:=by omega
 have adr:i<=cap:=by omega
 have aC6:j<=cap:=by omega
 have mixed:prog.follows .mixedOrders=true:=by kernel_rfl
 clear nh rk ht aq ke xp sF mG dN gS h1
 go_enter func296,Tryz.ntmps296
 go_wp2_with fail
 go_region_law_o (refine aqO rfl (.tmp 22) (.tmp 25) 34 34 rfl _ _ (by simp[Act.eval,Act.put]) (by simp[Act.eval,Act.put]) (vv _) ?_)
 go_wp2
 all_goals (go_ret;exact⟨rfl,zs,np,by rw[<-rj];exact X⟩)
theorem bW.za(xs:List bW):xs.map bW.e=gI (xs.map fun r=>r.e.map D.Bn):=by
 simp only[gI,List.map_map];rfl
theorem aqQ(es:List (List Value))(i j:Nat)(oG:i<j)(a8:j<=es.length):lk prog 296 [.one (.fh 3 (gI es) none),.one (.ro (I i)),.one (.ro (I j))] [.one (.J 3 (gI (es.take i++es.drop j)))]:=by
 rintro w vs ω ⟨ar,aP,ae⟩ pw;obtain⟨y,bk,lP⟩:=ae 0 _ rfl;obtain⟨gV,ha,K5⟩:=ae 1 _ rfl;obtain⟨kq,fH,aeo⟩:=ae 2 _ rfl;have e1:gV=.int .i64 i:=bZ.JX K5;have e2:kq=.int .i64 j:=bZ.JX aeo;subst e1;subst e2;have sJ:=RD aP bk ha fH;subst sJ;rcases ar.row lP with⟨rfl,_⟩ | ⟨b,off,cap,arr,tb,dr,rfl,aB⟩
 ·simp at a8;omega
 have nm:ω b≠.bJ:=by rw[dr];simp
 have pt:=aB.room;have eh:=aB.fit;have h1:∀x v,off<=x->x<off+es.length*3->arr[x]?=some v->v.oneCell'=true:=by
  intro x v qv kB bD;have bM:(x-off) / 3<es.length:=by omega
  have he:=jA bM;have hlen:=aB.len _ (p5 bM);have kx:(x-off) % 3<(es[(x-off) / 3]).length:=by omega
  have:=aB.cell _ _ _ _ he (jA kx);rw[show off+(x-off) / 3*3+(x-off) % 3=x by omega,bD]at this;rw[gX this];exact aB.one _ (p5 bM) _ (p5 kx)
 refine (aqP b off es.length cap i j arr tb w aB.heap pt eh oG a8 h1).mono ?_;rintro e aM ⟨rfl,zs,Gf,rfl⟩;obtain⟨news,ke⟩:∃news,news=(arr.toList.drop (off+j*3)).take ((es.length-j)*3):=⟨_,rfl⟩
 rw[<-ke];have xp:news.length=(es.length-j)*3:=by rw[ke];simp;omega
 have jJ:off+i*3+news.length<=arr.size:=by omega
 have mG:=rT jJ;have c':off+(i+(es.length-j))*3+zs.length<=(laid arr (off+i*3) news).size:=by omega
 have FU:(es.take i++es.drop j).length=i+(es.length-j):=by simp;omega
 have cC:Fa w ((w.drew.setRow b (laid arr (off+i*3) news)).setRow b (laid (laid arr (off+i*3) news) (off+(i+(es.length-j))*3) zs)) (fun b=>ω b≠.bJ) 3 (es.take i++es.drop j) (.slice (some ⟨b,off,none⟩) (i+(es.length-j)) cap):=by
  refine⟨VC nm _ _,.inr ⟨b,off,cap,_,tb,.inl nm,by rw[FU],?_,by omega,by rw[rT c',mG];exact eh,?_,?_,?_⟩⟩
  ·exact setRow_heap _ b _ _ tb (0,0) (setRow_heap w.drew b arr _ tb (0,0) aB.heap)
  ·intro e he;rcases gg.1 he with h | h
   ·exact aB.len e (tB h)
   exact aB.len e (wW h)
  ·intro e he;rcases gg.1 he with h | h
   ·exact aB.one e (tB h)
   exact aB.one e (wW h)
  intro x y e v aa bD;have gk:=(gh.1 aa).1;rw[FU]at gk;have bk:y<3:=by
   have U:=(gh.1 bD).1;have:e.length=3:=by
    have:=f' aa;rcases gg.1 this with h | h
    ·exact aB.len e (tB h)
    exact aB.len e (wW h)
   omega
  rw[nA c',bq (by omega),nA jJ];by_cases Ga:x<i
  ·rw[bq (by omega)];refine aB.cell x y e v ?_ bD;rwa[EZ (by simp;omega),kK,bh Ga]at aa
  rw[bh (by omega),ke,kK,bh (by omega),lY,mT];have:(es.take i).length=i:=by simp;omega
  rw[EY (by omega),this,lY]at aa;have:=aB.cell (j+(x-i)) y e v aa bD;rw[<-this]
  congr 1
  omega
 obtain⟨bc,U,aA,aI⟩:=cC.res;refine⟨_,rfl,cC.RF.full pw,bc,U,aA,VB ?_,aI⟩;intro fW k3 fc k dW cy jH al
 match fW with
 | 0=>simp at jH;subst jH;simp only[GA.cell]at al;split at al<;>simp at al
 | 1=>simp at jH;subst jH;simp only[GA.cell]at al;split at al<;>simp at al
 | 2=>simp at jH;subst jH;simp only[GA.cell]at al;split at al<;>simp at al
 | _+3=>simp at jH
theorem aqR(xs:List bW)(i j:Nat)(oG:i<j)(a8:j<=xs.length):lk prog 296 [.one (.fh 3 (xs.map bW.e) none),.one (.ro (I i)),.one (.ro (I j))] [.one (.J 3 ((xs.take i++xs.drop j).map bW.e))]:=by
 have:=aqQ (xs.map fun r=>r.e.map D.Bn) i j oG (by simpa using a8);rw[bW.za,bW.za];simpa using this
end Go.Proofs.YtdchjefneblpgaaGreat
namespace Go.Proofs.YtdchjefneblpgaaGreat
open Go.Sx Go.RowKit Go.Proofs.Tryz
def jV(w:Nat):List b6:=[⟨1,w,0⟩,⟨3,w,0⟩,⟨2,w,0⟩,⟨7,w,0⟩]
def lF(a b:Nat):List b6:=if a=b then [] else [⟨4,a,b⟩,⟨5,a,b⟩]
def mN(n:Nat):List b6:=(List.range n).flatMap jV
def qK(a n:Nat):List b6:=(List.range n).flatMap (lF a)
def nE(m n:Nat):List b6:=(List.range n).flatMap fun a=>qK a m
def oneOf(e:Nat):List b6:=[⟨6,e,0⟩]
def uR(n:Nat):List b6:=(List.range n).flatMap oneOf
def fL(c:aV):List b6:=mN (hG c.ax.ao 0 4).toNat++nE (hG c.ax.ao 0 4).toNat (hG c.ax.ao 0 4).toNat++uR 4
theorem WM(n:Nat):mN (n+1)=mN n++jV n:=by simp[mN,List.range_succ]
theorem WN(a n:Nat):qK a (n+1)=qK a n++lF a n:=by simp[qK,List.range_succ]
theorem WO(m n:Nat):nE m (n+1)=nE m n++qK n m:=by simp[nE,List.range_succ]
theorem WQ(n:Nat):uR (n+1)=uR n++[⟨6,n,0⟩]:=by simp[uR,List.range_succ,oneOf]
theorem D7(n:Nat):(mN n).length<=n*4:=by
 have h:=Ac jV 4 (fun _=>by simp[jV]) (List.range n);rwa[wZ]at h
theorem Px(a n:Nat):(qK a n).length<=n*2:=by
 have h:=Ac (lF a) 2 (fun b=>by unfold lF;split<;>simp) (List.range n);rwa[wZ]at h
theorem D8(m n:Nat):(nE m n).length<=n*(m*2):=by
 have h:=Ac (fun a=>qK a m) (m*2) (fun a=>Px a m) (List.range n);rwa[wZ]at h
theorem Py(n:Nat):(uR n).length<=n*1:=by
 have h:=Ac oneOf 1 (fun _=>by simp[oneOf]) (List.range n);rwa[wZ]at h
theorem Pz(n:Int):∃k:Nat,hG n 0 4=k/\k<=4:=by
 refine⟨(hG n 0 4).toNat,?_,?_⟩<;>(unfold hG;simp only[show ¬(4:Int)<0 by omega,mr];split<;>(try split)<;>omega)
theorem CI(a b:Nat)(ae:a<=4)(aq:b<=4):a*(b*2)<=32:=by
 have:=Nat.mul_le_mul ae (iA 2 aq);omega
theorem OJ(c:aV):(fL c).length<=100:=by
 obtain⟨k,hk,aI⟩:=Pz c.ax.ao;unfold fL;rw[hk];have a:=D7 k;have b:=D8 k k;have e:=Py 4;have m:=CI k k aI aI;simp only[lH,mU];omega
theorem WR(c:aV):av 129 [.agg c.e] [.one (.J 3 ((fL c).map b6.e))]:=by
 have b:=Hj c.ax.ao 0 4;obtain⟨k,hk,aI⟩:=Pz c.ax.ao;unfold fL;rw[hk]at b ⊢;have aeN:=D7 k;have aeO:=D8 k k;have m:=CI k k aI aI;have fR:=dO (P:=prog) (c:=(ap f129 0)) (ci 0) k (fun i:Nat=>De k i ((mN i).map b6.e)) (fun i hi=>by
  have h1:=D7 i;rw[WM,gF];exact ays ⟨dc (by omega),by simp;omega,by simp;omega,dy b6.e b6.flat (jV i),⟨by omega,by omega⟩,ad⟩) (ayt ⟨dE (by omega),ad⟩)
 have sS:=fun (a:Nat) (ae:a<k)=>dO (P:=prog) (c:=(ap f129 2)) (ci 4) k (fun i:Nat=>yv k a i ((mN k++nE k a++qK a i).map b6.e)) (fun i hi=>by
  have h1:=Px a i;have U:=D8 k a;have aA:=CI a k (by omega) aI;rw[WN,<-o5,gF (l₂:=lF a i)];by_cases dw:a=i
  ·have e:(lF a i).map b6.e=[]:=by simp[lF,dw]
   rw[e,gR];exact ayv ⟨dc (by omega),by simp[dw],⟨by omega,by omega⟩,ad⟩
  have e:(lF a i).map b6.e=[[I 4,I a,I i],[I 5,I a,I i]]:=by simp[lF,dw,b6.e]
  rw[e];have br:Flat [[I 4,I a,I i],[I 5,I a,I i]]:=by rw[<-e];exact dy b6.e b6.flat _
  exact ayu ⟨dc (by omega),by simp;omega,by simp;omega,by simp;omega,br,⟨by omega,by omega⟩,ad⟩) (ayw ⟨dE (by omega),ad⟩)
 have jO:=dO (P:=prog) (c:=(ap f129 1)) (ci 2) k (fun i:Nat=>Df k i ((mN k++nE k i).map b6.e)) (fun i hi=>by
  have h:=sS i hi;rw[WO,<-o5];simp only[qK,yZ,Bv,gR]at h;exact ayx ⟨dc (by omega),h,⟨by omega,by omega⟩,ad⟩) (ayy ⟨dE (by omega),ad⟩)
 have zL:=dO (P:=prog) (c:=(ap f129 3)) (ci 6) 4 (fun i:Nat=>Dg i ((mN k++nE k k++uR i).map b6.e)) (fun i hi=>by
  have h1:=Py i;rw[WQ,<-o5,gF (l₂:=[_])];exact ayz ⟨dc (by omega),by simp;omega,by simp;omega,dy b6.e b6.flat [⟨6,i,0⟩],⟨by omega,by omega⟩,ad⟩) (ayA ⟨dE (by omega),ad⟩)
 simp only[nE,yZ,Bv,gR]at jO;simp only[uR,yZ,Bv,gR]at zL;rw[mU];exact ayB ⟨b,fR,jO,zL,ad⟩
theorem aqS(c:aV):av 201 [.agg c.e] [.one (.J 3 ((fL c).map b6.e))]:=by
 have b:=NG c.ax.ao 0 4;obtain⟨k,hk,aI⟩:=Pz c.ax.ao;unfold fL;rw[hk]at b ⊢;have aeN:=D7 k;have aeO:=D8 k k;have m:=CI k k aI aI;have jO:=fun (w:Nat) (hw:w<k)=>dO (P:=prog) (c:=(ap f201 1)) (ci 2) 4 (fun i:Nat=>uH k w i ((mN w).map b6.e++((jV w).take i).map b6.e)) (fun i hi=>by
  have h1:=D7 w
  match i,hi with
  | 0,_=>exact u0 (uH k w (((0:Nat):Int)+1)) (Hi ⟨rfl,by omega,by decide,rfl,by simp[jV];omega,by simp[jV];omega,dy b6.e b6.flat [⟨1,w,0⟩],⟨by omega,by omega⟩,ad⟩) (by simp[jV,b6.e])
  | 1,_=>exact u0 (uH k w (((1:Nat):Int)+1)) (Hi ⟨rfl,by omega,by decide,rfl,by simp[jV];omega,by simp[jV];omega,dy b6.e b6.flat [⟨3,w,0⟩],⟨by omega,by omega⟩,ad⟩) (by simp[jV,b6.e])
  | 2,_=>exact u0 (uH k w (((2:Nat):Int)+1)) (Hi ⟨rfl,by omega,by decide,rfl,by simp[jV];omega,by simp[jV];omega,dy b6.e b6.flat [⟨2,w,0⟩],⟨by omega,by omega⟩,ad⟩) (by simp[jV,b6.e])
  | 3,_=>exact u0 (uH k w (((3:Nat):Int)+1)) (Hi ⟨rfl,by omega,by decide,rfl,by simp[jV];omega,by simp[jV];omega,dy b6.e b6.flat [⟨7,w,0⟩],⟨by omega,by omega⟩,ad⟩) (by simp[jV,b6.e])) (ayC ⟨rfl,ad⟩)
 have fR:=dO (P:=prog) (c:=(ap f201 0)) (ci 0) k (fun i:Nat=>Dh k i ((mN i).map b6.e)) (fun i hi=>by
  have h:=jO i hi;rw[WM,gF];simp only[List.take_zero,List.map_nil,gR]at h;exact ayD ⟨dc (by omega),h,⟨by omega,by omega⟩,ad⟩) (ayE ⟨dE (by omega),ad⟩)
 have zL:=fun (a:Nat) (ae:a<k)=>dO (P:=prog) (c:=(ap f201 3)) (ci 6) k (fun i:Nat=>yw k a i ((mN k++nE k a++qK a i).map b6.e)) (fun i hi=>by
  have h1:=Px a i;have U:=D8 k a;have aA:=CI a k (by omega) aI;rw[WN,<-o5,gF (l₂:=lF a i)];by_cases dw:a=i
  ·have e:(lF a i).map b6.e=[]:=by simp[lF,dw]
   rw[e,gR];exact ayG ⟨dc (by omega),by simp[dw],⟨by omega,by omega⟩,ad⟩
  have e:(lF a i).map b6.e=[[I 4,I a,I i],[I 5,I a,I i]]:=by simp[lF,dw,b6.e]
  rw[e];have br:Flat [[I 4,I a,I i],[I 5,I a,I i]]:=by rw[<-e];exact dy b6.e b6.flat _
  exact ayF ⟨dc (by omega),by simp;omega,by simp;omega,by simp;omega,br,⟨by omega,by omega⟩,ad⟩) (ayH ⟨dE (by omega),ad⟩)
 have sS:=dO (P:=prog) (c:=(ap f201 2)) (ci 4) k (fun i:Nat=>Di k i ((mN k++nE k i).map b6.e)) (fun i hi=>by
  have h:=zL i hi;rw[WO,<-o5];simp only[qK,yZ,Bv,gR]at h;exact ayI ⟨dc (by omega),h,⟨by omega,by omega⟩,ad⟩) (ayJ ⟨dE (by omega),ad⟩)
 have Gj:=dO (P:=prog) (c:=(ap f201 4)) (ci 8) 4 (fun i:Nat=>Dj i ((mN k++nE k k++uR i).map b6.e)) (fun i hi=>by
  have h1:=Py i;rw[WQ,<-o5,gF (l₂:=[_])];exact ayK ⟨dc (by omega),by simp;omega,by simp;omega,dy b6.e b6.flat [⟨6,i,0⟩],⟨by omega,by omega⟩,ad⟩) (ayL ⟨dE (by omega),ad⟩)
 simp only[nE,yZ,Bv,gR]at sS;simp only[uR,yZ,Bv,gR]at Gj;rw[mU];exact ayM ⟨b,fR,sS,Gj,ad⟩
