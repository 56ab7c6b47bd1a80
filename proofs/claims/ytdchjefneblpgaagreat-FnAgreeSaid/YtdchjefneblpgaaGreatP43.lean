import Derived.Test.YtdchjefneblpgaaGreatP18
import Derived.Test.YtdchjefneblpgaaGreatGV
import Derived.WalkKit
import Derived.Deep.RegionLaw
import Derived.Shelf.RegionOpenPlain
import Derived.Lib.SliceRun
import Derived.Deep.LoopGhost
import Derived.Lib.Walk
set_option linter.unusedVariables false
set_option linter.unusedSimpArgs false
namespace Go.Proofs.YtdchjefneblpgaaGreat
open Go.Sx Go.RowKit Go.Proofs.Tryz
theorem DY{xs:List Int}:Flat (xs.map ba):=cd ba (fun _ _ aB=>⟨_,List.mem_singleton.1 aB⟩) xs
theorem yt(xs:List Bool):Flat (xs.map cI):=cd cI (fun _ _ aB=>⟨_,List.mem_singleton.1 aB⟩) xs
theorem cD.flat(r:cD):∀d∈r.e,∃x,d=.v x:=by
 intro d aB;simp only[cD.e,et,qt,or_false]at aB;rcases aB with rfl | rfl<;>exact⟨_,rfl⟩
theorem bT.flat(r:bT):∀d∈r.e,∃x,d=.v x:=by
 intro d aB;simp only[bT.e,et,qt,or_false]at aB;rcases aB with rfl | rfl | rfl<;>exact⟨_,rfl⟩
theorem bQ.flat(r:bQ):∀d∈r.e,∃x,d=.v x:=by
 intro d aB;simp only[bQ.e,et,qt,or_false]at aB;rcases aB with rfl | rfl | rfl | rfl | rfl<;>exact⟨_,rfl⟩
theorem zO{α:Type}{f:α->List D}{xs:List α}{i:Nat}{a:α}(h:xs[i]?=some a):(xs.take (i+1)).map f=(xs.take i).map f++[f a]:=by simp[sS,h]
theorem nl{l:List (List D)}{k m:Nat}(h:l.length*k<=m):(([]:List (List D)).length+l.length)*k<=m:=by simpa using h
theorem kY{l:List (List D)}{m:Nat}(h:l.length<=m):([]:List (List D)).length+l.length<=m:=by simpa using h
theorem b0.Qh{g:b0}(h:g.sz<=8388608){x:Node}(aa:x∈g.nodes):x.sz<=8388608:=F5 (sz:=Node.sz) (xs:=g.nodes) (m:=8388608) (by simp only[b0.sz]at h;omega) aa
theorem b0.Qi{g:b0}(h:g.sz<=8388608):g.nodes.length<=8388608:=by simp only[b0.sz,iV]at h;omega
variable{c:aU}
theorem aU.Nt(h:c.sz<=8388608){w:aL}(hw:w∈c.aq):w.sz<=8388608:=F5 (sz:=aL.sz) (xs:=c.aq) (m:=8388608) (by simp only[aU.sz]at h;omega) hw
theorem aU.JO(h:c.sz<=8388608){w:bt}(hw:w∈c.bK):w.sz<=8388608:=F5 (sz:=bt.sz) (xs:=c.bK) (m:=8388608) (by simp only[aU.sz]at h;omega) hw
theorem aU.oa(h:c.sz<=8388608):c.ay.sz<=8388608:=by simp only[aU.sz]at h;omega
theorem ai7(x:Node)(h:x.sz<=8388608):aw 276 [.agg x.e] [.agg x.e]:=by
 simp only[Node.sz]at h;exact agl ⟨nl (by simp;omega),kY (by simp;omega),DY,ae⟩
theorem Gp(x:bt)(h:x.sz<=8388608):aw 256 [.agg x.e] [.agg x.e]:=
 agp ⟨Fw x.queue h,ae⟩
theorem Gq(x:bt)(h:x.sz<=8388608):aw 279 [.agg x.e] [.agg x.e]:=by
 simp only[bt.sz]at h;exact ahW ⟨nl (by simp;omega),kY (by simp;omega),cd _ aE.flat _,ae⟩
theorem zP(x:aL)(h:x.sz<=8388608):aw 255 [.agg x.e] [.agg x.e]:=by
 simp only[aL.sz]at h;exact agq ⟨Fw x.queue (by omega),Fw x.cp (by omega),Fw x.bZ (by omega),vd x.cells (by omega),nl (by simp;omega),kY (by simp;omega),DY,nl (by simp;omega),kY (by simp;omega),yt _,nl (by simp;omega),kY (by simp;omega),yt _,nl (by simp;omega),kY (by simp;omega),cd _ cD.flat _,ae⟩
theorem ai8(x:aL)(h:x.sz<=8388608):aw 174 [.agg x.e] [.agg x.e]:=by
 simp only[aL.sz]at h;exact ah0 ⟨nl (by simp;omega),kY (by simp;omega),cd _ aE.flat _,nl (by simp;omega),kY (by simp;omega),cd _ aE.flat _,nl (by simp;omega),kY (by simp;omega),cd _ aE.flat _,nl (by simp;omega),kY (by simp;omega),cd _ Cell.flat _,nl (by simp;omega),kY (by simp;omega),DY,nl (by simp;omega),kY (by simp;omega),yt _,nl (by simp;omega),kY (by simp;omega),yt _,nl (by simp;omega),kY (by simp;omega),cd _ cD.flat _,ae⟩
theorem ai9(g:b0)(ar:g.sz<=8388608):aw 181 [.agg g.e] [.agg g.e]:=by
 have aK:=b0.Qi ar;have l:=eR (P:=prog) (c:=(av f181 0)) (cL 0) g.nodes.length (fun i:Nat=>CB (g.nodes.map Node.e) i ((g.nodes.take i).map Node.e) g.aq g.cap 0 0) (fun i hi=>by
  obtain⟨a,ad⟩:=dm hi;rw[zO ad];exact agm ⟨b4 hi,bH,bL hi,bI Node.e ad,ai7 a (b0.Qh ar (cG ad)),by simp;omega,by simp;omega,du hi aK,ae⟩) (agn ⟨ec,ae⟩)
 rw[k6]at l;exact ago ⟨l,ae⟩
theorem Uh(g:b0)(ar:g.sz<=8388608):aw 123 [.agg g.e] [.agg g.e]:=by
 have aK:=b0.Qi ar;have l:=eR (P:=prog) (c:=(av f123 0)) (cL 0) g.nodes.length (fun i:Nat=>CE i ((g.nodes.take i).map Node.e) g.aq g.cap 0 0 (g.nodes.map Node.e) g.aq g.cap) (fun i hi=>by
  obtain⟨a,ad⟩:=dm hi;have ai:=b0.Qh ar (cG ad);simp only[Node.sz]at ai;rw[zO ad];exact ahX ⟨b4 hi,bH,bL hi,bI Node.e ad,nl (by simp;omega),kY (by simp;omega),DY,by simp;omega,by simp;omega,du hi aK,ae⟩) (ahY ⟨ec,ae⟩)
 rw[k6]at l;exact ahZ ⟨l,ae⟩
theorem rD(c:aU)(af:c.sz<=8388608):aw 144 [.agg c.e] [.agg c.e]:=by
 have hw:=aU.x5 af;have aj:=aU.Ey af;have bq:c.tokens.length<=8388608:=by simp only[aU.sz,iV]at af;omega
 have aa:c.news.length<=8388608:=by simp only[aU.sz,iV]at af;omega
 have fS:=eR (P:=prog) (c:=(av f144 0)) (cL 0) c.aq.length (fun i:Nat=>CC (c.aq.map aL.e) i (c.ay.nodes.map Node.e) c.ay.aq c.ay.cap ((c.aq.take i).map aL.e) (c.tokens.map bQ.e) (c.news.map bT.e) 0 0 (c.ay.nodes.map Node.e) c.ay.aq c.ay.cap (c.aq.map aL.e) (c.bK.map bt.e) (c.tokens.map bQ.e) (c.news.map bT.e)) (fun i hi=>by
  obtain⟨a,ad⟩:=dm hi;rw[zO ad];exact agr ⟨b4 hi,bH,bL hi,bI aL.e ad,zP a (aU.Nt af (cG ad)),by simp;omega,by simp;omega,du hi hw,ae⟩) (ags ⟨ec,ae⟩)
 have lZ:=eR (P:=prog) (c:=(av f144 1)) (cL 2) c.bK.length (fun i:Nat=>CD (c.bK.map bt.e) i (c.ay.nodes.map Node.e) c.ay.aq c.ay.cap (c.aq.map aL.e) ((c.bK.take i).map bt.e) (c.tokens.map bQ.e) (c.news.map bT.e) 0 0) (fun i hi=>by
  obtain⟨a,ad⟩:=dm hi;rw[zO ad];exact ahT ⟨b4 hi,bH,bL hi,bI bt.e ad,Gp a (aU.JO af (cG ad)),by simp;omega,by simp;omega,du hi aj,ae⟩) (ahU ⟨ec,ae⟩)
 rw[k6]at fS lZ;exact ahV ⟨ai9 c.ay (aU.oa af),nl (by simp;omega),kY (by simp;omega),cd _ bQ.flat _,nl (by simp;omega),kY (by simp;omega),cd _ bT.flat _,fS,lZ,ae⟩
theorem aja(c:aU)(af:c.sz<=8388608):aw 186 [.agg c.e] [.agg c.e]:=by
 have hw:=aU.x5 af;have aj:=aU.Ey af;have bq:c.tokens.length<=8388608:=by simp only[aU.sz,iV]at af;omega
 have aa:c.news.length<=8388608:=by simp only[aU.sz,iV]at af;omega
 have fS:=eR (P:=prog) (c:=(av f186 0)) (cL 0) c.aq.length (fun i:Nat=>CF i (c.ay.nodes.map Node.e) c.ay.aq c.ay.cap ((c.aq.take i).map aL.e) (c.tokens.map bQ.e) (c.news.map bT.e) 0 0 (c.ay.nodes.map Node.e) c.ay.aq c.ay.cap (c.aq.map aL.e) (c.bK.map bt.e) (c.tokens.map bQ.e) (c.news.map bT.e)) (fun i hi=>by
  obtain⟨a,ad⟩:=dm hi;rw[zO ad];exact ah1 ⟨b4 hi,bH,bL hi,bI aL.e ad,ai8 a (aU.Nt af (cG ad)),by simp;omega,by simp;omega,du hi hw,ae⟩) (ah2 ⟨ec,ae⟩)
 have lZ:=eR (P:=prog) (c:=(av f186 1)) (cL 2) c.bK.length (fun i:Nat=>CG i (c.ay.nodes.map Node.e) c.ay.aq c.ay.cap (c.aq.map aL.e) ((c.bK.take i).map bt.e) (c.tokens.map bQ.e) (c.news.map bT.e) 0 0 (c.ay.nodes.map Node.e) c.ay.aq c.ay.cap (c.aq.map aL.e) (c.bK.map bt.e) (c.tokens.map bQ.e) (c.news.map bT.e)) (fun i hi=>by
  obtain⟨a,ad⟩:=dm hi;rw[zO ad];exact ah3 ⟨b4 hi,bH,bL hi,bI bt.e ad,Gq a (aU.JO af (cG ad)),by simp;omega,by simp;omega,du hi aj,ae⟩) (ah4 ⟨ec,ae⟩)
 rw[k6]at fS lZ;exact ah5 ⟨Uh c.ay (aU.oa af),nl (by simp;omega),kY (by simp;omega),cd _ bQ.flat _,nl (by simp;omega),kY (by simp;omega),cd _ bT.flat _,fS,lZ,ae⟩
end Go.Proofs.YtdchjefneblpgaaGreat
namespace Go.Proofs.YtdchjefneblpgaaGreat
open Go.Sx Go.RowKit Go.Shelf Go.Lib Go.Proofs.Tryz
theorem ajb{P:Program}{ops:Array Oper}{o:Oper}{a:Act}{w:World}{K:Act->World->Prop}{Q:Exit->Act->World->Prop}{E:Prop}
  (ar:o.guard=none) (x y:Operand) (Wg ty:TypeId) (q7:o.op=Op.call { callee:=Callee.builtin Builtin.append,args:=#[x,y],argTypes:=#[Wg,ty] })
  (v u:Value) (aa:a.eval x=v) (bn:a.eval y=u) {k4:Value} {aJ:World} (az:(Builtin.append_ #[Wg,ty] o.type #[v,u]).run P w=.ok k4 aJ) (gN:K (a.put o.dst k4) aJ):
  if Region.wanted o (yielded ops a.tmps)=true then Oper.wp P o a w K Q else E:=by
 have hw:Region.wanted o (yielded ops a.tmps)=true:=by simp[Region.wanted,ar]
 rw[aZ hw];unfold Oper.wp;simp[execOp,q7,resolve,invoke,builtin,aa,bn,az,Result.andThen];exact gN
theorem Ui{arr:Array Value}{p m j:Nat}{v:Value}(h:((arr.toList.drop p).take m)[j]?=some v):arr[p+j]?=some v/\j<m:=by
 rw[hj]at h;split at h
 ·rw[gU,iX]at h;exact⟨h,‹_›⟩
 cases h
theorem cell_of_heap{w:World}{b:Nat}{arr:Array Value}{tb:TypeId}(ao:w.heap[b]?=some (.cells arr tb (0,0))){x:Nat}{v:Value}(h:arr[x]?=some v):w.cell? ⟨b,x,none⟩=some v:=by
 simp[World.cell?,ao,h]
theorem aE.yp(xs:List aE):xs.map aE.e=gB (xs.map fun r=>r.e.map D.Ah):=by
 simp only[gB,List.map_map];rfl
set_option maxHeartbeats 4000000 in
set_option maxRecDepth 1000000 in
theorem ajc(b off n cap i j:Nat)(arr:Array Value)(tb:TypeId)(w:World)(ao:w.heap[b]?=some (.cells arr tb (0,0)))(aK:n<=cap)(dV:off+cap*3<=arr.size)(lh:i<j)(aP:j<=n)
  (h1:∀x v,off<=x->x<off+n*3->arr[x]?=some v->v.oneCell'=true):
  Calls prog 296 #[.slice (some ⟨b,off,none⟩) n cap,.int .i64 i,.int .i64 j] w fun e aJ=>e=.returned (.slice (some ⟨b,off,none⟩) (i+(n-j)) cap)/\
   ∃zs:List Value,zs.length=(n-(i+(n-j)))*3/\aJ=(w.drew.setRow b (laid arr (off+i*3) ((arr.toList.drop (off+j*3)).take ((n-j)*3)))).setRow b (laid (laid arr (off+i*3) ((arr.toList.drop (off+j*3)).take ((n-j)*3))) (off+(i+(n-j))*3) zs):=by
 obtain⟨news,jF⟩:∃news,news=(arr.toList.drop (off+j*3)).take ((n-j)*3):=⟨_,rfl⟩
 have wH:news.length=(n-j)*3:=by rw[jF];simp;omega
 have sa:∀u∈news,u.oneCell'=true:=by
  intro u hu;obtain⟨x,aa⟩:=pJ.1 hu;rw[jF]at aa;obtain⟨U,ax⟩:=Ui aa;exact h1 _ u (by omega) (by omega) U
 rw[<-jF];obtain⟨dO,qQ⟩:∃dO,dO=laid arr (off+i*3) news:=⟨_,rfl⟩
 have lj:dO.size=arr.size:=by rw[qQ];exact rj (by omega)
 obtain⟨iI,mK⟩:∃iI,iI=w.drew.setRow b dO:=⟨_,rfl⟩
 have gj:iI.heap[b]?=some (.cells dO tb (0,0)):=by rw[mK];exact setRow_heap w.drew b arr dO tb (0,0) ao
 obtain⟨zs,lY,AU⟩:=RL (P:=prog) iI 34 181 0 _ (by kernel_rfl) (by rfl) b (off+(i+(n-j))*3) (n-(i+(n-j))) (cap-(i+(n-j))) dO tb gj (by show off+(i+(n-j))*3+(n-(i+(n-j)))*3<=dO.size;omega) (by decide);rw[a6 (by omega)]at AU;obtain⟨oQ,qR⟩:∃oQ,oQ=iI.setRow b (laid dO (off+(i+(n-j))*3) zs):=⟨_,rfl⟩
 rw[<-qR]at AU;have c7:(prog.info? 181).map (·.size)=some 3:=by kernel_rfl
 have fJ:prog.underlying 34=some (.slice 181):=by kernel_rfl
 have uL:∀ty,(Builtin.append_ #[34,34] ty #[.slice (some ⟨b,off,none⟩) i cap,.slice (if cap=j then some ⟨b,off,none⟩ else some ⟨b,off+j*3,none⟩) (n-j) (cap-j)]).run prog w.drew=.ok (.slice (some ⟨b,off,none⟩) (i+(n-j)) cap) iI:=by
  intro ty;cases hi:prog.info? 181 with
  | none=>rw[hi]at c7;cases c7
  | some i0=>
   rw[hi]at c7;have aQ:i0.size=3:=by simpa using c7
   have key:∀cn:Addr,(∀x u,news[x]?=some u->w.drew.cell? (cn.add x)=some u)->(Builtin.append_ #[34,34] ty #[.slice (some ⟨b,off,none⟩) i cap,.slice (some cn) (n-j) (cap-j)]).run prog w.drew=.ok (.slice (some ⟨b,off,none⟩) (i+(n-j)) cap) iI:=by
    intro cn Io;have:=E3 (P:=prog) (t:=34) (ty:=ty) fJ hi w.drew b off i cap arr tb ao cn (n-j) (cap-j) news (by rw[wH,aQ]) Io sa (by omega) (by rw[aQ];omega);rw[this,mK,qQ,aQ];rfl
   split
   ·refine key _ fun x u aa=>?_
    have bl:news.length=0:=by rw[wH];have:n-j=0:=(by omega);rw[this]
    rw[List.length_eq_zero_iff.1 bl]at aa;simp at aa
   refine key _ fun x u aa=>?_
   rw[jF]at aa;obtain⟨U,_⟩:=Ui aa;rw[Addr.add_lit];exact cell_of_heap (w:=w.drew) ao U
 have X:Aside (oQ=(w.drew.setRow b dO).setRow b (laid dO (off+(i+(n-j))*3) zs)):=by rw[qR,mK];trivial
 have awy:i+(n-j)<n:=by omega
 have Zo:i<=cap:=by omega
 have awO:j<=cap:=by omega
 have mixed:prog.follows .mixedOrders=true:=by kernel_rfl
 clear mK qR gj ao jF wH sa lj c7 fJ h1
 go_enter func296,Tryz.ntmps296
 go_wp2_with fail
 go_region_law_o (refine ajb rfl (.tmp 22) (.tmp 25) 34 34 rfl _ _ (by simp[Act.eval,Act.put]) (by simp[Act.eval,Act.put]) (uL _) ?_)
 go_wp2
 all_goals (go_ret;exact⟨rfl,zs,lY,by rw[<-qQ];exact X⟩)
theorem bT.yp(xs:List bT):xs.map bT.e=gB (xs.map fun r=>r.e.map D.Ah):=by
 simp only[gB,List.map_map];rfl
theorem ajd(es:List (List Value))(i j:Nat)(lh:i<j)(aP:j<=es.length):k' prog 296 [.one (.fh 3 (gB es) none),.one (.ro (I i)),.one (.ro (I j))] [.one (.J 3 (gB (es.take i++es.drop j)))]:=by
 rintro w vs ω ⟨ar,aK,ad⟩ o6;obtain⟨y,bn,lG⟩:=ad 0 _ rfl;obtain⟨gw,fO,I8⟩:=ad 1 _ rfl;obtain⟨jU,fb,aar⟩:=ad 2 _ rfl;have e1:gw=.int .i64 i:=bX.HX I8;have e2:jU=.int .i64 j:=bX.HX aar;subst e1;subst e2;have rb:=OL aK bn fO fb;subst rb;rcases ar.row lG with⟨rfl,_⟩ | ⟨b,off,cap,arr,tb,da,rfl,az⟩
 ·simp at aP;omega
 have lD:ω b≠.bB:=by rw[da];simp
 have o4:=az.room;have dV:=az.fit;have h1:∀x v,off<=x->x<off+es.length*3->arr[x]?=some v->v.oneCell'=true:=by
  intro x v p0 ka bz;have bu:(x-off) / 3<es.length:=by omega
  have he:=gz bu;have hlen:=az.len _ (pK bu);have ig:(x-off) % 3<(es[(x-off) / 3]).length:=by omega
  have:=az.cell _ _ _ _ he (gz ig);rw[show off+(x-off) / 3*3+(x-off) % 3=x by omega,bz]at this;rw[eQ this];exact az.one _ (pK bu) _ (pK ig)
 refine (ajc b off es.length cap i j arr tb w az.heap o4 dV lh aP h1).mono ?_;rintro e aJ ⟨rfl,zs,Eu,rfl⟩;obtain⟨news,jF⟩:∃news,news=(arr.toList.drop (off+j*3)).take ((es.length-j)*3):=⟨_,rfl⟩
 rw[<-jF];have wH:news.length=(es.length-j)*3:=by rw[jF];simp;omega
 have jE:off+i*3+news.length<=arr.size:=by omega
 have lj:=rj jE;have cV:off+(i+(es.length-j))*3+zs.length<=(laid arr (off+i*3) news).size:=by omega
 have Eb:(es.take i++es.drop j).length=i+(es.length-j):=by simp;omega
 have cz:DB w ((w.drew.setRow b (laid arr (off+i*3) news)).setRow b (laid (laid arr (off+i*3) news) (off+(i+(es.length-j))*3) zs)) (fun b=>ω b≠.bB) 3 (es.take i++es.drop j) (.slice (some ⟨b,off,none⟩) (i+(es.length-j)) cap):=by
  refine⟨SL lD _ _,.inr ⟨b,off,cap,_,tb,.inl lD,by rw[Eb],?_,by omega,by rw[rj cV,lj];exact dV,?_,?_,?_⟩⟩
  ·exact setRow_heap _ b _ _ tb (0,0) (setRow_heap w.drew b arr _ tb (0,0) az.heap)
  ·intro e he;rcases gV.1 he with h | h
   ·exact az.len e (rN h)
   exact az.len e (ur h)
  ·intro e he;rcases gV.1 he with h | h
   ·exact az.one e (rN h)
   exact az.one e (ur h)
  intro x y e v aa bz;have gk:=(ey.1 aa).1;rw[Eb]at gk;have bn:y<3:=by
   have U:=(ey.1 bz).1;have:e.length=3:=by
    have:=fE aa;rcases gV.1 this with h | h
    ·exact az.len e (rN h)
    exact az.len e (ur h)
   omega
  rw[mU cV,a6 (by omega),mU jE];by_cases Er:x<i
  ·rw[a6 (by omega)];refine az.cell x y e v ?_ bz;rwa[x9 (by simp;omega),hj,aZ Er]at aa
  rw[aZ (by omega),jF,hj,aZ (by omega),gU,iX];have:(es.take i).length=i:=by simp;omega
  rw[vT (by omega),this,gU]at aa;have:=az.cell (j+(x-i)) y e v aa bz;rw[<-this]
  congr 1
  omega
 obtain⟨a1,U,ax,aF⟩:=cz.res;refine⟨_,rfl,cz.ON.full o6,a1,U,ax,SK ?_,aF⟩;intro fA kS eG k dP cB jC af
 match fA with
 | 0=>simp at jC;subst jC;simp only[GA.cell]at af;split at af<;>simp at af
 | 1=>simp at jC;subst jC;simp only[GA.cell]at af;split at af<;>simp at af
 | 2=>simp at jC;subst jC;simp only[GA.cell]at af;split at af<;>simp at af
 | _+3=>simp at jC
theorem aje(xs:List bT)(i j:Nat)(lh:i<j)(aP:j<=xs.length):k' prog 296 [.one (.fh 3 (xs.map bT.e) none),.one (.ro (I i)),.one (.ro (I j))] [.one (.J 3 ((xs.take i++xs.drop j).map bT.e))]:=by
 have:=ajd (xs.map fun r=>r.e.map D.Ah) i j lh (by simpa using aP);rw[bT.yp,bT.yp];simpa using this
end Go.Proofs.YtdchjefneblpgaaGreat
namespace Go.Proofs.YtdchjefneblpgaaGreat
open Go.Sx Go.RowKit Go.Proofs.Tryz
def jO(w:Nat):List b9:=[⟨1,w,0⟩,⟨3,w,0⟩,⟨2,w,0⟩,⟨7,w,0⟩]
def lp(a b:Nat):List b9:=if a=b then [] else [⟨4,a,b⟩,⟨5,a,b⟩]
def mz(n:Nat):List b9:=(List.range n).flatMap jO
def qi(a n:Nat):List b9:=(List.range n).flatMap (lp a)
def mX(m n:Nat):List b9:=(List.range n).flatMap fun a=>qi a m
def oneOf(e:Nat):List b9:=[⟨6,e,0⟩]
def ua(n:Nat):List b9:=(List.range n).flatMap oneOf
def fD(c:aU):List b9:=mz (gr c.ay.aq 0 4).toNat++mX (gr c.ay.aq 0 4).toNat (gr c.ay.aq 0 4).toNat++ua 4
theorem Uj(n:Nat):mz (n+1)=mz n++jO n:=by simp[mz,List.range_succ]
theorem Uk(a n:Nat):qi a (n+1)=qi a n++lp a n:=by simp[qi,List.range_succ]
theorem Ul(m n:Nat):mX m (n+1)=mX m n++qi n m:=by simp[mX,List.range_succ]
theorem Um(n:Nat):ua (n+1)=ua n++[⟨6,n,0⟩]:=by simp[ua,List.range_succ,oneOf]
theorem CI(n:Nat):(mz n).length<=n*4:=by
 have h:=zH jO 4 (fun _=>by simp[jO]) (List.range n);rwa[vZ]at h
theorem LH(a n:Nat):(qi a n).length<=n*2:=by
 have h:=zH (lp a) 2 (fun b=>by unfold lp;split<;>simp) (List.range n);rwa[vZ]at h
theorem CJ(m n:Nat):(mX m n).length<=n*(m*2):=by
 have h:=zH (fun a=>qi a m) (m*2) (fun a=>LH a m) (List.range n);rwa[vZ]at h
theorem LI(n:Nat):(ua n).length<=n*1:=by
 have h:=zH oneOf 1 (fun _=>by simp[oneOf]) (List.range n);rwa[vZ]at h
theorem LJ(n:Int):∃k:Nat,gr n 0 4=k/\k<=4:=by
 refine⟨(gr n 0 4).toNat,?_,?_⟩<;>(unfold gr;simp only[show ¬(4:Int)<0 by omega,k9];split<;>(try split)<;>omega)
theorem Br(a b:Nat)(ad:a<=4)(ao:b<=4):a*(b*2)<=32:=by
 have:=Nat.mul_le_mul ad (hR 2 ao);omega
theorem LK(c:aU):(fD c).length<=100:=by
 obtain⟨k,hk,aF⟩:=LJ c.ay.aq;unfold fD;rw[hk];have a:=CI k;have b:=CJ k k;have e:=LI 4;have m:=Br k k aF aF;simp only[k7,nd];omega
theorem TO(c:aU):aw 129 [.agg c.e] [.one (.J 3 ((fD c).map b9.e))]:=by
 have b:=Fk c.ay.aq 0 4;obtain⟨k,hk,aF⟩:=LJ c.ay.aq;unfold fD;rw[hk]at b ⊢;have aaS:=CI k;have aaT:=CJ k k;have m:=Br k k aF aF;have fS:=eR (P:=prog) (c:=(av f129 0)) (cL 0) k (fun i:Nat=>BX k i ((mz i).map b9.e)) (fun i hi=>by
  have h1:=CI i;rw[Uj,jV];exact aox ⟨dr (by omega),by simp;omega,by simp;omega,cd b9.e b9.flat (jO i),⟨by omega,by omega⟩,ae⟩) (aoy ⟨ee (by omega),ae⟩)
 have uZ:=fun (a:Nat) (ad:a<k)=>eR (P:=prog) (c:=(av f129 2)) (cL 4) k (fun i:Nat=>xi k a i ((mz k++mX k a++qi a i).map b9.e)) (fun i hi=>by
  have h1:=LH a i;have U:=CJ k a;have ax:=Br a k (by omega) aF;rw[Uk,<-pL,jV (l₂:=lp a i)];by_cases dD:a=i
  ·have e:(lp a i).map b9.e=[]:=by simp[lp,dD]
   rw[e,jX];exact aoA ⟨dr (by omega),by simp[dD],⟨by omega,by omega⟩,ae⟩
  have e:(lp a i).map b9.e=[[I 4,I a,I i],[I 5,I a,I i]]:=by simp[lp,dD,b9.e]
  rw[e];have bg:Flat [[I 4,I a,I i],[I 5,I a,I i]]:=by rw[<-e];exact cd b9.e b9.flat _
  exact aoz ⟨dr (by omega),by simp;omega,by simp;omega,by simp;omega,bg,⟨by omega,by omega⟩,ae⟩) (aoB ⟨ee (by omega),ae⟩)
 have lZ:=eR (P:=prog) (c:=(av f129 1)) (cL 2) k (fun i:Nat=>BY k i ((mz k++mX k i).map b9.e)) (fun i hi=>by
  have h:=uZ i hi;rw[Ul,<-pL];simp only[qi,yd,Ao,jX]at h;exact aoC ⟨dr (by omega),h,⟨by omega,by omega⟩,ae⟩) (an3 ⟨ee (by omega),ae⟩)
 have Ex:=eR (P:=prog) (c:=(av f129 3)) (cL 6) 4 (fun i:Nat=>BZ i ((mz k++mX k k++ua i).map b9.e)) (fun i hi=>by
  have h1:=LI i;rw[Um,<-pL,jV (l₂:=[_])];exact an4 ⟨dr (by omega),by simp;omega,by simp;omega,cd b9.e b9.flat [⟨6,i,0⟩],⟨by omega,by omega⟩,ae⟩) (an5 ⟨ee (by omega),ae⟩)
 simp only[mX,yd,Ao,jX]at lZ;simp only[ua,yd,Ao,jX]at Ex;rw[nd];exact an6 ⟨b,fS,lZ,Ex,ae⟩
theorem ajf(c:aU):aw 201 [.agg c.e] [.one (.J 3 ((fD c).map b9.e))]:=by
 have b:=RS c.ay.aq 0 4;obtain⟨k,hk,aF⟩:=LJ c.ay.aq;unfold fD;rw[hk]at b ⊢;have aaS:=CI k;have aaT:=CJ k k;have m:=Br k k aF aF;have lZ:=fun (w:Nat) (hw:w<k)=>eR (P:=prog) (c:=(av f201 1)) (cL 2) 4 (fun i:Nat=>tV k w i ((mz w).map b9.e++((jO w).take i).map b9.e)) (fun i hi=>by
  have h1:=CI w
  match i,hi with
  | 0,_=>exact x2 (tV k w (((0:Nat):Int)+1)) (Fj ⟨rfl,by omega,by decide,rfl,by simp[jO];omega,by simp[jO];omega,cd b9.e b9.flat [⟨1,w,0⟩],⟨by omega,by omega⟩,ae⟩) (by simp[jO,b9.e])
  | 1,_=>exact x2 (tV k w (((1:Nat):Int)+1)) (Fj ⟨rfl,by omega,by decide,rfl,by simp[jO];omega,by simp[jO];omega,cd b9.e b9.flat [⟨3,w,0⟩],⟨by omega,by omega⟩,ae⟩) (by simp[jO,b9.e])
  | 2,_=>exact x2 (tV k w (((2:Nat):Int)+1)) (Fj ⟨rfl,by omega,by decide,rfl,by simp[jO];omega,by simp[jO];omega,cd b9.e b9.flat [⟨2,w,0⟩],⟨by omega,by omega⟩,ae⟩) (by simp[jO,b9.e])
  | 3,_=>exact x2 (tV k w (((3:Nat):Int)+1)) (Fj ⟨rfl,by omega,by decide,rfl,by simp[jO];omega,by simp[jO];omega,cd b9.e b9.flat [⟨7,w,0⟩],⟨by omega,by omega⟩,ae⟩) (by simp[jO,b9.e])) (an7 ⟨rfl,ae⟩)
 have fS:=eR (P:=prog) (c:=(av f201 0)) (cL 0) k (fun i:Nat=>B0 k i ((mz i).map b9.e)) (fun i hi=>by
  have h:=lZ i hi;rw[Uj,jV];simp only[List.take_zero,List.map_nil,jX]at h;exact an8 ⟨dr (by omega),h,⟨by omega,by omega⟩,ae⟩) (an9 ⟨ee (by omega),ae⟩)
 have Ex:=fun (a:Nat) (ad:a<k)=>eR (P:=prog) (c:=(av f201 3)) (cL 6) k (fun i:Nat=>xj k a i ((mz k++mX k a++qi a i).map b9.e)) (fun i hi=>by
  have h1:=LH a i;have U:=CJ k a;have ax:=Br a k (by omega) aF;rw[Uk,<-pL,jV (l₂:=lp a i)];by_cases dD:a=i
  ·have e:(lp a i).map b9.e=[]:=by simp[lp,dD]
   rw[e,jX];exact aob ⟨dr (by omega),by simp[dD],⟨by omega,by omega⟩,ae⟩
  have e:(lp a i).map b9.e=[[I 4,I a,I i],[I 5,I a,I i]]:=by simp[lp,dD,b9.e]
  rw[e];have bg:Flat [[I 4,I a,I i],[I 5,I a,I i]]:=by rw[<-e];exact cd b9.e b9.flat _
  exact aoa ⟨dr (by omega),by simp;omega,by simp;omega,by simp;omega,bg,⟨by omega,by omega⟩,ae⟩) (aoc ⟨ee (by omega),ae⟩)
 have uZ:=eR (P:=prog) (c:=(av f201 2)) (cL 4) k (fun i:Nat=>B1 k i ((mz k++mX k i).map b9.e)) (fun i hi=>by
  have h:=Ex i hi;rw[Ul,<-pL];simp only[qi,yd,Ao,jX]at h;exact apE ⟨dr (by omega),h,⟨by omega,by omega⟩,ae⟩) (apF ⟨ee (by omega),ae⟩)
 have Qc:=eR (P:=prog) (c:=(av f201 4)) (cL 8) 4 (fun i:Nat=>B2 i ((mz k++mX k k++ua i).map b9.e)) (fun i hi=>by
  have h1:=LI i;rw[Um,<-pL,jV (l₂:=[_])];exact apG ⟨dr (by omega),by simp;omega,by simp;omega,cd b9.e b9.flat [⟨6,i,0⟩],⟨by omega,by omega⟩,ae⟩) (apH ⟨ee (by omega),ae⟩)
 simp only[mX,yd,Ao,jX]at uZ;simp only[ua,yd,Ao,jX]at Qc;rw[nd];exact apI ⟨b,fS,uZ,Qc,ae⟩
