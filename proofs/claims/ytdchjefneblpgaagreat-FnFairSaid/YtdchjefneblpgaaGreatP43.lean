import Derived.Test.YtdchjefneblpgaaGreatC6
import Derived.Test.YtdchjefneblpgaaGreatQ2
import Derived.Test.YtdchjefneblpgaaGreatGV
import Derived.WalkKit
import Derived.Deep.RegionLaw
import Derived.Shelf.RegionOpenPlain
import Derived.Lib.SliceRun
import Derived.Deep.LoopGhost
import Derived.Lib.Walk
set_option linter.unusedVariables false
set_option linter.unusedSimpArgs false
namespace Go.Proofs.YtdchjefneblpgaaGreat
open Go.Sx Go.RowKit Go.Proofs.Tryz
theorem A'(xs:List Int):Flat (xs.map bc):=dz bc (fun _ _ aE=>⟨_,List.mem_singleton.1 aE⟩) xs
theorem yU(xs:List Bool):Flat (xs.map cv):=dz cv (fun _ _ aE=>⟨_,List.mem_singleton.1 aE⟩) xs
theorem cx.flat(r:cx):∀d∈r.e,∃x,d=.v x:=by
 intro d aE;simp only[cx.e,eH,pW,or_false]at aE;rcases aE with rfl | rfl<;>exact⟨_,rfl⟩
theorem bT.flat(r:bT):∀d∈r.e,∃x,d=.v x:=by
 intro d aE;simp only[bT.e,eH,pW,or_false]at aE;rcases aE with rfl | rfl | rfl<;>exact⟨_,rfl⟩
theorem bP.flat(r:bP):∀d∈r.e,∃x,d=.v x:=by
 intro d aE;simp only[bP.e,eH,pW,or_false]at aE;rcases aE with rfl | rfl | rfl | rfl | rfl<;>exact⟨_,rfl⟩
theorem As{α:Type}{f:α->List D}{xs:List α}{i:Nat}{a:α}(h:xs[i]?=some a):(xs.take (i+1)).map f=(xs.take i).map f++[f a]:=by simp[qH,h]
theorem nl{l:List (List D)}{k m:Nat}(h:l.length*k<=m):(([]:List (List D)).length+l.length)*k<=m:=by simpa using h
theorem k8{l:List (List D)}{m:Nat}(h:l.length<=m):([]:List (List D)).length+l.length<=m:=by simpa using h
theorem bV.Sa{g:bV}(h:g.sz<=8388608){x:Node}(af:x∈g.nodes):x.sz<=8388608:=xC (sz:=Node.sz) (xs:=g.nodes) (m:=8388608) (by simp only[bV.sz]at h;omega) af
theorem bV.Sb{g:bV}(h:g.sz<=8388608):g.nodes.length<=8388608:=by simp only[bV.sz,fs]at h;omega
variable{c:aT}
theorem aT.Pt(h:c.sz<=8388608){w:aK}(hw:w∈c.ar):w.sz<=8388608:=xC (sz:=aK.sz) (xs:=c.ar) (m:=8388608) (by simp only[aT.sz]at h;omega) hw
theorem aT.K1(h:c.sz<=8388608){w:bm}(hw:w∈c.bJ):w.sz<=8388608:=xC (sz:=bm.sz) (xs:=c.bJ) (m:=8388608) (by simp only[aT.sz]at h;omega) hw
theorem aT.n2(h:c.sz<=8388608):c.ay.sz<=8388608:=by simp only[aT.sz]at h;omega
theorem afy(x:Node)(h:x.sz<=8388608):aq 276 [.agg x.e] [.agg x.e]:=by
 simp only[Node.sz]at h;exact ae3 ⟨nl (by simp;omega),k8 (by simp;omega),A' _,aa⟩
theorem Ho(x:bm)(h:x.sz<=8388608):aq 256 [.agg x.e] [.agg x.e]:=
 ae7 ⟨Hj x.queue h,aa⟩
theorem Hp(x:bm)(h:x.sz<=8388608):aq 279 [.agg x.e] [.agg x.e]:=by
 simp only[bm.sz]at h;exact afe ⟨nl (by simp;omega),k8 (by simp;omega),dz _ az.flat _,aa⟩
theorem Au(x:aK)(h:x.sz<=8388608):aq 255 [.agg x.e] [.agg x.e]:=by
 simp only[aK.sz]at h;exact ae8 ⟨Hj x.queue (by omega),Hj x.b8 (by omega),Hj x.bR (by omega),vN x.cells (by omega),nl (by simp;omega),k8 (by simp;omega),A' _,nl (by simp;omega),k8 (by simp;omega),yU _,nl (by simp;omega),k8 (by simp;omega),yU _,nl (by simp;omega),k8 (by simp;omega),dz _ cx.flat _,aa⟩
theorem Av(x:aK)(h:x.sz<=8388608):aq 174 [.agg x.e] [.agg x.e]:=by
 simp only[aK.sz]at h;exact afi ⟨nl (by simp;omega),k8 (by simp;omega),dz _ az.flat _,nl (by simp;omega),k8 (by simp;omega),dz _ az.flat _,nl (by simp;omega),k8 (by simp;omega),dz _ az.flat _,nl (by simp;omega),k8 (by simp;omega),dz _ Cell.flat _,nl (by simp;omega),k8 (by simp;omega),A' _,nl (by simp;omega),k8 (by simp;omega),yU _,nl (by simp;omega),k8 (by simp;omega),yU _,nl (by simp;omega),k8 (by simp;omega),dz _ cx.flat _,aa⟩
theorem afz(g:bV)(ax:g.sz<=8388608):aq 181 [.agg g.e] [.agg g.e]:=by
 have aZ:=bV.Sb ax;have l:=dY (P:=prog) (c:=(ap f181 0)) (cn 0) g.nodes.length (fun i:Nat=>Dl (g.nodes.map Node.e) i ((g.nodes.take i).map Node.e) g.ar g.cap 0 0) (fun i hi=>by
  obtain⟨a,ai⟩:=c4 hi;rw[As ai];exact ae4 ⟨b5 hi,bA,bH hi,bC Node.e ai,afy a (bV.Sa ax (c9 ai)),by simp;omega,by simp;omega,db hi aZ,aa⟩) (ae5 ⟨dw,aa⟩)
 rw[kS]at l;exact ae6 ⟨l,aa⟩
theorem V3(g:bV)(ax:g.sz<=8388608):aq 123 [.agg g.e] [.agg g.e]:=by
 have aZ:=bV.Sb ax;have l:=dY (P:=prog) (c:=(ap f123 0)) (cn 0) g.nodes.length (fun i:Nat=>Dp i ((g.nodes.take i).map Node.e) g.ar g.cap 0 0 (g.nodes.map Node.e) g.ar g.cap) (fun i hi=>by
  obtain⟨a,ai⟩:=c4 hi;have ao:=bV.Sa ax (c9 ai);simp only[Node.sz]at ao;rw[As ai];exact aff ⟨b5 hi,bA,bH hi,bC Node.e ai,nl (by simp;omega),k8 (by simp;omega),A' _,by simp;omega,by simp;omega,db hi aZ,aa⟩) (afg ⟨dw,aa⟩)
 rw[kS]at l;exact afh ⟨l,aa⟩
theorem rJ(c:aT)(ak:c.sz<=8388608):aq 144 [.agg c.e] [.agg c.e]:=by
 have hw:=aT.wk ak;have al:=aT.B4 ak;have bG:c.tokens.length<=8388608:=by simp only[aT.sz,fs]at ak;omega
 have af:c.news.length<=8388608:=by simp only[aT.sz,fs]at ak;omega
 have eF:=dY (P:=prog) (c:=(ap f144 0)) (cn 0) c.ar.length (fun i:Nat=>Dm (c.ar.map aK.e) i (c.ay.nodes.map Node.e) c.ay.ar c.ay.cap ((c.ar.take i).map aK.e) (c.tokens.map bP.e) (c.news.map bT.e) 0 0 (c.ay.nodes.map Node.e) c.ay.ar c.ay.cap (c.ar.map aK.e) (c.bJ.map bm.e) (c.tokens.map bP.e) (c.news.map bT.e)) (fun i hi=>by
  obtain⟨a,ai⟩:=c4 hi;rw[As ai];exact ae9 ⟨b5 hi,bA,bH hi,bC aK.e ai,Au a (aT.Pt ak (c9 ai)),by simp;omega,by simp;omega,db hi hw,aa⟩) (afa ⟨dw,aa⟩)
 have hz:=dY (P:=prog) (c:=(ap f144 1)) (cn 2) c.bJ.length (fun i:Nat=>Dn (c.bJ.map bm.e) i (c.ay.nodes.map Node.e) c.ay.ar c.ay.cap (c.ar.map aK.e) ((c.bJ.take i).map bm.e) (c.tokens.map bP.e) (c.news.map bT.e) 0 0) (fun i hi=>by
  obtain⟨a,ai⟩:=c4 hi;rw[As ai];exact afb ⟨b5 hi,bA,bH hi,bC bm.e ai,Ho a (aT.K1 ak (c9 ai)),by simp;omega,by simp;omega,db hi al,aa⟩) (afc ⟨dw,aa⟩)
 rw[kS]at eF hz;exact afd ⟨afz c.ay (aT.n2 ak),nl (by simp;omega),k8 (by simp;omega),dz _ bP.flat _,nl (by simp;omega),k8 (by simp;omega),dz _ bT.flat _,eF,hz,aa⟩
theorem afA(c:aT)(ak:c.sz<=8388608):aq 186 [.agg c.e] [.agg c.e]:=by
 have hw:=aT.wk ak;have al:=aT.B4 ak;have bG:c.tokens.length<=8388608:=by simp only[aT.sz,fs]at ak;omega
 have af:c.news.length<=8388608:=by simp only[aT.sz,fs]at ak;omega
 have eF:=dY (P:=prog) (c:=(ap f186 0)) (cn 0) c.ar.length (fun i:Nat=>Dq i (c.ay.nodes.map Node.e) c.ay.ar c.ay.cap ((c.ar.take i).map aK.e) (c.tokens.map bP.e) (c.news.map bT.e) 0 0 (c.ay.nodes.map Node.e) c.ay.ar c.ay.cap (c.ar.map aK.e) (c.bJ.map bm.e) (c.tokens.map bP.e) (c.news.map bT.e)) (fun i hi=>by
  obtain⟨a,ai⟩:=c4 hi;rw[As ai];exact aet ⟨b5 hi,bA,bH hi,bC aK.e ai,Av a (aT.Pt ak (c9 ai)),by simp;omega,by simp;omega,db hi hw,aa⟩) (aeu ⟨dw,aa⟩)
 have hz:=dY (P:=prog) (c:=(ap f186 1)) (cn 2) c.bJ.length (fun i:Nat=>Dr i (c.ay.nodes.map Node.e) c.ay.ar c.ay.cap (c.ar.map aK.e) ((c.bJ.take i).map bm.e) (c.tokens.map bP.e) (c.news.map bT.e) 0 0 (c.ay.nodes.map Node.e) c.ay.ar c.ay.cap (c.ar.map aK.e) (c.bJ.map bm.e) (c.tokens.map bP.e) (c.news.map bT.e)) (fun i hi=>by
  obtain⟨a,ai⟩:=c4 hi;rw[As ai];exact aev ⟨b5 hi,bA,bH hi,bC bm.e ai,Hp a (aT.K1 ak (c9 ai)),by simp;omega,by simp;omega,db hi al,aa⟩) (aew ⟨dw,aa⟩)
 rw[kS]at eF hz;exact aex ⟨V3 c.ay (aT.n2 ak),nl (by simp;omega),k8 (by simp;omega),dz _ bP.flat _,nl (by simp;omega),k8 (by simp;omega),dz _ bT.flat _,eF,hz,aa⟩
end Go.Proofs.YtdchjefneblpgaaGreat
namespace Go.Proofs.YtdchjefneblpgaaGreat
open Go.Sx Go.RowKit Go.Shelf Go.Lib Go.Proofs.Tryz
theorem afB{P:Program}{ops:Array Oper}{o:Oper}{a:Act}{w:World}{K:Act->World->Prop}{Q:Exit->Act->World->Prop}{E:Prop}
  (ax:o.guard=none) (x y:Operand) (Zy ty:TypeId) (re:o.op=Op.call { callee:=Callee.builtin Builtin.append,args:=#[x,y],argTypes:=#[Zy,ty] })
  (v u:Value) (af:a.eval x=v) (bD:a.eval y=u) {kR:Value} {aP:World} (aD:(Builtin.append_ #[Zy,ty] o.type #[v,u]).run P w=.ok kR aP) (ig:K (a.put o.dst kR) aP):
  if Region.wanted o (yielded ops a.tmps)=true then Oper.wp P o a w K Q else E:=by
 have hw:Region.wanted o (yielded ops a.tmps)=true:=by simp[Region.wanted,ax]
 rw[bn hw];unfold Oper.wp;simp[execOp,re,resolve,invoke,builtin,af,bD,aD,Result.andThen];exact ig
theorem V4{arr:Array Value}{p m j:Nat}{v:Value}(h:((arr.toList.drop p).take m)[j]?=some v):arr[p+j]?=some v/\j<m:=by
 rw[kb]at h;split at h
 ·rw[lJ,mD]at h;exact⟨h,‹_›⟩
 cases h
theorem cell_of_heap{w:World}{b:Nat}{arr:Array Value}{tb:TypeId}(aw:w.heap[b]?=some (.cells arr tb (0,0))){x:Nat}{v:Value}(h:arr[x]?=some v):w.cell? ⟨b,x,none⟩=some v:=by
 simp[World.cell?,aw,h]
theorem az.yQ(xs:List az):xs.map az.e=gD (xs.map fun r=>r.e.map D.AL):=by
 simp only[gD,List.map_map];rfl
set_option maxHeartbeats 4000000 in
set_option maxRecDepth 1000000 in
theorem afC(b off n cap i j:Nat)(arr:Array Value)(tb:TypeId)(w:World)(aw:w.heap[b]?=some (.cells arr tb (0,0)))(aZ:n<=cap)(er:off+cap*3<=arr.size)(oe:i<j)(bk:j<=n)
  (h1:∀x v,off<=x->x<off+n*3->arr[x]?=some v->v.oneCell'=true):
  Calls prog 296 #[.slice (some ⟨b,off,none⟩) n cap,.int .i64 i,.int .i64 j] w fun e aP=>e=.returned (.slice (some ⟨b,off,none⟩) (i+(n-j)) cap)/\
   ∃zs:List Value,zs.length=(n-(i+(n-j)))*3/\aP=(w.drew.setRow b (laid arr (off+i*3) ((arr.toList.drop (off+j*3)).take ((n-j)*3)))).setRow b (laid (laid arr (off+i*3) ((arr.toList.drop (off+j*3)).take ((n-j)*3))) (off+(i+(n-j))*3) zs):=by
 obtain⟨news,jU⟩:∃news,news=(arr.toList.drop (off+j*3)).take ((n-j)*3):=⟨_,rfl⟩
 have ve:news.length=(n-j)*3:=by rw[jU];simp;omega
 have sn:∀u∈news,u.oneCell'=true:=by
  intro u hu;obtain⟨x,af⟩:=pS.1 hu;rw[jU]at af;obtain⟨U,aA⟩:=V4 af;exact h1 _ u (by omega) (by omega) U
 rw[<-jU];obtain⟨dL,q0⟩:∃dL,dL=laid arr (off+i*3) news:=⟨_,rfl⟩
 have mj:dL.size=arr.size:=by rw[q0];exact rE (by omega)
 obtain⟨iG,mO⟩:∃iG,iG=w.drew.setRow b dL:=⟨_,rfl⟩
 have hl:iG.heap[b]?=some (.cells dL tb (0,0)):=by rw[mO];exact setRow_heap w.drew b arr dL tb (0,0) aw
 obtain⟨zs,mU,Bv⟩:=Sr (P:=prog) iG 34 181 0 _ (by kernel_rfl) (by rfl) b (off+(i+(n-j))*3) (n-(i+(n-j))) (cap-(i+(n-j))) dL tb hl (by show off+(i+(n-j))*3+(n-(i+(n-j)))*3<=dL.size;omega) (by decide);rw[bw (by omega)]at Bv;obtain⟨oP,q2⟩:∃oP,oP=iG.setRow b (laid dL (off+(i+(n-j))*3) zs):=⟨_,rfl⟩
 rw[<-q2]at Bv;have dM:(prog.info? 181).map (·.size)=some 3:=by kernel_rfl
 have gK:prog.underlying 34=some (.slice 181):=by kernel_rfl
 have u0:∀ty,(Builtin.append_ #[34,34] ty #[.slice (some ⟨b,off,none⟩) i cap,.slice (if cap=j then some ⟨b,off,none⟩ else some ⟨b,off+j*3,none⟩) (n-j) (cap-j)]).run prog w.drew=.ok (.slice (some ⟨b,off,none⟩) (i+(n-j)) cap) iG:=by
  intro ty;cases hi:prog.info? 181 with
  | none=>rw[hi]at dM;cases dM
  | some i0=>
   rw[hi]at dM;have a':i0.size=3:=by simpa using dM
   have key:∀cy:Addr,(∀x u,news[x]?=some u->w.drew.cell? (cy.add x)=some u)->(Builtin.append_ #[34,34] ty #[.slice (some ⟨b,off,none⟩) i cap,.slice (some cy) (n-j) (cap-j)]).run prog w.drew=.ok (.slice (some ⟨b,off,none⟩) (i+(n-j)) cap) iG:=by
    intro cy JA;have:=FQ (P:=prog) (t:=34) (ty:=ty) gK hi w.drew b off i cap arr tb aw cy (n-j) (cap-j) news (by rw[ve,a']) JA sn (by omega) (by rw[a'];omega);rw[this,mO,q0,a'];rfl
   split
   ·refine key _ fun x u af=>?_
    have bO:news.length=0:=by rw[ve];have:n-j=0:=(by omega);rw[this]
    rw[List.length_eq_zero_iff.1 bO]at af;simp at af
   refine key _ fun x u af=>?_
   rw[jU]at af;obtain⟨U,_⟩:=V4 af;rw[Addr.add_lit];exact cell_of_heap (w:=w.drew) aw U
 have X:Aside (oP=(w.drew.setRow b dL).setRow b (laid dL (off+(i+(n-j))*3) zs)):=by rw[q2,mO];trivial
 have aCK:i+(n-j)<n:=by omega
 have acE:i<=cap:=by omega
 have aDe:j<=cap:=by omega
 have mixed:prog.follows .mixedOrders=true:=by kernel_rfl
 clear mO q2 hl aw jU ve sn mj dM gK h1
 go_enter func296,Tryz.ntmps296
 go_wp2_with fail
 go_region_law_o (refine afB rfl (.tmp 22) (.tmp 25) 34 34 rfl _ _ (by simp[Act.eval,Act.put]) (by simp[Act.eval,Act.put]) (u0 _) ?_)
 go_wp2
 all_goals (go_ret;exact⟨rfl,zs,mU,by rw[<-q0];exact X⟩)
theorem bT.yQ(xs:List bT):xs.map bT.e=gD (xs.map fun r=>r.e.map D.AL):=by
 simp only[gD,List.map_map];rfl
theorem afD(es:List (List Value))(i j:Nat)(oe:i<j)(bk:j<=es.length):kY prog 296 [.one (.fk 3 (gD es) none),.one (.ro (I i)),.one (.ro (I j))] [.one (.J 3 (gD (es.take i++es.drop j)))]:=by
 rintro w vs ω ⟨ax,aZ,ai⟩ o6;obtain⟨y,bD,lu⟩:=ai 0 _ rfl;obtain⟨gO,gU,Ki⟩:=ai 1 _ rfl;obtain⟨j9,fO,adF⟩:=ai 2 _ rfl;have e1:gO=.int .i64 i:=b4.Jd Ki;have e2:j9=.int .i64 j:=b4.Jd adF;subst e1;subst e2;have ss:=QJ aZ bD gU fO;subst ss;rcases ax.row lu with⟨rfl,_⟩ | ⟨b,off,cap,arr,tb,dt,rfl,aD⟩
 ·simp at bk;omega
 have mS:ω b≠.bM:=by rw[dt];simp
 have o3:=aD.room;have er:=aD.fit;have h1:∀x v,off<=x->x<off+es.length*3->arr[x]?=some v->v.oneCell'=true:=by
  intro x v qg km bI;have bS:(x-off) / 3<es.length:=by omega
  have he:=iD bS;have hlen:=aD.len _ (pU bS);have kj:(x-off) % 3<(es[(x-off) / 3]).length:=by omega
  have:=aD.cell _ _ _ _ he (iD kj);rw[show off+(x-off) / 3*3+(x-off) % 3=x by omega,bI]at this;rw[gJ this];exact aD.one _ (pU bS) _ (pU kj)
 refine (afC b off es.length cap i j arr tb w aD.heap o3 er oe bk h1).mono ?_;rintro e aP ⟨rfl,zs,Fq,rfl⟩;obtain⟨news,jU⟩:∃news,news=(arr.toList.drop (off+j*3)).take ((es.length-j)*3):=⟨_,rfl⟩
 rw[<-jU];have ve:news.length=(es.length-j)*3:=by rw[jU];simp;omega
 have iZ:off+i*3+news.length<=arr.size:=by omega
 have mj:=rE iZ;have c3:off+(i+(es.length-j))*3+zs.length<=(laid arr (off+i*3) news).size:=by omega
 have E9:(es.take i++es.drop j).length=i+(es.length-j):=by simp;omega
 have cH:Ew w ((w.drew.setRow b (laid arr (off+i*3) news)).setRow b (laid (laid arr (off+i*3) news) (off+(i+(es.length-j))*3) zs)) (fun b=>ω b≠.bM) 3 (es.take i++es.drop j) (.slice (some ⟨b,off,none⟩) (i+(es.length-j)) cap):=by
  refine⟨Tj mS _ _,.inr ⟨b,off,cap,_,tb,.inl mS,by rw[E9],?_,by omega,by rw[rE c3,mj];exact er,?_,?_,?_⟩⟩
  ·exact setRow_heap _ b _ _ tb (0,0) (setRow_heap w.drew b arr _ tb (0,0) aD.heap)
  ·intro e he;rcases ia.1 he with h | h
   ·exact aD.len e (td h)
   exact aD.len e (wq h)
  ·intro e he;rcases ia.1 he with h | h
   ·exact aD.one e (td h)
   exact aD.one e (wq h)
  intro x y e v af bI;have gm:=(gk.1 af).1;rw[E9]at gm;have bD:y<3:=by
   have U:=(gk.1 bI).1;have:e.length=3:=by
    have:=gb af;rcases ia.1 this with h | h
    ·exact aD.len e (td h)
    exact aD.len e (wq h)
   omega
  rw[mX c3,bw (by omega),mX iZ];by_cases zm:x<i
  ·rw[bw (by omega)];refine aD.cell x y e v ?_ bI;rwa[AR (by simp;omega),kb,bn zm]at af
  rw[bn (by omega),jU,kb,bn (by omega),lJ,mD];have:(es.take i).length=i:=by simp;omega
  rw[wo (by omega),this,lJ]at af;have:=aD.cell (j+(x-i)) y e v af bI;rw[<-this]
  congr 1
  omega
 obtain⟨bf,U,aA,aJ⟩:=cH.res;refine⟨_,rfl,cH.QL.full o6,bf,U,aA,Ti ?_,aJ⟩;intro f' kH fi k dR cD jt ak
 match f' with
 | 0=>simp at jt;subst jt;simp only[GA.cell]at ak;split at ak<;>simp at ak
 | 1=>simp at jt;subst jt;simp only[GA.cell]at ak;split at ak<;>simp at ak
 | 2=>simp at jt;subst jt;simp only[GA.cell]at ak;split at ak<;>simp at ak
 | _+3=>simp at jt
theorem afE(xs:List bT)(i j:Nat)(oe:i<j)(bk:j<=xs.length):kY prog 296 [.one (.fk 3 (xs.map bT.e) none),.one (.ro (I i)),.one (.ro (I j))] [.one (.J 3 ((xs.take i++xs.drop j).map bT.e))]:=by
 have:=afD (xs.map fun r=>r.e.map D.AL) i j oe (by simpa using bk);rw[bT.yQ,bT.yQ];simpa using this
end Go.Proofs.YtdchjefneblpgaaGreat
namespace Go.Proofs.YtdchjefneblpgaaGreat
open Go.Sx Go.RowKit Go.Proofs.Tryz
def jC(w:Nat):List b':=[⟨1,w,0⟩,⟨3,w,0⟩,⟨2,w,0⟩,⟨7,w,0⟩]
def lc(a b:Nat):List b':=if a=b then [] else [⟨4,a,b⟩,⟨5,a,b⟩]
def mr(n:Nat):List b':=(List.range n).flatMap jC
def qw(a n:Nat):List b':=(List.range n).flatMap (lc a)
def mY(m n:Nat):List b':=(List.range n).flatMap fun a=>qw a m
def oneOf(e:Nat):List b':=[⟨6,e,0⟩]
def ui(n:Nat):List b':=(List.range n).flatMap oneOf
def ff(c:aT):List b':=mr (fT c.ay.ar 0 4).toNat++mY (fT c.ay.ar 0 4).toNat (fT c.ay.ar 0 4).toNat++ui 4
theorem V5(n:Nat):mr (n+1)=mr n++jC n:=by simp[mr,List.range_succ]
theorem V6(a n:Nat):qw a (n+1)=qw a n++lc a n:=by simp[qw,List.range_succ]
theorem V7(m n:Nat):mY m (n+1)=mY m n++qw n m:=by simp[mY,List.range_succ]
theorem V8(n:Nat):ui (n+1)=ui n++[⟨6,n,0⟩]:=by simp[ui,List.range_succ,oneOf]
theorem CE(n:Nat):(mr n).length<=n*4:=by
 have h:=Am jC 4 (fun _=>by simp[jC]) (List.range n);rwa[ww]at h
theorem NR(a n:Nat):(qw a n).length<=n*2:=by
 have h:=Am (lc a) 2 (fun b=>by unfold lc;split<;>simp) (List.range n);rwa[ww]at h
theorem CF(m n:Nat):(mY m n).length<=n*(m*2):=by
 have h:=Am (fun a=>qw a m) (m*2) (fun a=>NR a m) (List.range n);rwa[ww]at h
theorem NS(n:Nat):(ui n).length<=n*1:=by
 have h:=Am oneOf 1 (fun _=>by simp[oneOf]) (List.range n);rwa[ww]at h
theorem NT(n:Int):∃k:Nat,fT n 0 4=k/\k<=4:=by
 refine⟨(fT n 0 4).toNat,?_,?_⟩<;>(unfold fT;simp only[show ¬(4:Int)<0 by omega,l7];split<;>(try split)<;>omega)
theorem B9(a b:Nat)(ai:a<=4)(aw:b<=4):a*(b*2)<=32:=by
 have:=Nat.mul_le_mul ai (im 2 aw);omega
theorem CG(c:aT):(ff c).length<=100:=by
 obtain⟨k,hk,aJ⟩:=NT c.ay.ar;unfold ff;rw[hk];have a:=CE k;have b:=CF k k;have e:=NS 4;have m:=B9 k k aJ aJ;simp only[hs,kU];omega
theorem CH(c:aT):aq 129 [.agg c.e] [.one (.J 3 ((ff c).map b'.e))]:=by
 have b:=He c.ay.ar 0 4;obtain⟨k,hk,aJ⟩:=NT c.ay.ar;unfold ff;rw[hk]at b ⊢;have ad2:=CE k;have ad3:=CF k k;have m:=B9 k k aJ aJ;have eF:=dY (P:=prog) (c:=(ap f129 0)) (cn 0) k (fun i:Nat=>Db k i ((mr i).map b'.e)) (fun i hi=>by
  have h1:=CE i;rw[V5,gi];exact axE ⟨dh (by omega),by simp;omega,by simp;omega,dz b'.e b'.flat (jC i),⟨by omega,by omega⟩,aa⟩) (axF ⟨ea (by omega),aa⟩)
 have mm:=fun (a:Nat) (ai:a<k)=>dY (P:=prog) (c:=(ap f129 2)) (cn 4) k (fun i:Nat=>xb k a i ((mr k++mY k a++qw a i).map b'.e)) (fun i hi=>by
  have h1:=NR a i;have U:=CF k a;have aA:=B9 a k (by omega) aJ;rw[V6,<-nT,gi (l₂:=lc a i)];by_cases eb:a=i
  ·have e:(lc a i).map b'.e=[]:=by simp[lc,eb]
   rw[e,io];exact axH ⟨dh (by omega),by simp[eb],⟨by omega,by omega⟩,aa⟩
  have e:(lc a i).map b'.e=[[I 4,I a,I i],[I 5,I a,I i]]:=by simp[lc,eb,b'.e]
  rw[e];have bF:Flat [[I 4,I a,I i],[I 5,I a,I i]]:=by rw[<-e];exact dz b'.e b'.flat _
  exact axG ⟨dh (by omega),by simp;omega,by simp;omega,by simp;omega,bF,⟨by omega,by omega⟩,aa⟩) (axI ⟨ea (by omega),aa⟩)
 have hz:=dY (P:=prog) (c:=(ap f129 1)) (cn 2) k (fun i:Nat=>Dc k i ((mr k++mY k i).map b'.e)) (fun i hi=>by
  have h:=mm i hi;rw[V7,<-nT];simp only[qw,yE,yC,io]at h;exact axJ ⟨dh (by omega),h,⟨by omega,by omega⟩,aa⟩) (axK ⟨ea (by omega),aa⟩)
 have Fu:=dY (P:=prog) (c:=(ap f129 3)) (cn 6) 4 (fun i:Nat=>Dd i ((mr k++mY k k++ui i).map b'.e)) (fun i hi=>by
  have h1:=NS i;rw[V8,<-nT,gi (l₂:=[_])];exact axL ⟨dh (by omega),by simp;omega,by simp;omega,dz b'.e b'.flat [⟨6,i,0⟩],⟨by omega,by omega⟩,aa⟩) (axM ⟨ea (by omega),aa⟩)
 simp only[mY,yE,yC,io]at hz;simp only[ui,yE,yC,io]at Fu;rw[kU];exact axN ⟨b,eF,hz,Fu,aa⟩
theorem afF(c:aT):aq 201 [.agg c.e] [.one (.J 3 ((ff c).map b'.e))]:=by
 have b:=Uy c.ay.ar 0 4;obtain⟨k,hk,aJ⟩:=NT c.ay.ar;unfold ff;rw[hk]at b ⊢;have ad2:=CE k;have ad3:=CF k k;have m:=B9 k k aJ aJ;have hz:=fun (w:Nat) (hw:w<k)=>dY (P:=prog) (c:=(ap f201 1)) (cn 2) 4 (fun i:Nat=>ug k w i ((mr w).map b'.e++((jC w).take i).map b'.e)) (fun i hi=>by
  have h1:=CE w
  match i,hi with
  | 0,_=>exact qC (ug k w (((0:Nat):Int)+1)) (Hb ⟨rfl,by omega,by decide,rfl,by simp[jC];omega,by simp[jC];omega,dz b'.e b'.flat [⟨1,w,0⟩],⟨by omega,by omega⟩,aa⟩) (by simp[jC,b'.e])
  | 1,_=>exact qC (ug k w (((1:Nat):Int)+1)) (Hb ⟨rfl,by omega,by decide,rfl,by simp[jC];omega,by simp[jC];omega,dz b'.e b'.flat [⟨3,w,0⟩],⟨by omega,by omega⟩,aa⟩) (by simp[jC,b'.e])
  | 2,_=>exact qC (ug k w (((2:Nat):Int)+1)) (Hb ⟨rfl,by omega,by decide,rfl,by simp[jC];omega,by simp[jC];omega,dz b'.e b'.flat [⟨2,w,0⟩],⟨by omega,by omega⟩,aa⟩) (by simp[jC,b'.e])
  | 3,_=>exact qC (ug k w (((3:Nat):Int)+1)) (Hb ⟨rfl,by omega,by decide,rfl,by simp[jC];omega,by simp[jC];omega,dz b'.e b'.flat [⟨7,w,0⟩],⟨by omega,by omega⟩,aa⟩) (by simp[jC,b'.e])) (axO ⟨rfl,aa⟩)
 have eF:=dY (P:=prog) (c:=(ap f201 0)) (cn 0) k (fun i:Nat=>De k i ((mr i).map b'.e)) (fun i hi=>by
  have h:=hz i hi;rw[V5,gi];simp only[List.take_zero,List.map_nil,io]at h;exact axP ⟨dh (by omega),h,⟨by omega,by omega⟩,aa⟩) (axQ ⟨ea (by omega),aa⟩)
 have Fu:=fun (a:Nat) (ai:a<k)=>dY (P:=prog) (c:=(ap f201 3)) (cn 6) k (fun i:Nat=>xc k a i ((mr k++mY k a++qw a i).map b'.e)) (fun i hi=>by
  have h1:=NR a i;have U:=CF k a;have aA:=B9 a k (by omega) aJ;rw[V6,<-nT,gi (l₂:=lc a i)];by_cases eb:a=i
  ·have e:(lc a i).map b'.e=[]:=by simp[lc,eb]
   rw[e,io];exact axi ⟨dh (by omega),by simp[eb],⟨by omega,by omega⟩,aa⟩
  have e:(lc a i).map b'.e=[[I 4,I a,I i],[I 5,I a,I i]]:=by simp[lc,eb,b'.e]
  rw[e];have bF:Flat [[I 4,I a,I i],[I 5,I a,I i]]:=by rw[<-e];exact dz b'.e b'.flat _
  exact axR ⟨dh (by omega),by simp;omega,by simp;omega,by simp;omega,bF,⟨by omega,by omega⟩,aa⟩) (axj ⟨ea (by omega),aa⟩)
 have mm:=dY (P:=prog) (c:=(ap f201 2)) (cn 4) k (fun i:Nat=>Df k i ((mr k++mY k i).map b'.e)) (fun i hi=>by
  have h:=Fu i hi;rw[V7,<-nT];simp only[qw,yE,yC,io]at h;exact axk ⟨dh (by omega),h,⟨by omega,by omega⟩,aa⟩) (axl ⟨ea (by omega),aa⟩)
 have R6:=dY (P:=prog) (c:=(ap f201 4)) (cn 8) 4 (fun i:Nat=>Dg i ((mr k++mY k k++ui i).map b'.e)) (fun i hi=>by
  have h1:=NS i;rw[V8,<-nT,gi (l₂:=[_])];exact axm ⟨dh (by omega),by simp;omega,by simp;omega,dz b'.e b'.flat [⟨6,i,0⟩],⟨by omega,by omega⟩,aa⟩) (axn ⟨ea (by omega),aa⟩)
 simp only[mY,yE,yC,io]at mm;simp only[ui,yE,yC,io]at R6;rw[kU];exact axo ⟨b,eF,mm,R6,aa⟩
