import Derived.Test.YtdchjefneblpgaaGreatP86
set_option linter.unusedVariables false
set_option linter.unusedSimpArgs false
namespace Go.Proofs.YtdchjefneblpgaaGreat
open Go.Sx Go.RowKit Go.Proofs.Tryz
theorem TS(g:b0)(xs:List aE)(w:Int):∀n:Nat,(pk g xs w n).Pairwise (fun a b=>a.bh.a7<=b.bh.a7)/\∀r∈pk g xs w n,r.bh.a7<n
 | 0=>⟨List.Pairwise.nil,fun r az=>by simp[pk]at az⟩
 | n+1=>by
  obtain⟨h1,U⟩:=TS g xs w n;have ax:∀r∈y9 g xs w (n:Nat),r.bh.a7=(n:Nat):=fun r az=>by
   simp only[y9,List.mem_filter,b8,dp]at az;exact az.2.1
  rw[T4];refine⟨List.pairwise_append.2 ⟨h1,?_,fun a ad b ao=>?_⟩,fun r az=>?_⟩
  ·exact List.pairwise_of_forall_mem_list fun a ad b ao=>by rw[ax a ad,ax b ao];exact Int.le_refl _
  ·have:=U a ad;have:=ax b ao;omega
  rcases gV.1 az with az | az
  ·have:=U r az;omega
  have:=ax r az;omega
theorem TT{α:Type}{R:α->α->Prop}:∀{xs:List α},xs.Pairwise R->∀{j:Nat} {a b:α},xs[j]?=some a->xs[j+1]?=some b->R a b
 | [],_,_,_,_,h,_=>by simp at h
 | x::xs,hp,0,a,b,h1,U=>by
  obtain rfl:x=a:=by simpa using h1
  exact (List.pairwise_cons.1 hp).1 b (cG (i:=0) (by simpa using U))
 | x::xs,hp,j+1,a,b,h1,U=>TT (List.pairwise_cons.1 hp).2 (j:=j) (by simpa using h1) (by simpa using U)
variable{g:b0}{xs:List aE}
theorem aiM(h:mQ g xs=true)(w:Int):e6 g (nS (own g xs w))=true:=by
 obtain⟨h1,_,ax⟩:=CA.1 h;have aj:1<=(g.nodes.length:Int):=by
  simp only[eo,b8,ap,b']at h1;omega
 have O5:∀r∈own g xs w,eD r=true/\r.op=0/\r.bh.dh=0:=fun r az=>by
  rw[ff]at ax;have:=ax r (Gl az).1;simp only[sF,ni,gy,bne_iff_ne,fM,not_or,Bool.not_eq_false,Decidable.not_not]at this;exact⟨this.1.1,this.1.2,this.2⟩
 refine ik.2 ⟨rfl,rfl,?_,rfl,rfl,rfl,rfl,?_,rfl,rfl⟩
 ·simp only[gu,gy,ff,nS];intro r az;obtain⟨cy,bw,_⟩:=O5 r az;simp only[kj,cy,bw,iu,jY,b'];omega
 refine zg fun i a ad=>?_
 change (own g xs w)[i]?=some a at ad;obtain⟨_,bw,fc⟩:=O5 a (cG ad);cases i with
 | zero=>unfold mm;rw[bw,fc];rfl
 | succ j=>
  unfold mm;rw[bw,fc];change (match (own g xs w)[j]? with | some q=>decide (q.bh.a7>a.bh.a7) | none=>false)=false;cases aA:(own g xs w)[j]? with
  | none=>rfl
  | some q=>
   have:=TT (TS g xs w 4).1 aA ad;simp only[lr];omega
theorem aiN(h:mQ g xs=true):cq (fu g xs)=true:=by
 obtain⟨h1,_,_⟩:=CA.1 h;have aK:=ii h1;have af:1<=g.cap/\g.cap<=4:=by
  simp only[eo,b8,ap,b']at h1;omega
 have f':gr g.cap 1 4=g.cap:=by unfold gr;rw[a6 (by omega),a6 (by omega),a6 (by omega)]
 refine e7.2 ⟨h1,?_,?_,rfl,?_,?_,?_,rfl⟩
 ·simp only[fu,Cz];omega
 ·simp only[fu,List.length_replicate,Int.natCast_mul];rw[Int.toNat_of_nonneg (by omega)]
 ·rw[ff];intro x aa;obtain⟨i,hi⟩:=List.getElem?_of_mem aa;obtain⟨rfl,_⟩:=Gm hi;rw[show (fu g xs).ay=g from rfl,aiM h];decide
 ·refine zg fun i l aj=>?_
  have:=List.eq_of_mem_replicate (cG aj);subst this;refine oE.2 ⟨nR.2 ⟨?_,?_,?_,?_,rfl,?_,rfl,rfl⟩,?_,rfl,fun _=>rfl⟩
  ·simp only[l5,f',ap,b'];omega
  ·simp only[l5,f',ap,b'];omega
  ·simp only[l5,f',ap,b'];omega
  ·simp only[l5,bY];omega
  ·simp only[l5];omega
  simp only[l5,f'];rfl
 rw[ff];intro t bq;have:=List.eq_of_mem_replicate bq;subst this;rw[show lM (fu g xs).ay.aq CT=false from sE.2 ⟨⟨by decide,by change (0:Int)<=g.aq-1;omega⟩,fun _=>rfl,by decide⟩];decide
theorem TU{α:Type}{f:α->Int}:∀{xs:List α},(∀x∈xs,f x=0)->(xs.map f).sum=0
 | [],_=>rfl
 | a::xs,h=>by
  rw[k8,rO,h a (eY ..),TU fun x aa=>h x (fw _ aa)];rfl
theorem km.new(h:mQ g xs=true):km 0 (fu g xs):=by
 have hw:∀x∈(fu g xs).aq,∃w:Nat,x=nS (own g xs w):=fun x aa=>by
  obtain⟨i,hi⟩:=List.getElem?_of_mem aa;exact⟨i,(Gm hi).1⟩
 have mh:∀l∈(fu g xs).bK,l=l5 g.cap:=fun l aj=>List.eq_of_mem_replicate aj
 have zero:∀(k:Nat),(List.replicate 4 (0:Int)).getD k 0=0:=fun k=>by
  rw[iF,Am];split<;>rfl
 refine⟨aiN h,⟨fun i x aa=>?_,fun i l aj=>?_⟩,⟨fun x aa k=>?_,fun l aj=>?_,fun t bq ar=>?_⟩,fun e he=>⟨?_,fun t bq ar=>?_,fun gO=>?_⟩⟩
 ·obtain⟨rfl,_⟩:=Gm aa;exact⟨fun r az=>by simp[nS]at az,fun r az=>(Gl az).2⟩
 ·rw[mh l (cG aj)];intro r az;simp[l5]at az
 ·obtain⟨w,rfl⟩:=hw x aa;have:=zero k;simp only[nS];omega
 ·rw[mh l aj];exact Int.le_refl _
 ·rw[List.eq_of_mem_replicate bq]at ar;cases ar
 ·have h1:gG e (fu g xs) (fu g xs).aq.length=0:=by
   refine TU fun x aa=>?_
   obtain⟨w,rfl⟩:=hw x (rN aa);exact zero _
  have U:jg e (fu g xs)=0:=by
   unfold jg c4;have:=Gj (f:=oC e) (k:=0) (xs:=(fu g xs).bK) (fun l aj=>by rw[mh l aj];simp[oC,l3,l5]);omega
  rw[h1,U];rfl
 ·obtain⟨_,_,U⟩:=xH bq;rw[List.eq_of_mem_replicate (cG U)]at ar;cases ar
 exfalso;have h1:nV (fu g xs) e=false:=by
  unfold nV;rw[ff];intro x aa;obtain⟨w,rfl⟩:=hw x aa;simp[ew,nS]
 rw[h1]at gO;simp[nc,fu]at gO
theorem km.drawn(h:mQ g xs=true)(l:List b9)(aj:l.length<=200000):km l.length (cS (fu g xs) l).1:=by
 have:=(km.new h).run (c:=fu g xs) l (by omega);rwa[Int.zero_add]at this
end Go.Proofs.YtdchjefneblpgaaGreat
namespace Go.Proofs.YtdchjefneblpgaaGreat
open Go.Sx Go.RowKit Go.Proofs.Tryz
def na(c:aU)(b:Bool):List D:=[.J 4 (c.ay.nodes.map Node.e),I c.ay.aq,I c.ay.cap,.J 8 (c.aq.map aL.e),.J 6 (c.bK.map bt.e),.J 5 (c.tokens.map bQ.e),.J 3 (c.news.map bT.e),B b]
abbrev fQ(c:aU):List D:=na c (cq c)
theorem Gr(w:aL)(e:Int)(r:Bool)(h:ew w e=r)(hw:w.sz<=8388608):aw 210 [.agg w.e,.one (I e)] [.one (B r)]:=h▸acB w e hw
theorem LN(c:aU)(af:c.sz<=8388608)(hw:fF c):dC prog 127 [.ro (.agg c.e)] (.new (fQ c)):=
 ah6 ⟨aja c af,afP c af hw,ae⟩
variable{i:Nat}
theorem MW{α:Type}{f:α->List D}{xs:List α}{a:α}:(xs.map f).set i (f a)=(xs.set i a).map f:=List.map_set.symm
variable{c:aU}{x:aL}
theorem mo{i:Int}(h:b3 c i=some x):0<=i/\i<(↑(c.aq.map aL.e).length:Int)/\(c.aq.map aL.e)[i.toNat]?=some x.e:=by
 obtain⟨h1,U,ax⟩:=eK h;exact⟨h1,by rw[bk];omega,bJ aL.e ax⟩
theorem mY{i:Int}(h:b3 c i=some x)(af:c.sz<=8388608):x.sz<=8388608:=aU.Nt af (cG (eK h).2.2)
theorem aiO{l:List bT}(hi:i<l.length):([]++((l.map bT.e).drop 0).take (((some (i:Int)).getD (↑(l.map bT.e).length:Int)).toNat-0)++((l.map bT.e).drop ((some ((i:Int)+1)).getD 0).toNat).take ((l.map bT.e).length-((some ((i:Int)+1)).getD 0).toNat))=(cutAt l i).map bT.e:=by
 have e1:((i:Int)+1).toNat=i+1:=by omega
 simp only[cutAt,jx,nd,Nat.sub_zero,sV,List.nil_append,e1,jV,sW,List.map_drop]
 congr 1
 rw[vU (by simp)]
theorem TV{l:List bT}:((l.map bT.e).drop ((some ((i:Int)+1)).getD 0).toNat).take ((l.map bT.e).length-((some ((i:Int)+1)).getD 0).toNat)=(l.drop (i+1)).map bT.e:=by
 have e1:((i:Int)+1).toNat=i+1:=by omega
 simp only[jx,e1,List.map_drop];rw[vU (by simp)]
theorem MX(h:cq c=true){n:bT}(aK:c.news[i]?=some n){w:Int}(hw:(n.dest==w)=true):∃x,b3 c w=some x:=by
 have ao:=L6 h aK;simp only[lN,ap,fR,jW,b']at ao;have U:=(e7.1 h).2.1;have e:=eq_of_beq hw;exact oF (by omega) (by omega)
theorem Gs{α:Type}{f:α->List D}(h:∀a,∀d∈f a,∃x,d=.v x){l:List (List D)}{xs:List α}(aj:l=xs.map f):Flat l:=aj▸cd f h xs
theorem TW{w:Int}{n:bT}(h1:c.news.findIdx? (fun n=>n.dest==w)=some i)(bD:cq c=true)(aK:c.news[i]?=some n)(aa:b3 c w=some x):jN c w=(hg (setW c w (ea x n)) (cutAt c.news i),true):=by
 unfold jN;simp only[h1,bD,fL,aK,aa]
theorem aiP(c:aU)(w:Int)(af:c.sz<=8388608):dC prog 247 [.ref (fQ c) (fQ (jN c w).1),.ro (.one (I w))] (.vals [.one (B (jN c w).2)]):=by
 have aj:=xE af;have Eg:=fun h=>UI (c:=c) (w:=w) h
 cases bD:cq c with
 | false=>
  have e:jN c w=(c,false):=by
   unfold jN;split<;>simp[bD]
  rw[e];simp only[fQ,bD];cases aK:c.news with
  | nil=>
   have l:c6 prog (av f247 0) (rC w 0 (c.ay.nodes.map Node.e) c.ay.aq c.ay.cap (c.aq.map aL.e) (c.bK.map bt.e) (c.tokens.map bQ.e) (c.news.map bT.e) false) (.exit 0) _:=.last (cL 0) (Ue ⟨by simp[aK],ae⟩);exact LF ⟨l,ae⟩
  | cons a l=>
   have l:c6 prog (av f247 0) (rC w 0 (c.ay.nodes.map Node.e) c.ay.aq c.ay.cap (c.aq.map aL.e) (c.bK.map bt.e) (c.tokens.map bQ.e) (c.news.map bT.e) false) (.exit 0) _:=.last (cL 0) (aia ⟨dr (by simp[aK]<;>omega),rfl,ae⟩);exact LF ⟨l,ae⟩
 | true=>
  have Eg:=Eg bD;have l:=hv (P:=prog) (c:=(av f247 0)) c.news (fun n=>n.dest==w) (fun i=>rC w i (c.ay.nodes.map Node.e) c.ay.aq c.ay.cap (c.aq.map aL.e) (c.bK.map bt.e) (c.tokens.map bQ.e) (c.news.map bT.e) true)
   (X:=fun i n=>match b3 c w with
    | some x=>Gn true (c.ay.nodes.map Node.e) c.ay.aq c.ay.cap ((setW c w (ea x n)).aq.map aL.e) (c.bK.map bt.e) (c.tokens.map bQ.e) ((cutAt c.news i).map bT.e) true
    | none=>⟨[],[]⟩) fl (cL 0)
   (fun i a ad h=>ah7 ⟨b4 (aX ad),rfl,bH,bL (aX ad),bI bT.e ad,by simp only[bne,h];rfl,du (aX ad) aj,ae⟩)
   (fun i a ad h=>by
    obtain⟨x,aa⟩:=MX bD ad h;have hi:=aX ad;obtain⟨w0,w1,kD⟩:=mo aa;have ai:=mY aa af;simp only[aa];rw[<-aiO hi];cases aB:ew x a.a7 with
    | true=>
     rw[show ea x a=x by unfold ea;rw[aB];rfl,tZ aa];exact ah9 ⟨b4 hi,rfl,bH,bL hi,bI bT.e ad,by simp only[bne,h];rfl,by simp,by simp,by simp;omega,by simp;omega,by simp;omega,Gs (xs:=c.news.take i) bT.flat (by simp),du hi aj,by simp;omega,by simp;omega,by simp,by simp;omega,by simp;omega,Gs (xs:=c.news.drop (i+1)) bT.flat TV,w0,w1,kD,MD x a.a7 true aB ai,rfl,ae⟩
    | false=>
     have qW:x.b1.length<=8388608:=by simp only[aL.sz]at ai;omega
     have e2:(setW c w (ea x a)).aq.map aL.e=(c.aq.map aL.e).set w.toNat (told x a.a7 a.ca).e:=by
      rw[show ea x a=told x a.a7 a.ca by unfold ea;rw[aB];rfl];exact MW.symm
     rw[e2];have cJ:(told x a.a7 a.ca).e=[.J 5 (x.queue.map aE.e),.J 5 (x.cp.map aE.e),.J 5 (x.bZ.map aE.e),.J 4 (x.cells.map Cell.e),.J 1 (x.bM.map ba),.J 1 (x.bV.map cI),.J 1 (x.bm.map cI),.J 2 (x.b1.map cD.e++[[I a.a7,B a.ca]])]:=by
      simp only[told,aL.e,jV];rfl
     rw[cJ];exact ah8 ⟨b4 hi,rfl,bH,bL hi,bI bT.e ad,by simp only[bne,h];rfl,by simp,by simp,by simp;omega,by simp;omega,by simp;omega,Gs (xs:=c.news.take i) bT.flat (by simp),du hi aj,by simp;omega,by simp;omega,by simp,by simp;omega,by simp;omega,Gs (xs:=c.news.drop (i+1)) bT.flat TV,w0,w1,kD,MD x a.a7 false aB ai,rfl,w0,w1,kD,by simp;omega,by simp;omega,kD,rfl,dY (cD.flat ⟨a.a7,a.ca⟩),rfl,rfl,rfl,rfl,rfl,rfl,rfl,rfl,rfl,rfl,rfl,w0,w1,kD,rfl,ae⟩)
   (Ue ⟨ec,ae⟩)
  rcases l with⟨_,h1,_,U⟩ | ⟨i,a,ad,hp,_,h1,_,U⟩
  ·have e:jN c w=(c,false):=by unfold jN;simp only[h1]
   rw[e];simp only[fQ,bD];exact LF ⟨U,ae⟩
  obtain⟨x,aa⟩:=MX bD ad hp;rw[TW h1 bD ad aa]at Eg ⊢;simp only[aa]at U;simp only[fQ,bD,Eg];exact aib ⟨U,ae⟩
theorem aiQ(c:aU)(w:Int)(af:c.sz<=8388608)(hw:fF c):aw 224 [.agg c.e,.one (I w)] [.agg (jN c w).1.e,.one (B (jN c w).2)]:=by
 have aj:=xE af;have cQ:=rD c af;have lH:=arj c.news (fun n=>n.dest==w) 295 [.ptr [I w]] aj (by kernel_rfl) (fun x _=>aic trivial);have ok:=E' c af hw;unfold mN at lH;cases h1:c.news.findIdx? (fun n=>n.dest==w) with
 | none=>
  simp only[h1]at lH;rw[show jN c w=(c,false) by unfold jN;simp only[h1]];exact aid ⟨cQ,lH,dr (by omega),ae⟩
 | some i=>
  simp only[h1]at lH;cases bD:cq c with
  | false=>
   rw[bD]at ok;rw[show jN c w=(c,false) by unfold jN;simp[h1,bD]];exact aie ⟨cQ,lH,ee (by omega),ok,rfl,ae⟩
  | true=>
   rw[bD]at ok;obtain⟨hi,hp,_⟩:=uq.1 h1;have ad:c.news[i]?=some c.news[i]:=gz hi;generalize c.news[i]=a at ad hp;obtain⟨x,aa⟩:=MX bD ad hp;obtain⟨w0,w1,kD⟩:=mo aa;have ai:=mY aa af;rw[TW h1 bD ad aa];have dl:=aje c.news i (i+1) (by omega) (by omega);rw[show (((i+1:Nat):Int))=(i:Int)+1 by omega]at dl;cases aB:ew x a.a7 with
   | true=>
    rw[show ea x a=x by unfold ea;rw[aB];rfl,tZ aa];exact aih ⟨cQ,lH,ee (by omega),ok,rfl,bH,bL hi,bI bT.e ad,du hi aj,dl,w0,w1,kD,Gr x a.a7 true aB ai,rfl,ae⟩
   | false=>
    have qW:x.b1.length<=8388608:=by simp only[aL.sz]at ai;omega
    have e2:(setW c w (ea x a)).aq.map aL.e=(c.aq.map aL.e).set w.toNat (told x a.a7 a.ca).e:=by
     rw[show ea x a=told x a.a7 a.ca by unfold ea;rw[aB];rfl];exact MW.symm
    have cJ:(told x a.a7 a.ca).e=[.J 5 (x.queue.map aE.e),.J 5 (x.cp.map aE.e),.J 5 (x.bZ.map aE.e),.J 4 (x.cells.map Cell.e),.J 1 (x.bM.map ba),.J 1 (x.bV.map cI),.J 1 (x.bm.map cI),.J 2 (x.b1.map cD.e++[[I a.a7,B a.ca]])]:=by
     simp only[told,aL.e,jV];rfl
    have e4:(hg (setW c w (ea x a)) (cutAt c.news i)).e=[.J 4 (c.ay.nodes.map Node.e),I c.ay.aq,I c.ay.cap,.J 8 ((c.aq.map aL.e).set w.toNat (told x a.a7 a.ca).e),.J 6 (c.bK.map bt.e),.J 5 (c.tokens.map bQ.e),.J 3 ((cutAt c.news i).map bT.e)]:=by
     rw[<-e2];rfl
    rw[e4,cJ];exact aif ⟨cQ,lH,ee (by omega),ok,rfl,bH,bL hi,bI bT.e ad,du hi aj,dl,w0,w1,kD,Gr x a.a7 false aB ai,rfl,w0,w1,kD,by simp;omega,by simp;omega,kD,rfl,dY (cD.flat ⟨a.a7,a.ca⟩),rfl,rfl,rfl,rfl,rfl,rfl,rfl,rfl,w0,w1,kD,rfl,ae⟩
end Go.Proofs.YtdchjefneblpgaaGreat
namespace Go.Proofs.YtdchjefneblpgaaGreat
open Go.Sx Go.RowKit Go.Proofs.Tryz
theorem OO(a b:Nat):(((a:Int)+(b:Int))==0)=(a+b==0):=by
 rw[Bool.eq_iff_iff];simp only[dp];omega
theorem aiR(w:aL)(e:Int)(hw:w.sz<=8388608):aw 342 [.agg w.e,.one (I e)] [.one (B (xF w e))]:=by
 have aj:w.bZ.length<=8388608:=by simp only[aL.sz]at hw;omega
 have l:=hv (P:=prog) (c:=(av f342 0)) w.bZ (fun r=>decide (r.bh.a7<=e)) (fun i=>xO (w.queue.map aE.e) (w.cp.map aE.e) (w.bZ.map aE.e) (w.cells.map Cell.e) (w.bM.map ba) (w.bV.map cI) (w.bm.map cI) (w.b1.map cD.e) e i) (X:=fun _ _=>LG true) fl (cL 0)
  (fun i a ad h=>aiV ⟨b4 (aX ad),bH,bL (aX ad),bI aE.e ad,h,du (aX ad) aj,ae⟩)
  (fun i a ad h=>aiU ⟨b4 (aX ad),bH,bL (aX ad),bI aE.e ad,h,ae⟩)
  (aiW ⟨ec,ae⟩)
 unfold xF;rcases l with⟨_,_,h1,U⟩ | ⟨i,a,_,_,_,_,h1,U⟩
 ·rw[h1];exact aiY ⟨U,ae⟩
 rw[h1];exact aiX ⟨U,ae⟩
theorem aiS(w:aL)(e:Int)(hw:w.sz<=8388608):aw 331 [.agg w.e,.one (I e)] [.one (B (xF w e))]:=by
 have aj:w.bZ.length<=8388608:=by simp only[aL.sz]at hw;omega
 exact ai2 ⟨arf w.bZ (fun r=>decide (r.bh.a7<=e)) 353 [.ptr [I e]] aj (by kernel_rfl) (fun x _=>ai3 trivial),ae⟩
theorem aiT(w:aL)(e:Int)(hw:w.sz<=8388608):aw 343 [.agg w.e,.one (I e)] [.one (I ((↑((l3 e w.queue).map aE.e).length:Int)+(↑((l3 e w.cp).map aE.e).length:Int)))]:=by
 simp only[aL.sz]at hw;have cy:(l3 e w.queue).length<=w.queue.length:=qq _ _;have bw:(l3 e w.cp).length<=w.cp.length:=qq _ _;exact ai1 ⟨Tc w.queue e (by omega),Tc w.cp e (by omega),⟨by simp only[bk];omega,by simp only[bk];omega⟩,ae⟩
theorem aik(w:aL)(e:Int)(hw:w.sz<=8388608):aw 316 [.agg w.e,.one (I e)] [.one (B (kA w e))]:=by
 have o:=aiR w e hw;unfold kA;cases h:xF w e with
 | true=>rw[h]at o;exact ai0 ⟨o,rfl,ae⟩
 | false=>
  rw[h]at o;have a:=aiT w e hw;rw[bk,bk]at a;have b:=aiZ ⟨o,rfl,a,ae⟩;rw[OO]at b;exact b
theorem ail(w:aL)(e:Int)(hw:w.sz<=8388608):aw 332 [.agg w.e,.one (I e)] [.one (I ((↑((l3 e w.queue).map aE.e).length:Int)+(↑((l3 e w.cp).map aE.e).length:Int)))]:=by
 simp only[aL.sz]at hw;have cy:(l3 e w.queue).length<=w.queue.length:=qq _ _;have bw:(l3 e w.cp).length<=w.cp.length:=qq _ _;exact ai6 ⟨Td w.queue e (by omega),Td w.cp e (by omega),⟨by simp only[bk];omega,by simp only[bk];omega⟩,ae⟩
theorem aim(w:aL)(e:Int)(hw:w.sz<=8388608):aw 294 [.agg w.e,.one (I e)] [.one (B (kA w e))]:=by
 have o:=aiS w e hw;unfold kA;cases h:xF w e with
 | true=>rw[h]at o;exact ai5 ⟨o,rfl,ae⟩
 | false=>
  rw[h]at o;have a:=ail w e hw;rw[bk,bk]at a;have b:=ai4 ⟨o,rfl,a,ae⟩;rw[OO]at b;exact b
theorem TX(w:aL)(e:Int)(r:Bool)(h:kA w e=r)(hw:w.sz<=8388608):aw 316 [.agg w.e,.one (I e)] [.one (B r)]:=h▸aik w e hw
theorem Vn(w:aL)(e:Int)(r:Bool)(h:kA w e=r)(hw:w.sz<=8388608):aw 294 [.agg w.e,.one (I e)] [.one (B r)]:=h▸aim w e hw
end Go.Proofs.YtdchjefneblpgaaGreat
namespace Go.Proofs.YtdchjefneblpgaaGreat
open Go.Sx Go.RowKit Go.Proofs.Tryz
variable{c:aU}{i:Int}
theorem Vo{t:bQ}(h:hE c i=some t):0<=i/\i<(↑(c.tokens.map bQ.e).length:Int)/\(c.tokens.map bQ.e)[i.toNat]?=some t.e:=by
 obtain⟨h1,U,ax⟩:=xH h;exact⟨h1,by rw[bk];omega,bJ bQ.e ax⟩
variable{e:Int}
theorem Bm{xs:List Int}(aF:xs.length=4)(he:0<=e/\e<=3):e<(↑(xs.map ba).length:Int)/\(xs.map ba)[e.toNat]?=some [I (xs.getD e.toNat 0)]:=by
 have aj:e.toNat<xs.length:=by omega
 refine⟨by rw[bk];omega,?_⟩;rw[dG,gz aj,iF,gz aj];rfl
theorem uz{xs:List Bool}(aF:xs.length=4)(he:0<=e/\e<=3):e<(↑(xs.map cI).length:Int)/\(xs.map cI)[e.toNat]?=some [B (xs.getD e.toNat false)]:=by
 have aj:e.toNat<xs.length:=by omega
 refine⟨by rw[bk];omega,?_⟩;rw[dG,gz aj,iF,gz aj];rfl
variable{l:List (List D)}{a:List D}
theorem hX(bl:0<=i)(h:i<(↑l.length:Int)):(l.set i.toNat a)[i.toNat]?=some a:=List.getElem?_set_self (by omega)
theorem uF{b:List D}(bl:0<=i)(h:i<(↑l.length:Int)):((l.set i.toNat a).set i.toNat b)[i.toNat]?=some b:=by rw[qp];exact hX bl h
theorem uG{b d:List D}(bl:0<=i)(h:i<(↑l.length:Int)):(((l.set i.toNat a).set i.toNat b).set i.toNat d)[i.toNat]?=some d:=by rw[qp,qp];exact hX bl h
theorem Gt(x:aL)(e:Int):(er x e).e=[.J 5 (x.queue.map aE.e),.J 5 (x.cp.map aE.e),.J 5 (x.bZ.map aE.e),.J 4 (x.cells.map Cell.e),.J 1 (x.bM.map ba),.J 1 ((x.bV.map cI).set e.toNat [B false]),.J 1 (x.bm.map cI),.J 2 (x.b1.map cD.e)]:=by
 simp only[er,aL.e,kG];rfl
theorem Vp(x:aL)(e:Int)(b:Bool):(told x e b).e=[.J 5 (x.queue.map aE.e),.J 5 (x.cp.map aE.e),.J 5 (x.bZ.map aE.e),.J 4 (x.cells.map Cell.e),.J 1 (x.bM.map ba),.J 1 (x.bV.map cI),.J 1 (x.bm.map cI),.J 2 (x.b1.map cD.e++[[I e,B b]])]:=by
 simp only[told,aL.e,jV];rfl
theorem Vq(c:aU)(e p:Int)(t:bQ)(y:aL):(setW (cM c e t) p y).e=[.J 4 (c.ay.nodes.map Node.e),I c.ay.aq,I c.ay.cap,.J 8 ((c.aq.map aL.e).set p.toNat y.e),.J 6 (c.bK.map bt.e),.J 5 ((c.tokens.map bQ.e).set e.toNat t.e),.J 3 (c.news.map bT.e)]:=by
 simp only[setW,cM,aU.e,kG]
theorem MY(c:aU)(e:Int)(t:bQ):(cM c e t).e=[.J 4 (c.ay.nodes.map Node.e),I c.ay.aq,I c.ay.cap,.J 8 (c.aq.map aL.e),.J 6 (c.bK.map bt.e),.J 5 ((c.tokens.map bQ.e).set e.toNat t.e),.J 3 (c.news.map bT.e)]:=by
 simp only[cM,aU.e,kG]
theorem Vr(c:aU)(e p:Int)(t:bQ)(y:aL)(b:Bool):na (setW (cM c e t) p y) b=[.J 4 (c.ay.nodes.map Node.e),I c.ay.aq,I c.ay.cap,.J 8 ((c.aq.map aL.e).set p.toNat y.e),.J 6 (c.bK.map bt.e),.J 5 ((c.tokens.map bQ.e).set e.toNat t.e),.J 3 (c.news.map bT.e),B b]:=by
 simp only[setW,cM,na,kG]
theorem ain(c:aU)(e:Int)(t:bQ)(b:Bool):na (cM c e t) b=[.J 4 (c.ay.nodes.map Node.e),I c.ay.aq,I c.ay.cap,.J 8 (c.aq.map aL.e),.J 6 (c.bK.map bt.e),.J 5 ((c.tokens.map bQ.e).set e.toNat t.e),.J 3 (c.news.map bT.e),B b]:=by
 simp only[cM,na,kG]
theorem MZ(n:Nat)(e:Int)(b:Bool):fU (n+1) e b=fU n e b++[⟨(n:Int)+1,e,b⟩]:=by simp[fU,List.range_succ]
theorem M0(n:Nat)(e:Int)(b:Bool):(fU n e b).length=n:=by simp[fU]
theorem Vs{cm x:aL}{t:bQ}(ok:cq c=true)(he:ap e 0 3=true)(bl:b3 c 0=some cm)(bq:hE c e=some t)(aB:ew cm e=false)(aa:b3 c t.place=some x):ij c e=dx c e t x:=by
 unfold ij;simp only[ok,he,Bool.and_self,fL,bl,bq,aB,ng,k9,aa]
theorem Vt(ok:cq c=true)(he:ap e 0 3=true):∃cm t x,b3 c 0=some cm/\hE c e=some t/\b3 c t.place=some x/\0<c.aq.length/\c.aq.length<=4/\
  (0<=t.place/\t.place<=3)/\(t.going=false->t.place=0)/\(-1000000<=t.sum/\t.sum<=1000000)/\x.bM.length=4/\x.bV.length=4/\x.bm.length=4/\(-1000000<=x.bM.getD e.toNat 0/\x.bM.getD e.toNat 0<=1000000):=by
 obtain⟨h1,U,ax,aF,aQ,bb,bN,dj⟩:=e7.1 ok;have aK:=ii h1;obtain⟨cm,bl⟩:=oF (c:=c) (i:=0) (by omega) (by omega);obtain⟨t,bq⟩:=Ux ok he;obtain⟨t1,t2,t3⟩:=sE.1 (zh ok bq);obtain⟨x,aa⟩:=oF (c:=c) (i:=t.place) (by omega) (by omega);obtain⟨_,_,_,_,kb,pa,kU,_,tG,_⟩:=ik.1 (jr ok aa);refine⟨cm,t,x,bl,bq,aa,by omega,by omega,by omega,t2,t3,kb,pa,kU,?_⟩;simp only[ap,b']at he;have aj:e.toNat<x.bM.length:=by omega
 rw[ff]at tG;have:=tG _ (pK aj);rw[iF,gz aj,jx];simpa only[oD,gy,jW,ap,b',vW,Bool.not_not,Bool.not_eq_eq_eq_not,iu,lr,Classical.not_not]using this
theorem Vu(c:aU)(e:Int)(x:aL)(r:Bool)(bl:b3 c 0=some x)(aB:ew x e=r)(af:c.sz<=8388608):aw 315 [.agg c.e,.one (I e)] [.one (B r)]:=by
 obtain⟨w0,w1,kD⟩:=mo bl;exact ahs ⟨dr (by omega),w0,w1,kD,MD x e r aB (mY bl af),ae⟩
theorem aio(c:aU)(b:Bool)(x:aL)(e:Int)(cap:Bool)(bl:b3 c 0=some x)(aF:c.aq.length<=4)(af:c.sz<=8388608):
  dC prog 317 [.ref (na c b) (na (hg (setW c 0 (told x e cap)) (c.news++fU (c.aq.length-1) e cap)) b),.ro (.one (I e)),.ro (.one (B cap))] (.vals []):=by
 obtain⟨w0,w1,kD⟩:=mo bl;have aK:=xE af;have ai:=mY bl af;have qW:x.b1.length<=8388608:=by simp only[aL.sz]at ai;omega
 have hlen:=(eK bl).2.1;have uK:((setW c 0 (told x e cap)).aq.map aL.e).length=c.aq.length:=by simp[setW]
 have l:=eR (P:=prog) (c:=(av f317 0)) (cL 0) (c.aq.length-1) (fun i:Nat=>CH e cap ((i:Int)+1) (c.ay.nodes.map Node.e) c.ay.aq c.ay.cap ((setW c 0 (told x e cap)).aq.map aL.e) (c.bK.map bt.e) (c.tokens.map bQ.e) ((c.news++fU i e cap).map bT.e) b) (fun i hi=>by
  have hm:=M0 i e cap;rw[MZ,<-pL,jV (l₂:=[_])];exact aii ⟨dr (by rw[uK];omega),by simp;omega,by simp;omega,dY (bT.flat ⟨(i:Int)+1,e,cap⟩),⟨by omega,by omega⟩,ae⟩) (aij ⟨ee (by rw[uK];omega),ae⟩)
 have e2:(setW c 0 (told x e cap)).aq.map aL.e=(c.aq.map aL.e).set 0 [.J 5 (x.queue.map aE.e),.J 5 (x.cp.map aE.e),.J 5 (x.bZ.map aE.e),.J 4 (x.cells.map Cell.e),.J 1 (x.bM.map ba),.J 1 (x.bV.map cI),.J 1 (x.bm.map cI),.J 2 (x.b1.map cD.e++[[I e,B cap]])]:=by
  rw[<-Vp];exact MW.symm
 have cc:fU 0 e cap=[]:=rfl;rw[e2,cc,jX]at l;have ko:na (hg (setW c 0 (told x e cap)) (c.news++fU (c.aq.length-1) e cap)) b=[.J 4 (c.ay.nodes.map Node.e),I c.ay.aq,I c.ay.cap,.J 8 ((setW c 0 (told x e cap)).aq.map aL.e),.J 6 (c.bK.map bt.e),.J 5 (c.tokens.map bQ.e),.J 3 ((c.news++fU (c.aq.length-1) e cap).map bT.e),B b]:=rfl;rw[ko,e2];exact aht ⟨by omega,w1,kD,by simp;omega,by simp;omega,kD,rfl,dY (cD.flat ⟨e,cap⟩),rfl,rfl,rfl,rfl,rfl,rfl,rfl,by omega,w1,kD,rfl,l,ae⟩
theorem aip(c:aU)(e:Int)(af:c.sz<=8388608):dC prog 246 [.ref (fQ c) (fQ (ij c e).1),.ro (.one (I e))] (.vals [.one (B (ij c e).2)]):=by
 have post:=fun h=>UH (c:=c) (e:=e) h
 cases ok:cq c with
 | false=>
  rw[show ij c e=(c,false) by unfold ij;simp[ok]];simp only[fQ,ok];exact ahu ⟨rfl,ae⟩
 | true=>
 replace post:=post ok;cases he:ap e 0 3 with
 | false=>
  rw[show ij c e=(c,false) by unfold ij;simp[he]];simp only[fQ,ok];exact ahv ⟨rfl,fe _ he,rfl,ae⟩
 | true=>
 have he:=he;obtain⟨cm,t,x,bl,bq,aa,wz,uR,PM,IF,aaj,ra,ti,uN,wL⟩:=Vt ok he;have qY:0<=e/\e<=3:=by simpa only[ap,b']using he
 obtain⟨ci,dF,dn⟩:=Vo bq;obtain⟨cX,cU,ch⟩:=mo aa;obtain⟨avX,oI,oJ⟩:=mo bl;obtain⟨jS,jT⟩:=Bm ra qY;obtain⟨kc,iy⟩:=uz ti qY;obtain⟨s6,s7⟩:=uz uN qY;have c7:=mY aa af;have qW:x.b1.length<=8388608:=by simp only[aL.sz]at c7;omega
 have Ee:(↑(c.aq.map aL.e).length:Int)=(c.aq.length:Int):=by rw[bk]
 cases aB:ew cm e with
 | true=>
  rw[show ij c e=(c,false) by unfold ij;simp only[ok,he,Bool.and_self,fL,bl,bq,aB]];simp only[fQ,ok];exact ahw ⟨rfl,fe _ he,rfl,Vu c e cm true bl aB af,rfl,ae⟩
 | false=>
 rw[Vs ok he bl bq aB aa]at post ⊢;have rd:=Vu c e cm false bl aB af;have iW:=fe _ he;cases hp:kA x e with
 | false=>
  rw[show dx c e t x=(c,false) by unfold dx;simp[hp]];simp only[fQ,ok];exact ahx ⟨rfl,iW,rfl,rd,rfl,ci,dF,dn,cX,cU,ch,TX x e _ hp c7,rfl,ae⟩
 | true=>
 have kh:=TX x e _ hp c7;have ib:aC .i64 (t.sum+x.bM.getD e.toNat 0):=⟨by omega,by omega⟩
 simp only[fQ,ok,post];clear post;obtain⟨GU,l6,ts,tb,eM⟩:=t;dsimp only at*;cases GU with
 | false=>
  obtain rfl:l6=0:=IF rfl;rw[show dx c e ⟨false,0,ts,tb,eM⟩ x=(setW (cM c e ⟨true,(c.aq.length:Int)-1,0,false,x.bm.getD e.toNat false⟩) 0 (er x e),true) by simp only[dx,hp,fL,oL]];dsimp only;rw[Vr,Gt,<-Ee];exact ahy ⟨rfl,iW,rfl,rd,rfl,ci,dF,dn,cX,cU,ch,kh,rfl,ci,jS,jT,ib,rfl,⟨by omega,by omega⟩,ci,s6,s7,ci,dF,dn,by omega,cU,ch,ci,kc,iy,ch,rfl,rfl,rfl,rfl,rfl,ae⟩
 | true=>
 by_cases lE:0<l6
 case pos=>
  have j5:decide (l6>0)=true:=dr lE;cases az:ap (ts+x.bM.getD e.toNat 0) (-1000000) 1000000 with
  | false=>
   rw[show dx c e ⟨true,l6,ts,tb,eM⟩ x=(c,false) by simp only[dx,hp,fL,iu,ng,k9,lE,az]];exact ahz ⟨rfl,iW,rfl,rd,rfl,ci,dF,dn,cX,cU,ch,kh,rfl,ci,jS,jT,ib,rfl,j5,fe _ az,rfl,ae⟩
  | true=>
   have e1:dx c e ⟨true,l6,ts,tb,eM⟩ x=(setW (cM c e ⟨true,l6-1,ts+x.bM.getD e.toNat 0,tb||x.bV.getD e.toNat false,eM||x.bm.getD e.toNat false⟩) l6 (er x e),true):=by
    simp only[dx,hp,fL,iu,ng,k9,lE,az]
   rw[e1];dsimp only;rw[Vr,Gt];have wr:=fe _ az;cases tb with
   | true=>
    cases eM with
    | true=>exact ahA ⟨rfl,iW,rfl,rd,rfl,ci,dF,dn,cX,cU,ch,kh,rfl,ci,jS,jT,ib,rfl,j5,wr,rfl,⟨by omega,by omega⟩,rfl,rfl,ci,dF,dn,cX,cU,ch,ci,kc,iy,ch,rfl,rfl,rfl,rfl,rfl,ae⟩
    | false=>exact ahB ⟨rfl,iW,rfl,rd,rfl,ci,dF,dn,cX,cU,ch,kh,rfl,ci,jS,jT,ib,rfl,j5,wr,rfl,⟨by omega,by omega⟩,rfl,rfl,ci,s6,s7,ci,dF,dn,cX,cU,ch,ci,kc,iy,ch,rfl,rfl,rfl,rfl,rfl,ae⟩
   | false=>
    cases eM with
    | true=>exact ahC ⟨rfl,iW,rfl,rd,rfl,ci,dF,dn,cX,cU,ch,kh,rfl,ci,jS,jT,ib,rfl,j5,wr,rfl,⟨by omega,by omega⟩,rfl,ci,kc,iy,rfl,ci,dF,dn,cX,cU,ch,ci,kc,iy,ch,rfl,rfl,rfl,rfl,rfl,rfl,rfl,ae⟩
    | false=>exact ahD ⟨rfl,iW,rfl,rd,rfl,ci,dF,dn,cX,cU,ch,kh,rfl,ci,jS,jT,ib,rfl,j5,wr,rfl,⟨by omega,by omega⟩,rfl,ci,kc,iy,rfl,ci,s6,s7,ci,dF,dn,cX,cU,ch,ci,kc,iy,ch,rfl,rfl,rfl,rfl,rfl,rfl,rfl,ae⟩
 case neg=>
  obtain rfl:l6=0:=by omega
  have j5:decide ((0:Int)>0)=false:=rfl;have e1:=fun b=>ain c e ⟨false,0,ts,tb,eM⟩ b
  have ends:=fun cap=>aio (cM c e ⟨false,0,ts,tb,eM⟩) true x e cap (Cr.trans aa) uR (by rw[Fe];exact af)
  rw[e1]at ends;cases tb with
  | true=>
   rw[show dx c e ⟨true,0,ts,true,eM⟩ x=(cM c e ⟨false,0,ts,true,eM⟩,true) by simp[dx,hp]];dsimp only;rw[e1];exact ahI ⟨rfl,iW,rfl,rd,rfl,ci,dF,dn,cX,cU,ch,kh,rfl,ci,jS,jT,ib,rfl,j5,ci,dF,dn,rfl,ae⟩
  | false=>
  cases hk:x.bV.getD e.toNat false with
  | true=>
   rw[hk]at iy;rw[show dx c e ⟨true,0,ts,false,eM⟩ x=(cM c e ⟨false,0,ts,false,eM⟩,true) by unfold dx;simp only[hp,hk];rfl];dsimp only;rw[e1];exact ahH ⟨rfl,iW,rfl,rd,rfl,ci,dF,dn,cX,cU,ch,kh,rfl,ci,jS,jT,ib,rfl,j5,ci,dF,dn,rfl,ci,kc,iy,rfl,ae⟩
  | false=>
  rw[hk]at iy;cases aW:(ts+x.bM.getD e.toNat 0==0) with
  | false=>
   rw[show dx c e ⟨true,0,ts,false,eM⟩ x=(cM c e ⟨false,0,ts,false,eM⟩,true) by unfold dx;simp only[hp,hk,aW];rfl];dsimp only;rw[e1];exact ahG ⟨rfl,iW,rfl,rd,rfl,ci,dF,dn,cX,cU,ch,kh,rfl,ci,jS,jT,ib,rfl,j5,ci,dF,dn,rfl,ci,kc,iy,rfl,aW,ae⟩
  | true=>
  rw[show dx c e ⟨true,0,ts,false,eM⟩ x=(hg (setW (cM c e ⟨false,0,ts,false,eM⟩) 0 (told x e (eM||x.bm.getD e.toNat false))) (c.news++fU (c.aq.length-1) e (eM||x.bm.getD e.toNat false)),true) by unfold dx;simp only[hp,hk,aW];rfl];cases eM with
  | true=>exact ahE ⟨rfl,iW,rfl,rd,rfl,ci,dF,dn,cX,cU,ch,kh,rfl,ci,jS,jT,ib,rfl,j5,ci,dF,dn,rfl,ci,kc,iy,rfl,aW,rfl,ends true,ae⟩
  | false=>exact ahF ⟨rfl,iW,rfl,rd,rfl,ci,dF,dn,cX,cU,ch,kh,rfl,ci,jS,jT,ib,rfl,j5,ci,dF,dn,rfl,ci,kc,iy,rfl,aW,rfl,ci,s6,s7,ends _,ae⟩
theorem aiq(c:aU)(e:Int)(W T:List (List D))(hlen:0<c.aq.length)(aF:c.aq.length<=4)(af:c.sz<=8388608):c6 prog (av f223 0) (zL e 1 (c.ay.nodes.map Node.e) c.ay.aq c.ay.cap W (c.bK.map bt.e) T (c.news.map bT.e) 0 0 (c.ay.nodes.map Node.e) c.ay.aq c.ay.cap (c.aq.map aL.e) (c.bK.map bt.e) (c.tokens.map bQ.e) (c.news.map bT.e)) (.exit 1) (zM (c.ay.nodes.map Node.e) c.ay.aq c.ay.cap W (c.bK.map bt.e) T ((c.news++fU (c.aq.length-1) e true).map bT.e) 0 0):=by
 have aK:=xE af;have l:=eR (P:=prog) (c:=(av f223 0)) (cL 1) (c.aq.length-1) (fun i:Nat=>zL e ((i:Int)+1) (c.ay.nodes.map Node.e) c.ay.aq c.ay.cap W (c.bK.map bt.e) T ((c.news++fU i e true).map bT.e) 0 0 (c.ay.nodes.map Node.e) c.ay.aq c.ay.cap (c.aq.map aL.e) (c.bK.map bt.e) (c.tokens.map bQ.e) (c.news.map bT.e)) (fun i hi=>by
  have hm:=M0 i e true;rw[MZ,<-pL,jV (l₂:=[_])];exact ahj ⟨dr (by simp;omega),by simp;omega,by simp;omega,dY (bT.flat ⟨(i:Int)+1,e,true⟩),⟨by omega,by omega⟩,ae⟩) (ahk ⟨ee (by simp;omega),ae⟩)
 have cc:fU 0 e true=[]:=rfl;rw[cc,jX]at l;exact l
theorem air(c:aU)(e:Int)(cap:Bool)(W T:List (List D))(hlen:0<c.aq.length)(aF:c.aq.length<=4)(af:c.sz<=8388608):c6 prog (av f223 0) (zN e cap 1 (c.ay.nodes.map Node.e) c.ay.aq c.ay.cap W (c.bK.map bt.e) T (c.news.map bT.e) 0 0 (c.ay.nodes.map Node.e) c.ay.aq c.ay.cap (c.aq.map aL.e) (c.bK.map bt.e) (c.tokens.map bQ.e) (c.news.map bT.e)) (.exit 1) (zM (c.ay.nodes.map Node.e) c.ay.aq c.ay.cap W (c.bK.map bt.e) T ((c.news++fU (c.aq.length-1) e cap).map bT.e) 0 0):=by
 have aK:=xE af;have l:=eR (P:=prog) (c:=(av f223 0)) (cL 1) (c.aq.length-1) (fun i:Nat=>zN e cap ((i:Int)+1) (c.ay.nodes.map Node.e) c.ay.aq c.ay.cap W (c.bK.map bt.e) T ((c.news++fU i e cap).map bT.e) 0 0 (c.ay.nodes.map Node.e) c.ay.aq c.ay.cap (c.aq.map aL.e) (c.bK.map bt.e) (c.tokens.map bQ.e) (c.news.map bT.e)) (fun i hi=>by
  have hm:=M0 i e cap;rw[MZ,<-pL,jV (l₂:=[_])];exact ahm ⟨dr (by simp;omega),by simp;omega,by simp;omega,dY (bT.flat ⟨(i:Int)+1,e,cap⟩),⟨by omega,by omega⟩,ae⟩) (ahn ⟨ee (by simp;omega),ae⟩)
 have cc:fU 0 e cap=[]:=rfl;rw[cc,jX]at l;exact l
theorem ais(c:aU)(e:Int)(af:c.sz<=8388608)(hw:fF c):aw 223 [.agg c.e,.one (I e)] [.agg (ij c e).1.e,.one (B (ij c e).2)]:=by
 have cQ:=rD c af;have mn:=E' c af hw;cases ok:cq c with
 | false=>
  rw[ok]at mn;rw[show ij c e=(c,false) by unfold ij;simp[ok]];exact ahJ ⟨cQ,mn,rfl,ae⟩
 | true=>
 rw[ok]at mn;cases he:ap e 0 3 with
 | false=>
  rw[show ij c e=(c,false) by unfold ij;simp[he]];exact ahK ⟨cQ,mn,rfl,hN _ he,rfl,ae⟩
 | true=>
 have he:=he;obtain⟨cm,t,x,bl,bq,aa,wz,uR,PM,IF,aaj,ra,ti,uN,wL⟩:=Vt ok he;have qY:0<=e/\e<=3:=by simpa only[ap,b']using he
 obtain⟨ci,dF,dn⟩:=Vo bq;obtain⟨cX,cU,ch⟩:=mo aa;obtain⟨avX,oI,oJ⟩:=mo bl;obtain⟨jS,jT⟩:=Bm ra qY;obtain⟨kc,iy⟩:=uz ti qY;obtain⟨s6,s7⟩:=uz uN qY;have c7:=mY aa af;have qW:x.b1.length<=8388608:=by simp only[aL.sz]at c7;omega
 have Ee:(↑(c.aq.map aL.e).length:Int)=(c.aq.length:Int):=by rw[bk]
 have iW:=hN _ he;cases aB:ew cm e with
 | true=>
  rw[show ij c e=(c,false) by unfold ij;simp only[ok,he,Bool.and_self,fL,bl,bq,aB]];exact ahL ⟨cQ,mn,rfl,iW,rfl,by omega,oI,oJ,Gr cm e true aB (mY bl af),rfl,ae⟩
 | false=>
 have de:=Gr cm e false aB (mY bl af);rw[Vs ok he bl bq aB aa];cases hp:kA x e with
 | false=>
  rw[show dx c e t x=(c,false) by unfold dx;simp[hp]];exact ahM ⟨cQ,mn,rfl,iW,rfl,by omega,oI,oJ,de,rfl,ci,dF,dn,cX,cU,ch,Vn x e _ hp c7,rfl,ae⟩
 | true=>
 have kh:=Vn x e _ hp c7;have ib:aC .i64 (t.sum+x.bM.getD e.toNat 0):=⟨by omega,by omega⟩
 obtain⟨GU,l6,ts,tb,eM⟩:=t;dsimp only at*;cases GU with
 | false=>
  obtain rfl:l6=0:=IF rfl;rw[show dx c e ⟨false,0,ts,tb,eM⟩ x=(setW (cM c e ⟨true,(c.aq.length:Int)-1,0,false,x.bm.getD e.toNat false⟩) 0 (er x e),true) by simp only[dx,hp,fL,oL]];dsimp only;rw[Vq,Gt,<-Ee];exact ahN ⟨cQ,mn,rfl,iW,rfl,by omega,oI,oJ,de,rfl,ci,dF,dn,cX,cU,ch,kh,rfl,dn,rfl,ch,ci,s6,s7,⟨by omega,by omega⟩,dn,ch,ci,kc,iy,ch,rfl,rfl,rfl,ae⟩
 | true=>
 by_cases lE:0<l6
 case pos=>
  have j5:decide (l6>0)=true:=dr lE;cases az:ap (ts+x.bM.getD e.toNat 0) (-1000000) 1000000 with
  | false=>
   rw[show dx c e ⟨true,l6,ts,tb,eM⟩ x=(c,false) by simp only[dx,hp,fL,iu,ng,k9,lE,az]];exact ahO ⟨cQ,mn,rfl,iW,rfl,by omega,oI,oJ,de,rfl,ci,dF,dn,cX,cU,ch,kh,rfl,dn,rfl,dn,j5,dn,ch,ci,jS,jT,ib,hN _ az,rfl,ae⟩
  | true=>
   have e1:dx c e ⟨true,l6,ts,tb,eM⟩ x=(setW (cM c e ⟨true,l6-1,ts+x.bM.getD e.toNat 0,tb||x.bV.getD e.toNat false,eM||x.bm.getD e.toNat false⟩) l6 (er x e),true):=by
    simp only[dx,hp,fL,iu,ng,k9,lE,az]
   rw[e1];dsimp only;rw[Vq,Gt];have wr:=hN _ az;have cy:aC .i64 (l6-1):=⟨by omega,by omega⟩
   cases tb with
   | true=>
    cases eM with
    | true=>
     have key:=ahP ⟨cQ,mn,rfl,iW,rfl,by omega,oI,oJ,de,rfl,ci,dF,dn,cX,cU,ch,kh,rfl,dn,rfl,dn,j5,dn,ch,ci,jS,jT,ib,wr,rfl,dn,ch,ci,jS,jT,ib,dn,hX ci dF,rfl,hX ci dF,uF ci dF,rfl,uF ci dF,ch,ci,kc,iy,ch,rfl,rfl,rfl,uG ci dF,cy,uG ci dF,ae⟩;simp only[qp]at key;exact key
    | false=>
     have key:=ahQ ⟨cQ,mn,rfl,iW,rfl,by omega,oI,oJ,de,rfl,ci,dF,dn,cX,cU,ch,kh,rfl,dn,rfl,dn,j5,dn,ch,ci,jS,jT,ib,wr,rfl,dn,ch,ci,jS,jT,ib,dn,hX ci dF,rfl,hX ci dF,uF ci dF,rfl,ch,ci,s6,s7,uF ci dF,ch,ci,kc,iy,ch,rfl,rfl,rfl,uG ci dF,cy,uG ci dF,ae⟩;simp only[qp]at key;exact key
   | false=>
    cases eM with
    | true=>
     have key:=ahR ⟨cQ,mn,rfl,iW,rfl,by omega,oI,oJ,de,rfl,ci,dF,dn,cX,cU,ch,kh,rfl,dn,rfl,dn,j5,dn,ch,ci,jS,jT,ib,wr,rfl,dn,ch,ci,jS,jT,ib,dn,hX ci dF,rfl,ch,ci,kc,iy,hX ci dF,uF ci dF,rfl,uF ci dF,ch,ci,kc,iy,ch,rfl,rfl,rfl,rfl,rfl,uG ci dF,cy,uG ci dF,ae⟩;simp only[qp]at key;exact key
    | false=>
     have key:=ahS ⟨cQ,mn,rfl,iW,rfl,by omega,oI,oJ,de,rfl,ci,dF,dn,cX,cU,ch,kh,rfl,dn,rfl,dn,j5,dn,ch,ci,jS,jT,ib,wr,rfl,dn,ch,ci,jS,jT,ib,dn,hX ci dF,rfl,ch,ci,kc,iy,hX ci dF,uF ci dF,rfl,ch,ci,s6,s7,uF ci dF,ch,ci,kc,iy,ch,rfl,rfl,rfl,rfl,rfl,uG ci dF,cy,uG ci dF,ae⟩;simp only[qp]at key;exact key
 case neg=>
  obtain rfl:l6=0:=by omega
  have j5:decide ((0:Int)>0)=false:=rfl;cases tb with
  | true=>
   rw[show dx c e ⟨true,0,ts,true,eM⟩ x=(cM c e ⟨false,0,ts,true,eM⟩,true) by simp[dx,hp]];dsimp only;rw[MY];exact ahr ⟨cQ,mn,rfl,iW,rfl,by omega,oI,oJ,de,rfl,ci,dF,dn,cX,cU,ch,kh,rfl,dn,rfl,dn,j5,dn,hX ci dF,rfl,ae⟩
  | false=>
  cases hk:x.bV.getD e.toNat false with
  | true=>
   rw[hk]at iy;rw[show dx c e ⟨true,0,ts,false,eM⟩ x=(cM c e ⟨false,0,ts,false,eM⟩,true) by unfold dx;simp only[hp,hk];rfl];dsimp only;rw[MY];exact ahq ⟨cQ,mn,rfl,iW,rfl,by omega,oI,oJ,de,rfl,ci,dF,dn,cX,cU,ch,kh,rfl,dn,rfl,dn,j5,dn,hX ci dF,rfl,ch,ci,kc,iy,rfl,ae⟩
  | false=>
  rw[hk]at iy;cases aW:(ts+x.bM.getD e.toNat 0==0) with
  | false=>
   rw[show dx c e ⟨true,0,ts,false,eM⟩ x=(cM c e ⟨false,0,ts,false,eM⟩,true) by unfold dx;simp only[hp,hk,aW];rfl];dsimp only;rw[MY];exact ahp ⟨cQ,mn,rfl,iW,rfl,by omega,oI,oJ,de,rfl,ci,dF,dn,cX,cU,ch,kh,rfl,dn,rfl,dn,j5,dn,hX ci dF,rfl,ch,ci,kc,iy,rfl,hX ci dF,ch,ci,jS,jT,ib,aW,ae⟩
  | true=>
  rw[show dx c e ⟨true,0,ts,false,eM⟩ x=(hg (setW (cM c e ⟨false,0,ts,false,eM⟩) 0 (told x e (eM||x.bm.getD e.toNat false))) (c.news++fU (c.aq.length-1) e (eM||x.bm.getD e.toNat false)),true) by unfold dx;simp only[hp,hk,aW];rfl];have e4:∀cap,(hg (setW (cM c e ⟨false,0,ts,false,eM⟩) 0 (told x e cap)) (c.news++fU (c.aq.length-1) e cap)).e=[.J 4 (c.ay.nodes.map Node.e),I c.ay.aq,I c.ay.cap,.J 8 ((c.aq.map aL.e).set 0 [.J 5 (x.queue.map aE.e),.J 5 (x.cp.map aE.e),.J 5 (x.bZ.map aE.e),.J 4 (x.cells.map Cell.e),.J 1 (x.bM.map ba),.J 1 (x.bV.map cI),.J 1 (x.bm.map cI),.J 2 (x.b1.map cD.e++[[I e,B cap]])]),.J 6 (c.bK.map bt.e),.J 5 ((c.tokens.map bQ.e).set e.toNat (bQ.e ⟨false,0,ts,false,eM⟩)),.J 3 ((c.news++fU (c.aq.length-1) e cap).map bT.e)]:=fun cap=>by
   rw[<-Vp];simp only[hg,setW,cM,aU.e,kG];rfl
  cases eM with
  | true=>
   dsimp only[Bool.true_or];rw[e4];exact ahl ⟨cQ,mn,rfl,iW,rfl,by omega,oI,oJ,de,rfl,ci,dF,dn,cX,cU,ch,kh,rfl,dn,rfl,dn,j5,dn,hX ci dF,rfl,ch,ci,kc,iy,rfl,hX ci dF,ch,ci,jS,jT,ib,aW,hX ci dF,rfl,ch,by simp;omega,by simp;omega,ch,rfl,rfl,rfl,dY (cD.flat ⟨e,true⟩),ch,rfl,aiq c e _ _ wz uR af,ae⟩
  | false=>
   dsimp only[jY];rw[e4];exact aho ⟨cQ,mn,rfl,iW,rfl,by omega,oI,oJ,de,rfl,ci,dF,dn,cX,cU,ch,kh,rfl,dn,rfl,dn,j5,dn,hX ci dF,rfl,ch,ci,kc,iy,rfl,hX ci dF,ch,ci,jS,jT,ib,aW,hX ci dF,rfl,ch,ci,s6,s7,ch,by simp;omega,by simp;omega,ch,rfl,rfl,rfl,dY (cD.flat ⟨e,_⟩),ch,rfl,air c e _ _ _ wz uR af,ae⟩
