/- TokenStep: what program and reference compute. -/
import Derived.Test.YtdanpadojemjeaaGreatP43
import Derived.Test.YtdanpadojemjeaaGreatGW
import Derived.Test.YtdanpadojemjeaaGreatGX
set_option linter.unusedVariables false
set_option linter.unusedSimpArgs false
namespace Go.Proofs.YtdanpadojemjeaaGreat
open Go.Sx Go.RowKit Go.Proofs.Tryz
theorem beq0(a b:Nat):(((a:Int)+(b:Int))==0)=(a+b==0):=by
 rw[Bool.eq_iff_iff];simp only[zE];omega
theorem qLB(w:Worker)(e:Int)(hw:w.sz≤8388608):Rt 205 [.agg w.e,.one (I e)] [.one (B (qgs w e))]:=by
 have hl:w.inputs.length≤8388608:=by simp only[Worker.sz]at hw;omega
 have l:=qaS (P:=prog) (c:=(qaa f205 0)) w.inputs (fun r=>decide (r.stamp.epoch≤e)) (fun i=>qe8 (w.queue.map Record.e) (w.staged.map Record.e) (w.inputs.map Record.e) (w.cells.map Cell.e) (w.sums.map eI) (w.black.map eB) (w.caps.map eB) (w.dones.map Done.e) e i) (X:=fun _ _=>qld true) qaw (qaf 0)
  (fun i a ha h=>qCr ⟨lt1 (lt_of ha),lt0,lt2 (lt_of ha),qac Record.e ha,h,up1 (lt_of ha) hl,trivial⟩)
  (fun i a ha h=>qCq ⟨lt1 (lt_of ha),lt0,lt2 (lt_of ha),qac Record.e ha,h,trivial⟩)
  (qCs ⟨ge1,trivial⟩)
 unfold qgs
 rcases l with⟨_,_,h1,h2⟩ | ⟨i,a,_,_,_,_,h1,h2⟩
 ·rw[h1];exact qCu ⟨h2,trivial⟩
 ·rw[h1];exact qCt ⟨h2,trivial⟩
theorem qLC(w:Worker)(e:Int)(hw:w.sz≤8388608):Rt 141 [.agg w.e,.one (I e)] [.one (B (qgs w e))]:=by
 have hl:w.inputs.length≤8388608:=by simp only[Worker.sz]at hw;omega
 exact qCy ⟨qCJ w.inputs (fun r=>decide (r.stamp.epoch≤e)) 208 [.ptr [I e]] hl (by kernel_rfl) (fun x _=>qCz trivial),trivial⟩
theorem qLD(w:Worker)(e:Int)(hw:w.sz≤8388608):Rt 206 [.agg w.e,.one (I e)] [.one (I ((↑((qcJ e w.queue).map Record.e).length:Int)+(↑((qcJ e w.staged).map Record.e).length:Int)))]:=by
 simp only[Worker.sz]at hw
 have k1:(qcJ e w.queue).length≤w.queue.length:=zat _ _
 have k2:(qcJ e w.staged).length≤w.staged.length:=zat _ _
 exact qCx ⟨qpI w.queue e (by omega),qpI w.staged e (by omega),⟨by simp only[zb];omega,by simp only[zb];omega⟩,trivial⟩
theorem qLE(w:Worker)(e:Int)(hw:w.sz≤8388608):Rt 139 [.agg w.e,.one (I e)] [.one (B (qdF w e))]:=by
 have o:=qLB w e hw
 unfold qdF
 cases h:qgs w e with
 | true=>rw[h]at o;exact qCw ⟨o,rfl,trivial⟩
 | false=>
  rw[h]at o
  have a:=qLD w e hw
  rw[zb,zb]at a
  have b:=qCv ⟨o,rfl,a,trivial⟩
  rw[beq0]at b
  exact b
theorem qLF(w:Worker)(e:Int)(hw:w.sz≤8388608):Rt 142 [.agg w.e,.one (I e)] [.one (I ((↑((qcJ e w.queue).map Record.e).length:Int)+(↑((qcJ e w.staged).map Record.e).length:Int)))]:=by
 simp only[Worker.sz]at hw
 have k1:(qcJ e w.queue).length≤w.queue.length:=zat _ _
 have k2:(qcJ e w.staged).length≤w.staged.length:=zat _ _
 exact qCC ⟨qpJ w.queue e (by omega),qpJ w.staged e (by omega),⟨by simp only[zb];omega,by simp only[zb];omega⟩,trivial⟩
theorem qLG(w:Worker)(e:Int)(hw:w.sz≤8388608):Rt 82 [.agg w.e,.one (I e)] [.one (B (qdF w e))]:=by
 have o:=qLC w e hw
 unfold qdF
 cases h:qgs w e with
 | true=>rw[h]at o;exact qCB ⟨o,rfl,trivial⟩
 | false=>
  rw[h]at o
  have a:=qLF w e hw
  rw[zb,zb]at a
  have b:=qCA ⟨o,rfl,a,trivial⟩
  rw[beq0]at b
  exact b
theorem qq5(w:Worker)(e:Int)(r:Bool)(h:qdF w e=r)(hw:w.sz≤8388608):Rt 139 [.agg w.e,.one (I e)] [.one (B r)]:=h▸qLE w e hw
theorem qq6(w:Worker)(e:Int)(r:Bool)(h:qdF w e=r)(hw:w.sz≤8388608):Rt 82 [.agg w.e,.one (I e)] [.one (B r)]:=h▸qLG w e hw
end Go.Proofs.YtdanpadojemjeaaGreat
namespace Go.Proofs.YtdanpadojemjeaaGreat
open Go.Sx Go.RowKit Go.Proofs.Tryz
theorem qq7{c:Cluster}{i:Int}{t:Token}(h:tAt c i=some t):0≤i∧i<(↑(c.tokens.map Token.e).length:Int)∧(c.tokens.map Token.e)[i.toNat]?=some t.e:=by
 obtain⟨h1,h2,h3⟩:=qlG h
 exact⟨h1,by rw[zb];omega,qad Token.e h3⟩
theorem int4{xs:List Int}{e:Int}(h4:xs.length=4)(he:0≤e∧e≤3):e<(↑(xs.map eI).length:Int)∧(xs.map eI)[e.toNat]?=some [I (xs.getD e.toNat 0)]:=by
 have hl:e.toNat<xs.length:=by omega
 refine⟨by rw[zb];omega,?_⟩
 rw[zr,zu hl,zN,zu hl]
 rfl
theorem bool4{xs:List Bool}{e:Int}(h4:xs.length=4)(he:0≤e∧e≤3):e<(↑(xs.map eB).length:Int)∧(xs.map eB)[e.toNat]?=some [B (xs.getD e.toNat false)]:=by
 have hl:e.toNat<xs.length:=by omega
 refine⟨by rw[zb];omega,?_⟩
 rw[zr,zu hl,zN,zu hl]
 rfl
theorem gs1{l:List (List D)}{i:Int}{a:List D}(h0:0≤i)(h:i<(↑l.length:Int)):(l.set i.toNat a)[i.toNat]?=some a:=List.getElem?_set_self (by omega)
theorem gs2{l:List (List D)}{i:Int}{a b:List D}(h0:0≤i)(h:i<(↑l.length:Int)):((l.set i.toNat a).set i.toNat b)[i.toNat]?=some b:=by rw[zam];exact gs1 h0 h
theorem gs3{l:List (List D)}{i:Int}{a b d:List D}(h0:0≤i)(h:i<(↑l.length:Int)):(((l.set i.toNat a).set i.toNat b).set i.toNat d)[i.toNat]?=some d:=by rw[zam,zam];exact gs1 h0 h
theorem qjl(x:Worker)(e:Int):(qb0 x e).e=[.sl 5 (x.queue.map Record.e),.sl 5 (x.staged.map Record.e),.sl 5 (x.inputs.map Record.e),.sl 4 (x.cells.map Cell.e),.sl 1 (x.sums.map eI),.sl 1 ((x.black.map eB).set e.toNat [B false]),.sl 1 (x.caps.map eB),.sl 2 (x.dones.map Done.e)]:=by
 simp only[qb0,Worker.e,zau];rfl
theorem qq8(x:Worker)(e:Int)(b:Bool):(told x e b).e=[.sl 5 (x.queue.map Record.e),.sl 5 (x.staged.map Record.e),.sl 5 (x.inputs.map Record.e),.sl 4 (x.cells.map Cell.e),.sl 1 (x.sums.map eI),.sl 1 (x.black.map eB),.sl 1 (x.caps.map eB),.sl 2 (x.dones.map Done.e++[[I e,B b]])]:=by
 simp only[told,Worker.e,zU];rfl
theorem qq9(c:Cluster)(e p:Int)(t:Token)(y:Worker):(setW (setT c e t) p y).e=[.sl 4 (c.graph.nodes.map Node.e),I c.graph.workers,I c.graph.cap,.sl 8 ((c.workers.map Worker.e).set p.toNat y.e),.sl 6 (c.links.map Link.e),.sl 5 ((c.tokens.map Token.e).set e.toNat t.e),.sl 3 (c.news.map News.e)]:=by
 simp only[setW,setT,Cluster.e,zau]
theorem qlP(c:Cluster)(e:Int)(t:Token):(setT c e t).e=[.sl 4 (c.graph.nodes.map Node.e),I c.graph.workers,I c.graph.cap,.sl 8 (c.workers.map Worker.e),.sl 6 (c.links.map Link.e),.sl 5 ((c.tokens.map Token.e).set e.toNat t.e),.sl 3 (c.news.map News.e)]:=by
 simp only[setT,Cluster.e,zau]
theorem qra(c:Cluster)(e p:Int)(t:Token)(y:Worker)(b:Bool):runD (setW (setT c e t) p y) b=[.sl 4 (c.graph.nodes.map Node.e),I c.graph.workers,I c.graph.cap,.sl 8 ((c.workers.map Worker.e).set p.toNat y.e),.sl 6 (c.links.map Link.e),.sl 5 ((c.tokens.map Token.e).set e.toNat t.e),.sl 3 (c.news.map News.e),B b]:=by
 simp only[setW,setT,runD,zau]
theorem qLH(c:Cluster)(e:Int)(t:Token)(b:Bool):runD (setT c e t) b=[.sl 4 (c.graph.nodes.map Node.e),I c.graph.workers,I c.graph.cap,.sl 8 (c.workers.map Worker.e),.sl 6 (c.links.map Link.e),.sl 5 ((c.tokens.map Token.e).set e.toNat t.e),.sl 3 (c.news.map News.e),B b]:=by
 simp only[setT,runD,zau]
theorem qlQ(n:Nat)(e:Int)(b:Bool):qbg (n+1) e b=qbg n e b++[⟨(n:Int)+1,e,b⟩]:=by simp[qbg,List.range_succ]
theorem qlR(n:Nat)(e:Int)(b:Bool):(qbg n e b).length=n:=by simp[qbg]
theorem qrb{c:Cluster}{e:Int}{x0 x:Worker}{t:Token}(ok:qah c=true)(he:inR e 0 3=true)(h0:wAt c 0=some x0)(ht:tAt c e=some t)(hd:qbW x0 e=false)(hx:wAt c t.place=some x):qbj c e=qaJ c e t x:=by
 unfold qbj
 simp only[ok,he,Bool.and_self,zbb,h0,ht,hd,zao,zci,hx]
theorem qrc{c:Cluster}{e:Int}(ok:qah c=true)(he:inR e 0 3=true):∃x0 t x,wAt c 0=some x0∧tAt c e=some t∧wAt c t.place=some x∧0<c.workers.length∧c.workers.length≤4∧
  (0≤t.place∧t.place≤3)∧(t.going=false→t.place=0)∧(-1000000≤t.sum∧t.sum≤1000000)∧x.sums.length=4∧x.black.length=4∧x.caps.length=4∧(-1000000≤x.sums.getD e.toNat 0∧x.sums.getD e.toNat 0≤1000000):=by
 obtain⟨h1,h2,h3,h4,h5,h6,h7,h8⟩:=qa8.1 ok
 have hn:=qcy h1
 obtain⟨x0,h0⟩:=qhM (c:=c) (i:=0) (by omega) (by omega)
 obtain⟨t,ht⟩:=qK4 ok he
 obtain⟨t1,t2,t3⟩:=qhN.1 (qqM ok ht)
 obtain⟨x,hx⟩:=qhM (c:=c) (i:=t.place) (by omega) (by omega)
 obtain⟨_,_,_,_,k5,k6,k7,_,k9,_⟩:=qbG.1 (qcz ok hx)
 refine⟨x0,t,x,h0,ht,hx,by omega,by omega,by omega,t2,t3,k5,k6,k7,?_⟩
 simp only[inR,zi]at he
 have hl:e.toNat<x.sums.length:=by omega
 rw[zP]at k9
 have:=k9 _ (zax hl)
 rw[zN,zu hl,zV]
 simpa only[qcj,zS,zX,inR,zi,zbt,Bool.not_not,Bool.not_eq_eq_eq_not,zZ,zf,Classical.not_not]using this
theorem qrd(c:Cluster)(e:Int)(x:Worker)(r:Bool)(h0:wAt c 0=some x)(hd:qbW x e=r)(hc:c.sz≤8388608):Rt 138 [.agg c.e,.one (I e)] [.one (B r)]:=by
 obtain⟨w0,w1,w2⟩:=qbS h0
 exact qCp ⟨dT (by omega),w0,w1,w2,qlf x e r hd (qb1 h0 hc),trivial⟩
theorem qLI(c:Cluster)(b:Bool)(x:Worker)(e:Int)(cap:Bool)(h0:wAt c 0=some x)(h4:c.workers.length≤4)(hc:c.sz≤8388608):
  RetR prog 140 [.ref (runD c b) (runD (setN (setW c 0 (told x e cap)) (c.news++qbg (c.workers.length-1) e cap)) b),.ro (.one (I e)),.ro (.one (B cap))] (.vals []):=by
 obtain⟨w0,w1,w2⟩:=qbS h0
 have hn:=qfm hc
 have hs:=qb1 h0 hc
 have hdl:x.dones.length≤8388608:=by simp only[Worker.sz]at hs;omega
 have hlen:=(qc4 h0).2.1
 have hW:((setW c 0 (told x e cap)).workers.map Worker.e).length=c.workers.length:=by simp[setW]
 have l:=qaq (P:=prog) (c:=(qaa f140 0)) (qaf 0) (c.workers.length-1) (fun i:Nat=>qhC e cap ((i:Int)+1) (c.graph.nodes.map Node.e) c.graph.workers c.graph.cap ((setW c 0 (told x e cap)).workers.map Worker.e) (c.links.map Link.e) (c.tokens.map Token.e) ((c.news++qbg i e cap).map News.e) b) (fun i hi=>by
  have hm:=qlR i e cap
  rw[qlQ,←zba,zU (l₂:=[_])]
  exact qBO ⟨dT (by rw[hW];omega),by simp;omega,by simp;omega,qau (News.flat ⟨(i:Int)+1,e,cap⟩),⟨by omega,by omega⟩,trivial⟩) (qBP ⟨dF (by rw[hW];omega),trivial⟩)
 have e2:(setW c 0 (told x e cap)).workers.map Worker.e=(c.workers.map Worker.e).set 0 [.sl 5 (x.queue.map Record.e),.sl 5 (x.staged.map Record.e),.sl 5 (x.inputs.map Record.e),.sl 4 (x.cells.map Cell.e),.sl 1 (x.sums.map eI),.sl 1 (x.black.map eB),.sl 1 (x.caps.map eB),.sl 2 (x.dones.map Done.e++[[I e,B cap]])]:=by
  rw[←qq8]
  exact qlN.symm
 have e0:qbg 0 e cap=[]:=rfl
 rw[e2,e0,zaa]at l
 have e5:runD (setN (setW c 0 (told x e cap)) (c.news++qbg (c.workers.length-1) e cap)) b=[.sl 4 (c.graph.nodes.map Node.e),I c.graph.workers,I c.graph.cap,.sl 8 ((setW c 0 (told x e cap)).workers.map Worker.e),.sl 6 (c.links.map Link.e),.sl 5 (c.tokens.map Token.e),.sl 3 ((c.news++qbg (c.workers.length-1) e cap).map News.e),B b]:=rfl
 rw[e5,e2]
 exact qBQ ⟨by omega,w1,w2,by simp;omega,by simp;omega,w2,rfl,qau (Done.flat ⟨e,cap⟩),rfl,rfl,rfl,rfl,rfl,rfl,rfl,by omega,w1,w2,rfl,l,trivial⟩
theorem qLJ(c:Cluster)(e:Int)(hc:c.sz≤8388608):RetR prog 80 [.ref (runE c) (runE (qbj c e).1),.ro (.one (I e))] (.vals [.one (B (qbj c e).2)]):=by
 have post:=fun h=>qLd (c:=c) (e:=e) h
 cases ok:qah c with
 | false=>
  rw[show qbj c e=(c,false) by unfold qbj;simp[ok]]
  simp only[runE,ok]
  exact qBR ⟨rfl,trivial⟩
 | true=>
 replace post:=post ok
 cases he:inR e 0 3 with
 | false=>
  rw[show qbj c e=(c,false) by unfold qbj;simp[he]]
  simp only[runE,ok]
  exact qBS ⟨rfl,qaM _ _ _ _ he,rfl,trivial⟩
 | true=>
 have he:=he
 obtain⟨x0,t,x,h0,ht,hx,hl0,hl4,hpl,hgp,hsum,hs4,hb4,hc4,hxs⟩:=qrc ok he
 have he':0≤e∧e≤3:=by simpa only[inR,zi]using he
 obtain⟨tE0,tE1,tE2⟩:=qq7 ht
 obtain⟨wE0,wE1,wE2⟩:=qbS hx
 obtain⟨zE0,zE1,zE2⟩:=qbS h0
 obtain⟨sE1,sE2⟩:=int4 hs4 he'
 obtain⟨kE1,kE2⟩:=bool4 hb4 he'
 obtain⟨cE1,cE2⟩:=bool4 hc4 he'
 have hsz:=qb1 hx hc
 have hdl:x.dones.length≤8388608:=by simp only[Worker.sz]at hsz;omega
 have hll:(↑(c.workers.map Worker.e).length:Int)=(c.workers.length:Int):=by rw[zb]
 cases hd:qbW x0 e with
 | true=>
  rw[show qbj c e=(c,false) by unfold qbj;simp only[ok,he,Bool.and_self,zbb,h0,ht,hd]]
  simp only[runE,ok]
  exact qBT ⟨rfl,qaM _ _ _ _ he,rfl,qrd c e x0 true h0 hd hc,rfl,trivial⟩
 | false=>
 rw[qrb ok he h0 ht hd hx]at post ⊢
 have rd:=qrd c e x0 false h0 hd hc
 have wi:=qaM _ _ _ _ he
 cases hp:qdF x e with
 | false=>
  rw[show qaJ c e t x=(c,false) by unfold qaJ;simp[hp]]
  simp only[runE,ok]
  exact qBU ⟨rfl,wi,rfl,rd,rfl,tE0,tE1,tE2,wE0,wE1,wE2,qq5 x e _ hp hsz,rfl,trivial⟩
 | true=>
 have pa:=qq5 x e _ hp hsz
 have ei:inInt .i64 (t.sum+x.sums.getD e.toNat 0):=⟨by omega,by omega⟩
 simp only[runE,ok,post]
 clear post
 obtain⟨tg,tp,ts,tb,tc⟩:=t
 dsimp only at*
 cases tg with
 | false=>
  obtain rfl:tp=0:=hgp rfl
  rw[show qaJ c e ⟨false,0,ts,tb,tc⟩ x=(setW (setT c e ⟨true,(c.workers.length:Int)-1,0,false,x.caps.getD e.toNat false⟩) 0 (qb0 x e),true) by simp only[qaJ,hp,zbb,zbc]]
  dsimp only
  rw[qra,qjl,←hll]
  exact qBV ⟨rfl,wi,rfl,rd,rfl,tE0,tE1,tE2,wE0,wE1,wE2,pa,rfl,tE0,sE1,sE2,ei,rfl,⟨by omega,by omega⟩,tE0,cE1,cE2,tE0,tE1,tE2,by omega,wE1,wE2,tE0,kE1,kE2,wE2,rfl,rfl,rfl,rfl,rfl,trivial⟩
 | true=>
 by_cases hp0:0<tp
 case pos=>
  have dp:decide (tp>0)=true:=dT hp0
  cases hr:inR (ts+x.sums.getD e.toNat 0) (-1000000) 1000000 with
  | false=>
   rw[show qaJ c e ⟨true,tp,ts,tb,tc⟩ x=(c,false) by simp only[qaJ,hp,zbb,zZ,zao,zci,hp0,hr]]
   exact qBW ⟨rfl,wi,rfl,rd,rfl,tE0,tE1,tE2,wE0,wE1,wE2,pa,rfl,tE0,sE1,sE2,ei,rfl,dp,qaM _ _ _ _ hr,rfl,trivial⟩
  | true=>
   have e1:qaJ c e ⟨true,tp,ts,tb,tc⟩ x=(setW (setT c e ⟨true,tp-1,ts+x.sums.getD e.toNat 0,tb||x.black.getD e.toNat false,tc||x.caps.getD e.toNat false⟩) tp (qb0 x e),true):=by
    simp only[qaJ,hp,zbb,zZ,zao,zci,hp0,hr]
   rw[e1]
   dsimp only
   rw[qra,qjl]
   have wr:=qaM _ _ _ _ hr
   cases tb with
   | true=>
    cases tc with
    | true=>exact qBX ⟨rfl,wi,rfl,rd,rfl,tE0,tE1,tE2,wE0,wE1,wE2,pa,rfl,tE0,sE1,sE2,ei,rfl,dp,wr,rfl,⟨by omega,by omega⟩,rfl,rfl,tE0,tE1,tE2,wE0,wE1,wE2,tE0,kE1,kE2,wE2,rfl,rfl,rfl,rfl,rfl,trivial⟩
    | false=>exact qBY ⟨rfl,wi,rfl,rd,rfl,tE0,tE1,tE2,wE0,wE1,wE2,pa,rfl,tE0,sE1,sE2,ei,rfl,dp,wr,rfl,⟨by omega,by omega⟩,rfl,rfl,tE0,cE1,cE2,tE0,tE1,tE2,wE0,wE1,wE2,tE0,kE1,kE2,wE2,rfl,rfl,rfl,rfl,rfl,trivial⟩
   | false=>
    cases tc with
    | true=>exact qBZ ⟨rfl,wi,rfl,rd,rfl,tE0,tE1,tE2,wE0,wE1,wE2,pa,rfl,tE0,sE1,sE2,ei,rfl,dp,wr,rfl,⟨by omega,by omega⟩,rfl,tE0,kE1,kE2,rfl,tE0,tE1,tE2,wE0,wE1,wE2,tE0,kE1,kE2,wE2,rfl,rfl,rfl,rfl,rfl,rfl,rfl,trivial⟩
    | false=>exact qB0 ⟨rfl,wi,rfl,rd,rfl,tE0,tE1,tE2,wE0,wE1,wE2,pa,rfl,tE0,sE1,sE2,ei,rfl,dp,wr,rfl,⟨by omega,by omega⟩,rfl,tE0,kE1,kE2,rfl,tE0,cE1,cE2,tE0,tE1,tE2,wE0,wE1,wE2,tE0,kE1,kE2,wE2,rfl,rfl,rfl,rfl,rfl,rfl,rfl,trivial⟩
 case neg=>
  obtain rfl:tp=0:=by omega
  have dp:decide ((0:Int)>0)=false:=rfl
  have e1:=fun b=>qLH c e ⟨false,0,ts,tb,tc⟩ b
  have ends:=fun cap=>qLI (setT c e ⟨false,0,ts,tb,tc⟩) true x e cap (qhP.trans hx) hl4 (by rw[qji];exact hc)
  rw[e1]at ends
  cases tb with
  | true=>
   rw[show qaJ c e ⟨true,0,ts,true,tc⟩ x=(setT c e ⟨false,0,ts,true,tc⟩,true) by simp[qaJ,hp]]
   dsimp only
   rw[e1]
   exact qB5 ⟨rfl,wi,rfl,rd,rfl,tE0,tE1,tE2,wE0,wE1,wE2,pa,rfl,tE0,sE1,sE2,ei,rfl,dp,tE0,tE1,tE2,rfl,trivial⟩
  | false=>
  cases hk:x.black.getD e.toNat false with
  | true=>
   rw[hk]at kE2
   rw[show qaJ c e ⟨true,0,ts,false,tc⟩ x=(setT c e ⟨false,0,ts,false,tc⟩,true) by unfold qaJ;simp only[hp,hk];rfl]
   dsimp only
   rw[e1]
   exact qB4 ⟨rfl,wi,rfl,rd,rfl,tE0,tE1,tE2,wE0,wE1,wE2,pa,rfl,tE0,sE1,sE2,ei,rfl,dp,tE0,tE1,tE2,rfl,tE0,kE1,kE2,rfl,trivial⟩
  | false=>
  rw[hk]at kE2
  cases hz:(ts+x.sums.getD e.toNat 0==0) with
  | false=>
   rw[show qaJ c e ⟨true,0,ts,false,tc⟩ x=(setT c e ⟨false,0,ts,false,tc⟩,true) by unfold qaJ;simp only[hp,hk,hz];rfl]
   dsimp only
   rw[e1]
   exact qB3 ⟨rfl,wi,rfl,rd,rfl,tE0,tE1,tE2,wE0,wE1,wE2,pa,rfl,tE0,sE1,sE2,ei,rfl,dp,tE0,tE1,tE2,rfl,tE0,kE1,kE2,rfl,hz,trivial⟩
  | true=>
  rw[show qaJ c e ⟨true,0,ts,false,tc⟩ x=(setN (setW (setT c e ⟨false,0,ts,false,tc⟩) 0 (told x e (tc||x.caps.getD e.toNat false))) (c.news++qbg (c.workers.length-1) e (tc||x.caps.getD e.toNat false)),true) by unfold qaJ;simp only[hp,hk,hz];rfl]
  cases tc with
  | true=>exact qB1 ⟨rfl,wi,rfl,rd,rfl,tE0,tE1,tE2,wE0,wE1,wE2,pa,rfl,tE0,sE1,sE2,ei,rfl,dp,tE0,tE1,tE2,rfl,tE0,kE1,kE2,rfl,hz,rfl,ends true,trivial⟩
  | false=>exact qB2 ⟨rfl,wi,rfl,rd,rfl,tE0,tE1,tE2,wE0,wE1,wE2,pa,rfl,tE0,sE1,sE2,ei,rfl,dp,tE0,tE1,tE2,rfl,tE0,kE1,kE2,rfl,hz,rfl,tE0,cE1,cE2,ends _,trivial⟩
theorem qLK(c:Cluster)(e:Int)(W T:List (List D))(hlen:0<c.workers.length)(h4:c.workers.length≤4)(hc:c.sz≤8388608):qan prog (qaa f19 0) (qgf e 1 (c.graph.nodes.map Node.e) c.graph.workers c.graph.cap W (c.links.map Link.e) T (c.news.map News.e) 0 0 (c.graph.nodes.map Node.e) c.graph.workers c.graph.cap (c.workers.map Worker.e) (c.links.map Link.e) (c.tokens.map Token.e) (c.news.map News.e)) (.exit 1) (qgg (c.graph.nodes.map Node.e) c.graph.workers c.graph.cap W (c.links.map Link.e) T ((c.news++qbg (c.workers.length-1) e true).map News.e) 0 0):=by
 have hn:=qfm hc
 have l:=qaq (P:=prog) (c:=(qaa f19 0)) (qaf 1) (c.workers.length-1) (fun i:Nat=>qgf e ((i:Int)+1) (c.graph.nodes.map Node.e) c.graph.workers c.graph.cap W (c.links.map Link.e) T ((c.news++qbg i e true).map News.e) 0 0 (c.graph.nodes.map Node.e) c.graph.workers c.graph.cap (c.workers.map Worker.e) (c.links.map Link.e) (c.tokens.map Token.e) (c.news.map News.e)) (fun i hi=>by
  have hm:=qlR i e true
  rw[qlQ,←zba,zU (l₂:=[_])]
  exact qCg ⟨dT (by simp;omega),by simp;omega,by simp;omega,qau (News.flat ⟨(i:Int)+1,e,true⟩),⟨by omega,by omega⟩,trivial⟩) (qCh ⟨dF (by simp;omega),trivial⟩)
 have e0:qbg 0 e true=[]:=rfl
 rw[e0,zaa]at l
 exact l
theorem qLL(c:Cluster)(e:Int)(cap:Bool)(W T:List (List D))(hlen:0<c.workers.length)(h4:c.workers.length≤4)(hc:c.sz≤8388608):qan prog (qaa f19 0) (qgh e cap 1 (c.graph.nodes.map Node.e) c.graph.workers c.graph.cap W (c.links.map Link.e) T (c.news.map News.e) 0 0 (c.graph.nodes.map Node.e) c.graph.workers c.graph.cap (c.workers.map Worker.e) (c.links.map Link.e) (c.tokens.map Token.e) (c.news.map News.e)) (.exit 1) (qgg (c.graph.nodes.map Node.e) c.graph.workers c.graph.cap W (c.links.map Link.e) T ((c.news++qbg (c.workers.length-1) e cap).map News.e) 0 0):=by
 have hn:=qfm hc
 have l:=qaq (P:=prog) (c:=(qaa f19 0)) (qaf 1) (c.workers.length-1) (fun i:Nat=>qgh e cap ((i:Int)+1) (c.graph.nodes.map Node.e) c.graph.workers c.graph.cap W (c.links.map Link.e) T ((c.news++qbg i e cap).map News.e) 0 0 (c.graph.nodes.map Node.e) c.graph.workers c.graph.cap (c.workers.map Worker.e) (c.links.map Link.e) (c.tokens.map Token.e) (c.news.map News.e)) (fun i hi=>by
  have hm:=qlR i e cap
  rw[qlQ,←zba,zU (l₂:=[_])]
  exact qCj ⟨dT (by simp;omega),by simp;omega,by simp;omega,qau (News.flat ⟨(i:Int)+1,e,cap⟩),⟨by omega,by omega⟩,trivial⟩) (qCk ⟨dF (by simp;omega),trivial⟩)
 have e0:qbg 0 e cap=[]:=rfl
 rw[e0,zaa]at l
 exact l
theorem qLM(c:Cluster)(e:Int)(hc:c.sz≤8388608)(hw:GotLe c):Rt 19 [.agg c.e,.one (I e)] [.agg (qbj c e).1.e,.one (B (qbj c e).2)]:=by
 have cp:=qc0 c hc
 have okr:=qje c hc hw
 cases ok:qah c with
 | false=>
  rw[ok]at okr
  rw[show qbj c e=(c,false) by unfold qbj;simp[ok]]
  exact qB6 ⟨cp,okr,rfl,trivial⟩
 | true=>
 rw[ok]at okr
 cases he:inR e 0 3 with
 | false=>
  rw[show qbj c e=(c,false) by unfold qbj;simp[he]]
  exact qB7 ⟨cp,okr,rfl,qa2 _ _ _ _ he,rfl,trivial⟩
 | true=>
 have he:=he
 obtain⟨x0,t,x,h0,ht,hx,hl0,hl4,hpl,hgp,hsum,hs4,hb4,hc4,hxs⟩:=qrc ok he
 have he':0≤e∧e≤3:=by simpa only[inR,zi]using he
 obtain⟨tE0,tE1,tE2⟩:=qq7 ht
 obtain⟨wE0,wE1,wE2⟩:=qbS hx
 obtain⟨zE0,zE1,zE2⟩:=qbS h0
 obtain⟨sE1,sE2⟩:=int4 hs4 he'
 obtain⟨kE1,kE2⟩:=bool4 hb4 he'
 obtain⟨cE1,cE2⟩:=bool4 hc4 he'
 have hsz:=qb1 hx hc
 have hdl:x.dones.length≤8388608:=by simp only[Worker.sz]at hsz;omega
 have hll:(↑(c.workers.map Worker.e).length:Int)=(c.workers.length:Int):=by rw[zb]
 have wi:=qa2 _ _ _ _ he
 cases hd:qbW x0 e with
 | true=>
  rw[show qbj c e=(c,false) by unfold qbj;simp only[ok,he,Bool.and_self,zbb,h0,ht,hd]]
  exact qB8 ⟨cp,okr,rfl,wi,rfl,by omega,zE1,zE2,qjj x0 e true hd (qb1 h0 hc),rfl,trivial⟩
 | false=>
 have dn:=qjj x0 e false hd (qb1 h0 hc)
 rw[qrb ok he h0 ht hd hx]
 cases hp:qdF x e with
 | false=>
  rw[show qaJ c e t x=(c,false) by unfold qaJ;simp[hp]]
  exact qB9 ⟨cp,okr,rfl,wi,rfl,by omega,zE1,zE2,dn,rfl,tE0,tE1,tE2,wE0,wE1,wE2,qq6 x e _ hp hsz,rfl,trivial⟩
 | true=>
 have pa:=qq6 x e _ hp hsz
 have ei:inInt .i64 (t.sum+x.sums.getD e.toNat 0):=⟨by omega,by omega⟩
 obtain⟨tg,tp,ts,tb,tc⟩:=t
 dsimp only at*
 cases tg with
 | false=>
  obtain rfl:tp=0:=hgp rfl
  rw[show qaJ c e ⟨false,0,ts,tb,tc⟩ x=(setW (setT c e ⟨true,(c.workers.length:Int)-1,0,false,x.caps.getD e.toNat false⟩) 0 (qb0 x e),true) by simp only[qaJ,hp,zbb,zbc]]
  dsimp only
  rw[qq9,qjl,←hll]
  exact qCa ⟨cp,okr,rfl,wi,rfl,by omega,zE1,zE2,dn,rfl,tE0,tE1,tE2,wE0,wE1,wE2,pa,rfl,tE2,rfl,wE2,tE0,cE1,cE2,⟨by omega,by omega⟩,tE2,wE2,tE0,kE1,kE2,wE2,rfl,rfl,rfl,trivial⟩
 | true=>
 by_cases hp0:0<tp
 case pos=>
  have dp:decide (tp>0)=true:=dT hp0
  cases hr:inR (ts+x.sums.getD e.toNat 0) (-1000000) 1000000 with
  | false=>
   rw[show qaJ c e ⟨true,tp,ts,tb,tc⟩ x=(c,false) by simp only[qaJ,hp,zbb,zZ,zao,zci,hp0,hr]]
   exact qCb ⟨cp,okr,rfl,wi,rfl,by omega,zE1,zE2,dn,rfl,tE0,tE1,tE2,wE0,wE1,wE2,pa,rfl,tE2,rfl,tE2,dp,tE2,wE2,tE0,sE1,sE2,ei,qa2 _ _ _ _ hr,rfl,trivial⟩
  | true=>
   have e1:qaJ c e ⟨true,tp,ts,tb,tc⟩ x=(setW (setT c e ⟨true,tp-1,ts+x.sums.getD e.toNat 0,tb||x.black.getD e.toNat false,tc||x.caps.getD e.toNat false⟩) tp (qb0 x e),true):=by
    simp only[qaJ,hp,zbb,zZ,zao,zci,hp0,hr]
   rw[e1]
   dsimp only
   rw[qq9,qjl]
   have wr:=qa2 _ _ _ _ hr
   have k1:inInt .i64 (tp-1):=⟨by omega,by omega⟩
   cases tb with
   | true=>
    cases tc with
    | true=>
     have key:=qCc ⟨cp,okr,rfl,wi,rfl,by omega,zE1,zE2,dn,rfl,tE0,tE1,tE2,wE0,wE1,wE2,pa,rfl,tE2,rfl,tE2,dp,tE2,wE2,tE0,sE1,sE2,ei,wr,rfl,tE2,wE2,tE0,sE1,sE2,ei,tE2,gs1 tE0 tE1,rfl,gs1 tE0 tE1,gs2 tE0 tE1,rfl,gs2 tE0 tE1,wE2,tE0,kE1,kE2,wE2,rfl,rfl,rfl,gs3 tE0 tE1,k1,gs3 tE0 tE1,trivial⟩
     simp only[zam]at key
     exact key
    | false=>
     have key:=qCd ⟨cp,okr,rfl,wi,rfl,by omega,zE1,zE2,dn,rfl,tE0,tE1,tE2,wE0,wE1,wE2,pa,rfl,tE2,rfl,tE2,dp,tE2,wE2,tE0,sE1,sE2,ei,wr,rfl,tE2,wE2,tE0,sE1,sE2,ei,tE2,gs1 tE0 tE1,rfl,gs1 tE0 tE1,gs2 tE0 tE1,rfl,wE2,tE0,cE1,cE2,gs2 tE0 tE1,wE2,tE0,kE1,kE2,wE2,rfl,rfl,rfl,gs3 tE0 tE1,k1,gs3 tE0 tE1,trivial⟩
     simp only[zam]at key
     exact key
   | false=>
    cases tc with
    | true=>
     have key:=qCe ⟨cp,okr,rfl,wi,rfl,by omega,zE1,zE2,dn,rfl,tE0,tE1,tE2,wE0,wE1,wE2,pa,rfl,tE2,rfl,tE2,dp,tE2,wE2,tE0,sE1,sE2,ei,wr,rfl,tE2,wE2,tE0,sE1,sE2,ei,tE2,gs1 tE0 tE1,rfl,wE2,tE0,kE1,kE2,gs1 tE0 tE1,gs2 tE0 tE1,rfl,gs2 tE0 tE1,wE2,tE0,kE1,kE2,wE2,rfl,rfl,rfl,rfl,rfl,gs3 tE0 tE1,k1,gs3 tE0 tE1,trivial⟩
     simp only[zam]at key
     exact key
    | false=>
     have key:=qCf ⟨cp,okr,rfl,wi,rfl,by omega,zE1,zE2,dn,rfl,tE0,tE1,tE2,wE0,wE1,wE2,pa,rfl,tE2,rfl,tE2,dp,tE2,wE2,tE0,sE1,sE2,ei,wr,rfl,tE2,wE2,tE0,sE1,sE2,ei,tE2,gs1 tE0 tE1,rfl,wE2,tE0,kE1,kE2,gs1 tE0 tE1,gs2 tE0 tE1,rfl,wE2,tE0,cE1,cE2,gs2 tE0 tE1,wE2,tE0,kE1,kE2,wE2,rfl,rfl,rfl,rfl,rfl,gs3 tE0 tE1,k1,gs3 tE0 tE1,trivial⟩
     simp only[zam]at key
     exact key
 case neg=>
  obtain rfl:tp=0:=by omega
  have dp:decide ((0:Int)>0)=false:=rfl
  cases tb with
  | true=>
   rw[show qaJ c e ⟨true,0,ts,true,tc⟩ x=(setT c e ⟨false,0,ts,true,tc⟩,true) by simp[qaJ,hp]]
   dsimp only
   rw[qlP]
   exact qCo ⟨cp,okr,rfl,wi,rfl,by omega,zE1,zE2,dn,rfl,tE0,tE1,tE2,wE0,wE1,wE2,pa,rfl,tE2,rfl,tE2,dp,tE2,gs1 tE0 tE1,rfl,trivial⟩
  | false=>
  cases hk:x.black.getD e.toNat false with
  | true=>
   rw[hk]at kE2
   rw[show qaJ c e ⟨true,0,ts,false,tc⟩ x=(setT c e ⟨false,0,ts,false,tc⟩,true) by unfold qaJ;simp only[hp,hk];rfl]
   dsimp only
   rw[qlP]
   exact qCn ⟨cp,okr,rfl,wi,rfl,by omega,zE1,zE2,dn,rfl,tE0,tE1,tE2,wE0,wE1,wE2,pa,rfl,tE2,rfl,tE2,dp,tE2,gs1 tE0 tE1,rfl,wE2,tE0,kE1,kE2,rfl,trivial⟩
  | false=>
  rw[hk]at kE2
  cases hz:(ts+x.sums.getD e.toNat 0==0) with
  | false=>
   rw[show qaJ c e ⟨true,0,ts,false,tc⟩ x=(setT c e ⟨false,0,ts,false,tc⟩,true) by unfold qaJ;simp only[hp,hk,hz];rfl]
   dsimp only
   rw[qlP]
   exact qCm ⟨cp,okr,rfl,wi,rfl,by omega,zE1,zE2,dn,rfl,tE0,tE1,tE2,wE0,wE1,wE2,pa,rfl,tE2,rfl,tE2,dp,tE2,gs1 tE0 tE1,rfl,wE2,tE0,kE1,kE2,rfl,gs1 tE0 tE1,wE2,tE0,sE1,sE2,ei,hz,trivial⟩
  | true=>
  rw[show qaJ c e ⟨true,0,ts,false,tc⟩ x=(setN (setW (setT c e ⟨false,0,ts,false,tc⟩) 0 (told x e (tc||x.caps.getD e.toNat false))) (c.news++qbg (c.workers.length-1) e (tc||x.caps.getD e.toNat false)),true) by unfold qaJ;simp only[hp,hk,hz];rfl]
  have e4:∀cap,(setN (setW (setT c e ⟨false,0,ts,false,tc⟩) 0 (told x e cap)) (c.news++qbg (c.workers.length-1) e cap)).e=[.sl 4 (c.graph.nodes.map Node.e),I c.graph.workers,I c.graph.cap,.sl 8 ((c.workers.map Worker.e).set 0 [.sl 5 (x.queue.map Record.e),.sl 5 (x.staged.map Record.e),.sl 5 (x.inputs.map Record.e),.sl 4 (x.cells.map Cell.e),.sl 1 (x.sums.map eI),.sl 1 (x.black.map eB),.sl 1 (x.caps.map eB),.sl 2 (x.dones.map Done.e++[[I e,B cap]])]),.sl 6 (c.links.map Link.e),.sl 5 ((c.tokens.map Token.e).set e.toNat (Token.e ⟨false,0,ts,false,tc⟩)),.sl 3 ((c.news++qbg (c.workers.length-1) e cap).map News.e)]:=fun cap=>by
   rw[←qq8]
   simp only[setN,setW,setT,Cluster.e,zau]
   rfl
  cases tc with
  | true=>
   dsimp only[Bool.true_or]
   rw[e4]
   exact qCi ⟨cp,okr,rfl,wi,rfl,by omega,zE1,zE2,dn,rfl,tE0,tE1,tE2,wE0,wE1,wE2,pa,rfl,tE2,rfl,tE2,dp,tE2,gs1 tE0 tE1,rfl,wE2,tE0,kE1,kE2,rfl,gs1 tE0 tE1,wE2,tE0,sE1,sE2,ei,hz,gs1 tE0 tE1,rfl,wE2,by simp;omega,by simp;omega,wE2,rfl,rfl,rfl,qau (Done.flat ⟨e,true⟩),wE2,rfl,qLK c e _ _ hl0 hl4 hc,trivial⟩
  | false=>
   dsimp only[zal]
   rw[e4]
   exact qCl ⟨cp,okr,rfl,wi,rfl,by omega,zE1,zE2,dn,rfl,tE0,tE1,tE2,wE0,wE1,wE2,pa,rfl,tE2,rfl,tE2,dp,tE2,gs1 tE0 tE1,rfl,wE2,tE0,kE1,kE2,rfl,gs1 tE0 tE1,wE2,tE0,sE1,sE2,ei,hz,gs1 tE0 tE1,rfl,wE2,tE0,cE1,cE2,wE2,by simp;omega,by simp;omega,wE2,rfl,rfl,rfl,qau (Done.flat ⟨e,_⟩),wE2,rfl,qLL c e _ _ _ hl0 hl4 hc,trivial⟩
end Go.Proofs.YtdanpadojemjeaaGreat
namespace Go.Proofs.YtdanpadojemjeaaGreat
open Go.Sx Go.RowKit Go.Proofs.Tryz
section
variable {xs : List Record} {r : Record} {t : List Record}
theorem qdv(h:xs=r::t):((xs.map Record.e).drop 1).take ((xs.map Record.e).length-1)=t.map Record.e:=by subst h;exact zbk (by simp)
theorem qcb(h:xs=r::t):(0:Int)<(↑(xs.map Record.e).length:Int):=by subst h;simp only[zb,zq];omega
theorem qcN(h:xs=r::t):(xs.map Record.e)[0]?=some r.e:=by subst h;rfl
theorem len_t(h:xs=r::t):((↑(xs.map Record.e).length:Int)==0)=false:=by
 have:=qcb h
 rw[zQ,zcc,zE];omega
theorem len_f(h:xs=[]):((↑(xs.map Record.e).length:Int)==0)=true:=by subst h;rfl
theorem pos_t(h:xs=r::t):decide ((↑(xs.map Record.e).length:Int)>0)=true:=dT (qcb h)
theorem pos_f(h:xs=[]):decide ((↑(xs.map Record.e).length:Int)>0)=false:=by subst h;rfl
theorem cut_a:(0:Int)≤(some (1:Int)).getD 0:=by decide
theorem cut_b(h:xs=r::t):(some (1:Int)).getD 0≤(none:Option Int).getD (↑(xs.map Record.e).length:Int):=by
 have:=qcb h
 simp only[zV,Option.getD_none];omega
theorem cut_c{l:List (List D)}:(none:Option Int).getD (↑l.length:Int)≤(↑l.length:Int):=by simp
theorem qgw(h:xs=r::t)(hl:xs.length≤8388608):(([]:List (List D)).length+(((xs.map Record.e).drop 1).take ((xs.map Record.e).length-1)).length)*40≤140737488355328:=by
 rw[qdv h];refine nl _ ?_;subst h;simp only[zb,zq]at *;omega
theorem qgx(h:xs=r::t)(hl:xs.length≤8388608):([]:List (List D)).length+(((xs.map Record.e).drop 1).take ((xs.map Record.e).length-1)).length≤9223372036854775807:=by
 rw[qdv h];refine nl1 _ ?_;subst h;simp only[zb,zq]at *;omega
theorem qgy(h:xs=r::t):Flat (((xs.map Record.e).drop 1).take ((xs.map Record.e).length-1)):=by rw[qdv h];exact qae _ Record.flat _
theorem qhS(h:xs=r::t):([]:List (List D))++((xs.map Record.e).drop 1).take ((xs.map Record.e).length-1)=t.map Record.e:=qdv h
end
theorem one_m{xs:List Record}{a:List D}(h:xs.length≤8388608):((xs.map Record.e).length+[a].length)*40≤140737488355328:=by simp;omega
theorem one_x{xs:List Record}{a:List D}(h:xs.length≤8388608):(xs.map Record.e).length+[a].length≤9223372036854775807:=by simp;omega
theorem qrx(a:Int)(q:List Record)(r:Record)(b c d e:Int):Link.e ⟨a,q++[r],b,c,d,e⟩=[I a,.sl 5 (q.map Record.e++[r.e]),I b,I c,I d,I e]:=by
 simp only[Link.e,zU];rfl
theorem qgz{l:Link}(h:qbt l=true):(0≤l.credits∧l.credits≤4)∧(0≤l.back∧l.back≤4)∧(0≤l.sent∧l.sent≤1000000000)∧(0≤l.got∧l.got≤1000000000)∧l.queue.length≤4:=by
 obtain⟨k1,k2,k3,k4,k5,k6,k7,k8⟩:=qei.1 h
 simp only[inR,zi]at k1 k2 k3 k5
 omega
theorem qNO(l:Link)(r:Record)(hl:l.sz≤8388608):Rt 214 [.agg l.e,.agg r.e] [.agg (qaG l r).1.e,.one (B (qaG l r).2)]:=by
 have cp:=qiX l hl
 have k:=qja l hl
 have kr:=qfe r
 have hq:l.queue.length≤8388608:=hl
 cases h1:qbt l with
 | false=>
  rw[h1]at k
  rw[show qaG l r=(l,false) by unfold qaG;simp[h1]]
  exact qM6 ⟨cp,k,rfl,trivial⟩
 | true=>
 rw[h1]at k
 cases h2:qaI r with
 | false=>
  rw[h2]at kr
  rw[show qaG l r=(l,false) by unfold qaG;simp[h2]]
  exact qM7 ⟨cp,k,rfl,kr,rfl,trivial⟩
 | true=>
 rw[h2]at kr
 by_cases h3:l.credits=0
 ·rw[show qaG l r=(l,false) by unfold qaG;simp[h3]]
  exact qM8 ⟨cp,k,rfl,kr,rfl,by rw[zE];exact h3,trivial⟩
 have h3':(l.credits==0)=false:=by rw[zQ,zcc,zE];exact h3
 obtain⟨n1,n2,n3,n4,n5⟩:=qgz h1
 by_cases h4:l.sent<1000000000
 ·rw[show qaG l r=(⟨l.cap,l.queue++[r],l.credits-1,l.back,l.sent+1,l.got⟩,true) by unfold qaG;simp[h1,h2,h3,h4]]
  dsimp only
  rw[qrx]
  exact qNa ⟨cp,k,rfl,kr,rfl,h3',dF (by omega),one_m hq,one_x hq,qau (Record.flat r),⟨by omega,by omega⟩,⟨by omega,by omega⟩,trivial⟩
 ·rw[show qaG l r=(l,false) by unfold qaG;simp[h4]]
  dsimp only
  exact qM9 ⟨cp,k,rfl,kr,rfl,h3',dT (by omega),trivial⟩
theorem qNP(l:Link)(hl:l.sz≤8388608):Rt 216 [.agg l.e] [.agg (qay l).1.e,.agg (qay l).2.1.e,.one (B (qay l).2.2)]:=by
 have cp:=qiX l hl
 have k:=qja l hl
 have hq:l.queue.length≤8388608:=hl
 cases h1:qbt l with
 | false=>
  rw[h1]at k
  rw[show qay l=(l,rec0,false) by unfold qay;simp[h1]]
  exact qNc ⟨cp,k,rfl,trivial⟩
 | true=>
 rw[h1]at k
 cases h2:l.queue with
 | nil=>
  rw[show qay l=(l,rec0,false) by unfold qay;rw[zp h1];simp only[h2]]
  exact qNd ⟨cp,k,rfl,len_f h2,trivial⟩
 | cons r q=>
  obtain⟨n1,n2,n3,n4,n5⟩:=qgz h1
  rw[show qay l=(⟨l.cap,q,l.credits,l.back+1,l.sent,l.got+1⟩,r,true) by unfold qay;rw[zp h1];simp only[h2]]
  have e:Link.e ⟨l.cap,q,l.credits,l.back+1,l.sent,l.got+1⟩=[I l.cap,.sl 5 (((l.queue.map Record.e).drop 1).take ((l.queue.map Record.e).length-1)),I l.credits,I (l.back+1),I l.sent,I (l.got+1)]:=by rw[qdv h2];rfl
  dsimp only
  rw[e]
  exact qNe ⟨cp,k,rfl,len_t h2,by omega,qcb h2,qcN h2,cut_a,cut_b h2,cut_c,qgw h2 hq,qgx h2 hq,qgy h2,⟨by omega,by omega⟩,⟨by omega,by omega⟩,trivial⟩
theorem qNQ(l:Link)(hl:l.sz≤8388608):Rt 217 [.agg l.e] [.agg (qbb l).1.e,.one (B (qbb l).2)]:=by
 have cp:=qiX l hl
 have k:=qja l hl
 cases h1:qbt l with
 | false=>
  rw[h1]at k
  rw[show qbb l=(l,false) by unfold qbb;simp[h1]]
  exact qMU ⟨cp,k,rfl,trivial⟩
 | true=>
 rw[h1]at k
 by_cases h3:l.back=0
 ·rw[show qbb l=(l,false) by unfold qbb;simp[h3]]
  exact qMV ⟨cp,k,rfl,by rw[zE];exact h3,trivial⟩
 ·obtain⟨n1,n2,n3,n4,n5⟩:=qgz h1
  rw[show qbb l=(⟨l.cap,l.queue,l.credits+1,l.back-1,l.sent,l.got⟩,true) by unfold qbb;simp[h1,h3]]
  exact qMW ⟨cp,k,rfl,by rw[zQ,zcc,zE];exact h3,⟨by omega,by omega⟩,⟨by omega,by omega⟩,trivial⟩
theorem qNR(l:Link)(r:Record)(hl:l.sz≤8388608)(hg:l.got≤9223372036854775807):Rt 156 [.agg l.e,.agg r.e] [.agg (qaG l r).1.e,.one (B (qaG l r).2)]:=by
 have cp:=qiW l hl
 have k:=qi9 l hl hg
 have kr:=qd9 r
 have hq:l.queue.length≤8388608:=hl
 cases h1:qbt l with
 | false=>
  rw[h1]at k
  rw[show qaG l r=(l,false) by unfold qaG;simp[h1]]
  exact qMf ⟨cp,k,rfl,trivial⟩
 | true=>
 rw[h1]at k
 cases h2:qaI r with
 | false=>
  rw[h2]at kr
  rw[show qaG l r=(l,false) by unfold qaG;simp[h2]]
  exact qMg ⟨cp,k,rfl,kr,rfl,trivial⟩
 | true=>
 rw[h2]at kr
 by_cases h3:l.credits=0
 ·rw[show qaG l r=(l,false) by unfold qaG;simp[h3]]
  exact qMh ⟨cp,k,rfl,kr,rfl,by rw[zE];exact h3,trivial⟩
 have h3':(l.credits==0)=false:=by rw[zQ,zcc,zE];exact h3
 obtain⟨n1,n2,n3,n4,n5⟩:=qgz h1
 by_cases h4:l.sent<1000000000
 ·rw[show qaG l r=(⟨l.cap,l.queue++[r],l.credits-1,l.back,l.sent+1,l.got⟩,true) by unfold qaG;simp[h1,h2,h3,h4]]
  dsimp only
  rw[qrx]
  exact qMj ⟨cp,k,rfl,kr,rfl,h3',by rw[zQ,zcc,zE];omega,one_m hq,one_x hq,qau (Record.flat r),⟨by omega,by omega⟩,⟨by omega,by omega⟩,trivial⟩
 ·rw[show qaG l r=(l,false) by unfold qaG;simp[h4]]
  dsimp only
  exact qMi ⟨cp,k,rfl,kr,rfl,h3',by rw[zE];omega,trivial⟩
theorem qNS(l:Link)(hl:l.sz≤8388608)(hg:l.got≤9223372036854775807):Rt 159 [.agg l.e] [.agg (qay l).1.e,.agg (qay l).2.1.e,.one (B (qay l).2.2)]:=by
 have cp:=qiW l hl
 have k:=qi9 l hl hg
 have hq:l.queue.length≤8388608:=hl
 cases h1:qbt l with
 | false=>
  rw[h1]at k
  rw[show qay l=(l,rec0,false) by unfold qay;simp[h1]]
  exact qMt ⟨cp,k,rfl,trivial⟩
 | true=>
 rw[h1]at k
 cases h2:l.queue with
 | nil=>
  rw[show qay l=(l,rec0,false) by unfold qay;rw[zp h1];simp only[h2]]
  exact qMu ⟨cp,k,rfl,len_f h2,trivial⟩
 | cons r q=>
  obtain⟨n1,n2,n3,n4,n5⟩:=qgz h1
  rw[show qay l=(⟨l.cap,q,l.credits,l.back+1,l.sent,l.got+1⟩,r,true) by unfold qay;rw[zp h1];simp only[h2]]
  have e:Link.e ⟨l.cap,q,l.credits,l.back+1,l.sent,l.got+1⟩=[I l.cap,.sl 5 (((l.queue.map Record.e).drop 1).take ((l.queue.map Record.e).length-1)),I l.credits,I (l.back+1),I l.sent,I (l.got+1)]:=by rw[qdv h2];rfl
  dsimp only
  rw[e]
  exact qMv ⟨cp,k,rfl,len_t h2,cut_a,cut_b h2,cut_c,⟨by omega,by omega⟩,⟨by omega,by omega⟩,by omega,qcb h2,qcN h2,trivial⟩
theorem qNT(l:Link)(hl:l.sz≤8388608)(hg:l.got≤9223372036854775807):Rt 161 [.agg l.e] [.agg (qbb l).1.e,.one (B (qbb l).2)]:=by
 have cp:=qiW l hl
 have k:=qi9 l hl hg
 cases h1:qbt l with
 | false=>
  rw[h1]at k
  rw[show qbb l=(l,false) by unfold qbb;simp[h1]]
  exact qLN ⟨cp,k,rfl,trivial⟩
 | true=>
 rw[h1]at k
 by_cases h3:l.back=0
 ·rw[show qbb l=(l,false) by unfold qbb;simp[h3]]
  exact qLO ⟨cp,k,rfl,by rw[zE];exact h3,trivial⟩
 ·obtain⟨n1,n2,n3,n4,n5⟩:=qgz h1
  rw[show qbb l=(⟨l.cap,l.queue,l.credits+1,l.back-1,l.sent,l.got⟩,true) by unfold qbb;simp[h1,h3]]
  exact qLP ⟨cp,k,rfl,by rw[zQ,zcc,zE];exact h3,⟨by omega,by omega⟩,⟨by omega,by omega⟩,trivial⟩
theorem qry{n a b:Int}(hn:1≤n∧n≤4)(ha:inR a 0 (n-1)=true)(hb:inR b 0 (n-1)=true):inInt .i64 (a*n)∧inInt .i64 (a*n+b):=by
 simp only[inR,zi]at ha hb
 have hn4:n=1∨n=2∨n=3∨n=4:=by omega
 rcases hn4 with rfl | rfl | rfl | rfl<;>exact⟨⟨by omega,by omega⟩,⟨by omega,by omega⟩⟩
theorem qlY{n:Int}(h:inInt .i64 n):IntKind.i64.wrap n=n:=by
 obtain⟨h1,h2⟩:=h
 simp only[IntKind.wrap_i64];omega
theorem qrz(g:Graph)(a b:Int):∃v,Rt 213 [.agg g.e,.one (I a),.one (I b)] [.one (I v)]:=by
 cases ha:inR a 0 (IntKind.i64.wrap (g.workers-1)) with
 | false=>exact⟨_,qrp ⟨qaM _ _ _ _ ha,rfl,trivial⟩⟩
 | true=>
 cases hb:inR b 0 (IntKind.i64.wrap (g.workers-1)) with
 | false=>exact⟨_,qrq ⟨qaM _ _ _ _ ha,rfl,qaM _ _ _ _ hb,rfl,trivial⟩⟩
 | true=>
 by_cases hn:g.workers<1
 ·exact⟨_,qM2 ⟨qaM _ _ _ _ ha,rfl,qaM _ _ _ _ hb,rfl,dT hn,trivial⟩⟩
 ·exact⟨_,qrr ⟨qaM _ _ _ _ ha,rfl,qaM _ _ _ _ hb,rfl,dF hn,trivial⟩⟩
theorem qlZ(g:Graph)(a b:Int)(hn:1≤g.workers∧g.workers≤4):Rt 213 [.agg g.e,.one (I a),.one (I b)] [.one (I (qaY g a b))]:=by
 have i1:IntKind.i64.wrap (g.workers-1)=g.workers-1:=qlY ⟨by omega,by omega⟩
 have in1:∀(x:Int) (r:Bool),inR x 0 (g.workers-1)=r→Rt 137 [.one (I x),.one (I 0),.one (I (IntKind.i64.wrap (g.workers-1)))] [.one (B r)]:=fun x r h=>by
  rw[i1];exact qaM _ _ _ _ h
 cases ha:inR a 0 (g.workers-1) with
 | false=>
  rw[qej (by rw[ha];rfl)]
  exact qrp ⟨in1 _ _ ha,rfl,trivial⟩
 | true=>
 cases hb:inR b 0 (g.workers-1) with
 | false=>
  rw[qej (by rw[ha,hb];rfl)]
  exact qrq ⟨in1 _ _ ha,rfl,in1 _ _ hb,rfl,trivial⟩
 | true=>
  obtain⟨j1,j2⟩:=qry hn ha hb
  have key:Rt 213 [.agg g.e,.one (I a),.one (I b)] [.one (I (IntKind.i64.wrap (IntKind.i64.wrap (a*g.workers)+b)))]:=qrr ⟨in1 a true ha,rfl,in1 b true hb,rfl,dF (by omega),trivial⟩
  rw[qlY j1,qlY j2]at key
  rw[(qjh hn ha hb).1]
  exact key
theorem qrA(g:Graph)(a b:Int)(hn:1≤g.workers∧g.workers≤4):Rt 155 [.agg g.e,.one (I a),.one (I b)] [.one (I (qaY g a b))]:=by
 cases hh:(inR a 0 (g.workers-1)&&inR b 0 (g.workers-1)) with
 | true=>
  rw[zj]at hh
  obtain⟨j1,j2⟩:=qry hn hh.1 hh.2
  rw[(qjh hn hh.1 hh.2).1]
  obtain⟨ha,hb⟩:=hh
  simp only[inR,zi]at ha hb
  exact qL1 ⟨dF (by split<;>omega),dF (by split<;>omega),j1,j2,trivial⟩
 | false=>
  rw[qej hh]
  have hh':¬((0≤a∧a≤g.workers-1)∧(0≤b∧b≤g.workers-1)):=by
   intro k
   have:(inR a 0 (g.workers-1)&&inR b 0 (g.workers-1))=true:=by simp only[inR,zj,zi];exact k
   rw[this]at hh;cases hh
  by_cases hm:(if b<a then b else a)<0
  ·exact qLZ ⟨dT hm,trivial⟩
  ·exact qL0 ⟨dF hm,dT (by split at hm<;>split<;>omega),trivial⟩
theorem ql0(w:Worker)(r:Record):(kept w r).e=[.sl 5 (w.queue.map Record.e++[r.e]),.sl 5 (w.staged.map Record.e),.sl 5 (w.inputs.map Record.e),.sl 4 (w.cells.map Cell.e),.sl 1 (w.sums.map eI),.sl 1 (w.black.map eB),.sl 1 (w.caps.map eB),.sl 2 (w.dones.map Done.e)]:=by
 simp only[kept,Worker.e,zU];rfl
theorem qNU(w:Worker)(r:Record):(received w r).e=[.sl 5 (w.queue.map Record.e++[r.e]),.sl 5 (w.staged.map Record.e),.sl 5 (w.inputs.map Record.e),.sl 4 (w.cells.map Cell.e),.sl 1 ((w.sums.map eI).set r.stamp.epoch.toNat [I (w.sums.getD r.stamp.epoch.toNat 0-1)]),.sl 1 ((w.black.map eB).set r.stamp.epoch.toNat [B true]),.sl 1 (w.caps.map eB),.sl 2 (w.dones.map Done.e)]:=by
 simp only[received,incAt,Worker.e,zU,zau];rfl
theorem qrB(w:Worker)(e:Int):(qcM w e).e=[.sl 5 (w.queue.map Record.e),.sl 5 (w.staged.map Record.e),.sl 5 (w.inputs.map Record.e),.sl 4 (w.cells.map Cell.e),.sl 1 ((w.sums.map eI).set e.toNat [I (w.sums.getD e.toNat 0+1)]),.sl 1 (w.black.map eB),.sl 1 (w.caps.map eB),.sl 2 (w.dones.map Done.e)]:=by
 simp only[qcM,incAt,Worker.e,zau];rfl
theorem qrC(w:Worker)(r:Record)(hw:w.sz≤8388608):Rt 154 [.agg w.e,.agg r.e] [.agg (kept w r).e]:=by
 have hq:w.queue.length≤8388608:=by simp only[Worker.sz]at hw;omega
 rw[ql0]
 exact qLY ⟨qgj w hw,one_m hq,one_x hq,qau (Record.flat r),trivial⟩
theorem qNV(w:Worker)(r:Record)(hw:w.sz≤8388608)(h4:w.sums.length=4)(hb:w.black.length=4)(he:0≤r.stamp.epoch∧r.stamp.epoch≤3)(hs:-1000000≤w.sums.getD r.stamp.epoch.toNat 0∧w.sums.getD r.stamp.epoch.toNat 0≤1000000):
  Rt 160 [.agg w.e,.agg r.e] [.agg (received w r).e]:=by
 have k:=qrC w r hw
 rw[ql0]at k
 rw[qNU]
 obtain⟨s1,s2⟩:=int4 h4 he
 obtain⟨b1,b2⟩:=bool4 hb he
 have hif:(if (↑(w.black.map eB).length:Int)<(↑(w.sums.map eI).length:Int) then (↑(w.black.map eB).length:Int) else (↑(w.sums.map eI).length:Int))-1=3:=by
  rw[zb,zb,h4,hb];rfl
 exact qMb _ _ _ _ _ _ _ _ _ _ _ _ _ _ _ _ _ _ _ _ _ _ _ _ _ ⟨k,⟨by rw[hif];omega,by rw[hif];omega⟩,qa2 _ _ _ true (by rw[hif];simp only[inR,zi];omega),rfl,he.1,s1,s2,⟨by omega,by omega⟩,he.1,s1,s2,he.1,b1,b2,trivial⟩
theorem qNW(w:Worker)(e:Int)(hw:w.sz≤8388608)(h4:w.sums.length=4)(he:0≤e∧e≤3)(hs:-1000000≤w.sums.getD e.toNat 0∧w.sums.getD e.toNat 0≤1000000):
  Rt 157 [.agg w.e,.one (I e)] [.agg (qcM w e).e]:=by
 rw[qrB]
 obtain⟨s1,s2⟩:=int4 h4 he
 have hif:(↑(w.sums.map eI).length:Int)-1=3:=by rw[zb,h4];rfl
 exact qMk _ _ _ _ _ _ _ _ _ _ _ _ _ _ _ _ _ _ _ _ ⟨qgj w hw,⟨by rw[hif];omega,by rw[hif];omega⟩,qa2 _ _ _ true (by rw[hif];simp only[inR,zi];omega),rfl,he.1,s1,s2,⟨by omega,by omega⟩,he.1,s1,s2,trivial⟩
theorem qNX(w:Worker)(r:Record)(t:List Record)(hw:w.sz≤8388608)(h:w.staged=r::t):Rt 152 [.agg w.e] [.agg (qbM w t).e,.agg r.e,.one (B true)]:=by
 have e:(qbM w t).e=[.sl 5 (w.queue.map Record.e),.sl 5 (((w.staged.map Record.e).drop 1).take ((w.staged.map Record.e).length-1)),.sl 5 (w.inputs.map Record.e),.sl 4 (w.cells.map Cell.e),.sl 1 (w.sums.map eI),.sl 1 (w.black.map eB),.sl 1 (w.caps.map eB),.sl 2 (w.dones.map Done.e)]:=by rw[qdv h];rfl
 rw[e]
 exact qMC ⟨qgj w hw,len_t h,cut_a,cut_b h,cut_c,by omega,qcb h,qcN h,trivial⟩
theorem qNY{g:Graph}{op:Int}{x:Node}(h:qaP g op=some x):0≤op∧op<(↑(g.nodes.map Node.e).length:Int)∧(g.nodes.map Node.e)[op.toNat]?=some x.e:=by
 unfold qaP at h
 split at h
 ·have:=lt_of h
  exact⟨‹_›,by rw[zb];omega,qad Node.e h⟩
 ·cases h
theorem qNZ(g:Graph)(r:Record)(hg:g.sz≤8388608):Rt 219 [.agg g.e,.agg r.e] [.one (B (capped g r))]:=by
 have k:=qgp g hg
 have kr:=qd9 r
 have nt:=qlA r.stamp
 cases h1:qaz g with
 | false=>
  rw[h1]at k
  rw[show capped g r=false by unfold capped;split<;>simp[qbw,h1]]
  exact qJ6 ⟨k,rfl,trivial⟩
 | true=>
 rw[h1]at k
 cases h2:qaI r with
 | false=>
  rw[h2]at kr
  rw[show capped g r=false by unfold capped;split<;>simp[qbw,h2]]
  exact qJ7 ⟨k,rfl,kr,rfl,trivial⟩
 | true=>
 rw[h2]at kr
 cases h3:qaP g r.op with
 | none=>
  rw[show capped g r=false by unfold capped;rw[h3]]
  exact qJ8 ⟨k,rfl,kr,rfl,qge g r.op false (by rw[h3];rfl) hg,rfl,trivial⟩
 | some x=>
  obtain⟨m1,m2,m3⟩:=qNY h3
  have ni:=qge g r.op true (by rw[h3];rfl) hg
  rw[show capped g r=qbw g r x by unfold capped;rw[h3]]
  cases h4:(x.kind==7) with
  | false=>
   rw[show qbw g r x=false by simp[qbw,h4]]
   exact qKb ⟨k,rfl,kr,rfl,ni,rfl,m1,m2,m3,nt,h4,trivial⟩
  | true=>
  by_cases h5:0<x.outs.length
  ·rw[show qbw g r x=!(qaE r.stamp).2 by simp[qbw,h1,h2,h4,h5]]
   exact qJ9 ⟨k,rfl,kr,rfl,ni,rfl,m1,m2,m3,nt,h4,dT (by rw[zb];omega),trivial⟩
  ·rw[show qbw g r x=false by simp[qbw,h5]]
   exact qKa ⟨k,rfl,kr,rfl,ni,rfl,m1,m2,m3,nt,h4,dF (by rw[zb];omega),trivial⟩
theorem qN0(g:Graph)(w:Worker)(hg:g.sz≤8388608)(hw:w.sz≤8388608):Rt 150 [.agg g.e,.agg w.e] [.agg (qa6 g w).1.e,.one (B (qa6 g w).2)]:=by
 have cp:=qgj w hw
 have k:=qgp g hg
 have kw:=qjd g w hg hw
 have hcl:w.cells.length≤8388608:=by simp only[Worker.sz]at hw;omega
 cases h1:qaz g with
 | false=>
  rw[h1]at k
  rw[show qa6 g w=(w,false) by unfold qa6;simp[h1]]
  exact qMD ⟨cp,k,rfl,trivial⟩
 | true=>
 rw[h1]at k
 cases h2:qaC g w with
 | false=>
  rw[h2]at kw
  rw[show qa6 g w=(w,false) by unfold qa6;simp[h2]]
  exact qME ⟨cp,k,rfl,kw,rfl,trivial⟩
 | true=>
 rw[h2]at kw
 have hu:qa6 g w=match w.staged,w.queue with
  | [],r::q=>(⟨q,(qaB g w.cells r).2.1,w.inputs,(qaB g w.cells r).1,w.sums,w.black,(if capped g r then w.caps.set r.stamp.epoch.toNat true else w.caps),w.dones⟩,true)
  | _,_=>(w,false):=by unfold qa6;rw[h1,h2];rfl
 cases h3:w.staged with
 | cons r q=>
  rw[show qa6 g w=(w,false) by rw[hu,h3]]
  exact qMF ⟨cp,k,rfl,kw,rfl,pos_t h3,trivial⟩
 | nil=>
 cases h4:w.queue with
 | nil=>
  rw[show qa6 g w=(w,false) by rw[hu,h3,h4]]
  exact qMG ⟨cp,k,rfl,kw,rfl,pos_f h3,len_f h4,trivial⟩
 | cons r q=>
  have st:=qKj g w.cells r hg hcl
  have ca:=qNZ g r hg
  obtain⟨k1,_,_,_,_,_,k7,_⟩:=qbG.1 h2
  rw[h4,qef]at k1
  have he:=qeg k1.1
  obtain⟨c1,c2⟩:=bool4 k7 he
  cases h5:capped g r with
  | true=>
   rw[h5]at ca
   rw[show qa6 g w=(⟨q,(qaB g w.cells r).2.1,w.inputs,(qaB g w.cells r).1,w.sums,w.black,w.caps.set r.stamp.epoch.toNat true,w.dones⟩,true) by rw[hu,h3,h4];simp only[h5,zbb]]
   have e:Worker.e ⟨q,(qaB g w.cells r).2.1,w.inputs,(qaB g w.cells r).1,w.sums,w.black,w.caps.set r.stamp.epoch.toNat true,w.dones⟩=[.sl 5 (((w.queue.map Record.e).drop 1).take ((w.queue.map Record.e).length-1)),.sl 5 ((qaB g w.cells r).2.1.map Record.e),.sl 5 (w.inputs.map Record.e),.sl 4 ((qaB g w.cells r).1.map Cell.e),.sl 1 (w.sums.map eI),.sl 1 (w.black.map eB),.sl 1 ((w.caps.map eB).set r.stamp.epoch.toNat [B true]),.sl 2 (w.dones.map Done.e)]:=by
    rw[qdv h4];simp only[Worker.e,zau];rfl
   dsimp only
   rw[e]
   exact qMH _ _ _ _ _ _ _ _ _ _ _ _ _ _ _ _ _ _ _ _ _ _ _ _ _ _ _ _ _ _ _ ⟨cp,k,rfl,kw,rfl,pos_f h3,len_t h4,by omega,qcb h4,qcN h4,cut_a,cut_b h4,cut_c,st,ca,rfl,he.1,c1,c2,trivial⟩
  | false=>
   rw[h5]at ca
   rw[show qa6 g w=(⟨q,(qaB g w.cells r).2.1,w.inputs,(qaB g w.cells r).1,w.sums,w.black,w.caps,w.dones⟩,true) by rw[hu,h3,h4];simp only[h5];rfl]
   have e:Worker.e ⟨q,(qaB g w.cells r).2.1,w.inputs,(qaB g w.cells r).1,w.sums,w.black,w.caps,w.dones⟩=[.sl 5 (((w.queue.map Record.e).drop 1).take ((w.queue.map Record.e).length-1)),.sl 5 ((qaB g w.cells r).2.1.map Record.e),.sl 5 (w.inputs.map Record.e),.sl 4 ((qaB g w.cells r).1.map Cell.e),.sl 1 (w.sums.map eI),.sl 1 (w.black.map eB),.sl 1 (w.caps.map eB),.sl 2 (w.dones.map Done.e)]:=by
    rw[qdv h4];rfl
   dsimp only
   rw[e]
   exact qMI ⟨cp,k,rfl,kw,rfl,pos_f h3,len_t h4,by omega,qcb h4,qcN h4,cut_a,cut_b h4,cut_c,st,ca,rfl,trivial⟩
theorem qN1(g:Graph)(w:Worker)(hg:g.sz≤8388608)(hw:w.sz≤8388608):Rt 151 [.agg g.e,.agg w.e] [.agg (qa7 g w).1.e,.one (B (qa7 g w).2)]:=by
 have cp:=qgj w hw
 have k:=qgp g hg
 have kw:=qjd g w hg hw
 have hq:w.queue.length≤8388608:=by simp only[Worker.sz]at hw;omega
 cases h1:qaz g with
 | false=>
  rw[h1]at k
  rw[show qa7 g w=(w,false) by unfold qa7;simp[h1]]
  exact qMw ⟨cp,k,rfl,trivial⟩
 | true=>
 rw[h1]at k
 cases h2:qaC g w with
 | false=>
  rw[h2]at kw
  rw[show qa7 g w=(w,false) by unfold qa7;simp[h2]]
  exact qMx ⟨cp,k,rfl,kw,rfl,trivial⟩
 | true=>
 rw[h2]at kw
 have hu:qa7 g w=match w.staged,w.queue,w.inputs with
  | [],[],r::t=>(⟨[r],[],t,w.cells,w.sums,w.black,w.caps,w.dones⟩,true)
  | _,_,_=>(w,false):=by unfold qa7;rw[h1,h2];rfl
 cases h3:w.staged with
 | cons r q=>
  rw[show qa7 g w=(w,false) by rw[hu,h3]]
  exact qMy ⟨cp,k,rfl,kw,rfl,pos_t h3,trivial⟩
 | nil=>
 cases h4:w.queue with
 | cons r q=>
  rw[show qa7 g w=(w,false) by rw[hu,h3,h4]]
  exact qMz ⟨cp,k,rfl,kw,rfl,pos_f h3,pos_t h4,trivial⟩
 | nil=>
 cases h5:w.inputs with
 | nil=>
  rw[show qa7 g w=(w,false) by rw[hu,h3,h4,h5]]
  exact qMA ⟨cp,k,rfl,kw,rfl,pos_f h3,pos_f h4,len_f h5,trivial⟩
 | cons r t=>
  rw[show qa7 g w=(⟨[r],[],t,w.cells,w.sums,w.black,w.caps,w.dones⟩,true) by rw[hu,h3,h4,h5]]
  have e:Worker.e ⟨[r],[],t,w.cells,w.sums,w.black,w.caps,w.dones⟩=[.sl 5 (w.queue.map Record.e++[r.e]),.sl 5 (w.staged.map Record.e),.sl 5 (((w.inputs.map Record.e).drop 1).take ((w.inputs.map Record.e).length-1)),.sl 4 (w.cells.map Cell.e),.sl 1 (w.sums.map eI),.sl 1 (w.black.map eB),.sl 1 (w.caps.map eB),.sl 2 (w.dones.map Done.e)]:=by
   rw[qdv h5,h4,h3];rfl
  dsimp only
  rw[e]
  exact qMB ⟨cp,k,rfl,kw,rfl,pos_f h3,pos_f h4,len_t h5,by omega,qcb h5,qcN h5,one_m hq,one_x hq,qau (Record.flat r),cut_a,cut_b h5,cut_c,trivial⟩
end Go.Proofs.YtdanpadojemjeaaGreat
namespace Go.Proofs.YtdanpadojemjeaaGreat
open Go.Sx Go.RowKit Go.Proofs.Tryz
theorem qrD{c:Cluster}{w:Int}(h:wAt c w=none):inR w 0 ((↑(c.workers.map Worker.e).length:Int)-1)=false:=by
 unfold wAt at h
 simp only[inR,zb,zf]
 split at h
 ·rw[List.getElem?_eq_none_iff]at h;omega
 ·omega
theorem qjm{c:Cluster}{w:Int}{x:Worker}(h:wAt c w=some x):inR w 0 ((↑(c.workers.map Worker.e).length:Int)-1)=true:=by
 obtain⟨h1,h2,_⟩:=qc4 h
 simp only[inR,zb,zi]
 omega
theorem qgA{c:Cluster}{i:Int}{x:Link}(h:lAt c i=some x):0≤i∧i<(↑(c.links.map Link.e).length:Int)∧(c.links.map Link.e)[i.toNat]?=some x.e:=by
 obtain⟨h1,h2,h3⟩:=qed h
 exact⟨h1,by rw[zb];omega,qad Link.e h3⟩
theorem qgB{c:Cluster}{i:Int}{x:Link}(h:lAt c i=some x)(hc:c.sz≤8388608):x.sz≤8388608:=Cluster.link_sz1 hc (qas (qed h).2.2)
theorem ql1{c:Cluster}{i:Int}{x:Link}(h:lAt c i=some x)(hw:GotLe c):x.got≤9223372036854775807:=hw _ (qas (qed h).2.2)
theorem wlen1{c:Cluster}(hc:c.sz≤8388608):inInt .i64 ((↑(c.workers.map Worker.e).length:Int)-1):=by
 have:=Cluster.wlen_le hc
 exact⟨by rw[zb];omega,by rw[zb];omega⟩
theorem ql2(c:Cluster)(w:Int)(y:Worker):(setW c w y).e=[.sl 4 (c.graph.nodes.map Node.e),I c.graph.workers,I c.graph.cap,.sl 8 ((c.workers.map Worker.e).set w.toNat y.e),.sl 6 (c.links.map Link.e),.sl 5 (c.tokens.map Token.e),.sl 3 (c.news.map News.e)]:=by simp only[setW,Cluster.e,zau]
theorem qN2(c:Cluster)(i:Int)(y:Link):(setL c i y).e=[.sl 4 (c.graph.nodes.map Node.e),I c.graph.workers,I c.graph.cap,.sl 8 (c.workers.map Worker.e),.sl 6 ((c.links.map Link.e).set i.toNat y.e),.sl 5 (c.tokens.map Token.e),.sl 3 (c.news.map News.e)]:=by simp only[setL,Cluster.e,zau]
theorem qrE(c:Cluster)(w i:Int)(y:Worker)(z:Link):(setW (setL c i z) w y).e=[.sl 4 (c.graph.nodes.map Node.e),I c.graph.workers,I c.graph.cap,.sl 8 ((c.workers.map Worker.e).set w.toNat y.e),.sl 6 ((c.links.map Link.e).set i.toNat z.e),.sl 5 (c.tokens.map Token.e),.sl 3 (c.news.map News.e)]:=by simp only[setW,setL,Cluster.e,zau]
theorem qhT(c:Cluster)(w:Int)(y:Worker)(b:Bool):runD (setW c w y) b=[.sl 4 (c.graph.nodes.map Node.e),I c.graph.workers,I c.graph.cap,.sl 8 ((c.workers.map Worker.e).set w.toNat y.e),.sl 6 (c.links.map Link.e),.sl 5 (c.tokens.map Token.e),.sl 3 (c.news.map News.e),B b]:=by simp only[setW,runD,zau]
theorem qrF(c:Cluster)(i:Int)(y:Link)(b:Bool):runD (setL c i y) b=[.sl 4 (c.graph.nodes.map Node.e),I c.graph.workers,I c.graph.cap,.sl 8 (c.workers.map Worker.e),.sl 6 ((c.links.map Link.e).set i.toNat y.e),.sl 5 (c.tokens.map Token.e),.sl 3 (c.news.map News.e),B b]:=by simp only[setL,runD,zau]
theorem ql3(c:Cluster)(w i:Int)(y:Worker)(z:Link)(b:Bool):runD (setW (setL c i z) w y) b=[.sl 4 (c.graph.nodes.map Node.e),I c.graph.workers,I c.graph.cap,.sl 8 ((c.workers.map Worker.e).set w.toNat y.e),.sl 6 ((c.links.map Link.e).set i.toNat z.e),.sl 5 (c.tokens.map Token.e),.sl 3 (c.news.map News.e),B b]:=by simp only[setW,setL,runD,zau]
theorem ql4(c:Cluster)(w:Int)(hc:c.sz≤8388608)(hw:GotLe c):Rt 149 [.agg c.e,.one (I w)] [.one (B (qah c&&(wAt c w).isSome))]:=by
 have k:=qje c hc hw
 cases ok:qah c with
 | false=>rw[ok]at k;exact qMJ ⟨k,rfl,trivial⟩
 | true=>
  rw[ok]at k
  cases hx:wAt c w with
  | none=>exact qrm ⟨k,rfl,wlen1 hc,qa2 _ _ _ _ (qrD hx),trivial⟩
  | some x=>exact qrm ⟨k,rfl,wlen1 hc,qa2 _ _ _ _ (qjm hx),trivial⟩
theorem qrG(c:Cluster)(a b:Int)(hc:c.sz≤8388608)(hw:GotLe c):Rt 158 [.agg c.e,.one (I a),.one (I b)] [.one (I (if qah c&&a != b then qaY c.graph a b else -1))]:=by
 have k:=qje c hc hw
 cases ok:qah c with
 | false=>rw[ok]at k;exact qMK ⟨k,rfl,trivial⟩
 | true=>
  rw[ok]at k
  by_cases hab:a=b
  ·rw[show (true&&a != b)=false by simp[hab]]
   exact qML ⟨k,rfl,by simp[hab],trivial⟩
  ·rw[show (true&&a != b)=true by simp[hab],zp rfl]
   exact qMM ⟨k,rfl,by simp[hab],qrA c.graph a b (qcy (qa8.1 ok).1),trivial⟩
theorem qN3(c:Cluster)(w:Int)(hc:c.sz≤8388608)(hw:GotLe c):Rt 88 [.agg c.e,.one (I w)] [.agg (qbn c w).1.e,.one (B (qbn c w).2)]:=by
 have cp:=qc0 c hc
 have k:=ql4 c w hc hw
 cases ok:qah c with
 | false=>
  rw[ok]at k
  rw[show qbn c w=(c,false) by unfold qbn;simp[ok]]
  exact qrk ⟨cp,k,rfl,trivial⟩
 | true=>
 cases hx:wAt c w with
 | none=>
  rw[ok,hx]at k
  rw[show qbn c w=(c,false) by unfold qbn;simp[hx]]
  exact qrk ⟨cp,k,rfl,trivial⟩
 | some x=>
  rw[ok,hx]at k
  obtain⟨wE0,wE1,wE2⟩:=qbS hx
  rw[show qbn c w=(setW c w (qa6 c.graph x).1,(qa6 c.graph x).2) by unfold qbn;simp[ok,hx]]
  dsimp only
  rw[ql2]
  exact qMa ⟨cp,k,rfl,wE0,wE1,wE2,qN0 c.graph x (Cluster.graph_sz1 hc) (qb1 hx hc),wE0,wE1,wE2,trivial⟩
theorem qN4(c:Cluster)(w:Int)(hc:c.sz≤8388608)(hw:GotLe c):Rt 89 [.agg c.e,.one (I w)] [.agg (qbo c w).1.e,.one (B (qbo c w).2)]:=by
 have cp:=qc0 c hc
 have k:=ql4 c w hc hw
 cases ok:qah c with
 | false=>
  rw[ok]at k
  rw[show qbo c w=(c,false) by unfold qbo;simp[ok]]
  exact qrh ⟨cp,k,rfl,trivial⟩
 | true=>
 cases hx:wAt c w with
 | none=>
  rw[ok,hx]at k
  rw[show qbo c w=(c,false) by unfold qbo;simp[hx]]
  exact qrh ⟨cp,k,rfl,trivial⟩
 | some x=>
  rw[ok,hx]at k
  obtain⟨wE0,wE1,wE2⟩:=qbS hx
  rw[show qbo c w=(setW c w (qa7 c.graph x).1,(qa7 c.graph x).2) by unfold qbo;simp[ok,hx]]
  dsimp only
  rw[ql2]
  exact qL3 _ _ _ _ _ _ _ _ _ _ _ _ _ _ _ _ _ _ _ _ _ _ _ _ _ _ _ _ _ _ _ _ _ _ _ _ _ _ _ _ _ ⟨cp,k,rfl,wE0,wE1,wE2,qN1 c.graph x (Cluster.graph_sz1 hc) (qb1 hx hc),wE0,wE1,wE2,trivial⟩
theorem qjn{c:Cluster}{w:Int}{x:Worker}(ok:qah c=true)(hx:wAt c w=some x):x.sums.length=4∧x.black.length=4∧x.caps.length=4∧(∀e:Int,0≤e∧e≤3→-1000000≤x.sums.getD e.toNat 0∧x.sums.getD e.toNat 0≤1000000):=by
 obtain⟨_,_,_,_,k5,k6,k7,_,k9,_⟩:=qbG.1 (qcz ok hx)
 refine⟨k5,k6,k7,fun e he=>?_⟩
 have hl:e.toNat<x.sums.length:=by omega
 rw[zP]at k9
 have:=k9 _ (zax hl)
 rw[zN,zu hl,zV]
 simpa only[qcj,zS,zX,inR,zi,zbt,Bool.not_not,Bool.not_eq_eq_eq_not,zZ,zf,Classical.not_not]using this
theorem qrH{c:Cluster}{w:Int}{x:Worker}{r:Record}{t:List Record}(ok:qah c=true)(hx:wAt c w=some x)(hs:x.staged=r::t):qbp c w=qfn c w x r t (qc1 r.key c.graph.workers):=by
 unfold qbp
 rw[zp ok,hx]
 dsimp only
 rw[hs]
theorem qrI{c:Cluster}{w:Int}{x:Worker}{r:Record}{t:List Record}{o:Int}(h:o=w):qfn c w x r t o=(setW c w (kept (qbM x t) r),true):=zp h
theorem qrJ{c:Cluster}{w:Int}{x:Worker}{r:Record}{t:List Record}{o:Int}{l:Link}(h:o≠w)(hl:lAt c (qaY c.graph w o)=some l):qfn c w x r t o=if (qaG l r).2 then (setW (setL c (qaY c.graph w o) (qaG l r).1) w (qcM (qbM x t) r.stamp.epoch),true) else (c,false):=by
 unfold qfn
 rw[zo h,hl]
theorem qN5(c:Cluster)(w:Int)(hc:c.sz≤8388608)(hw:GotLe c):Rt 90 [.agg c.e,.one (I w)] [.agg (qbp c w).1.e,.one (B (qbp c w).2)]:=by
 have cp:=qc0 c hc
 have k:=ql4 c w hc hw
 cases ok:qah c with
 | false=>
  rw[ok]at k
  rw[show qbp c w=(c,false) by unfold qbp;simp[ok]]
  exact qri ⟨cp,k,rfl,trivial⟩
 | true=>
 cases hx:wAt c w with
 | none=>
  rw[ok,hx]at k
  rw[show qbp c w=(c,false) by unfold qbp;simp[hx]]
  exact qri ⟨cp,k,rfl,trivial⟩
 | some x=>
 rw[ok,hx]at k
 obtain⟨wE0,wE1,wE2⟩:=qbS hx
 have hn:=qcy (qa8.1 ok).1
 cases hs:x.staged with
 | nil=>
  rw[show qbp c w=(c,false) by unfold qbp;rw[zp ok,hx];dsimp only;rw[hs]]
  exact qL4 ⟨cp,k,rfl,wE0,wE1,wE2,len_f hs,trivial⟩
 | cons r t=>
  have hsz:=qb1 hx hc
  have hun:(qbM x t).sz≤8388608:=by have:=qqZ hs;omega
  have un:=qNX x r t hsz hs
  have ow:=qFw r.key c.graph.workers (by omega)
  have hr:=(qjg (qcz ok hx) hs).2
  have he:=qeg hr
  obtain⟨f4,_,_,fs⟩:=qjn ok hx
  rw[qrH ok hx hs]
  have oin:=qqU r.key hn.1
  generalize qc1 r.key c.graph.workers=o at ow oin
  by_cases how:o=w
  ·rw[qrI how]
   dsimp only
   rw[ql2]
   exact qL5 ⟨cp,k,rfl,wE0,wE1,wE2,len_t hs,wE0,wE1,wE2,un,ow,by rw[zE];exact how,qrC (qbM x t) r hun,wE0,wE1,wE2,trivial⟩
  ·have hbo:(o==w)=false:=by rw[zQ,zcc,zE];exact how
   have win:inR w 0 (c.graph.workers-1)=true:=by
    have:=qjm hx
    rwa[zb,(qa8.1 ok).2.1]at this
   obtain⟨l,hl⟩:=qgu ok win oin
   obtain⟨lE0,lE1,lE2⟩:=qgA hl
   have lp:=qrA c.graph w o hn
   have so:=qNR l r (qgB hl hc) (ql1 hl hw)
   rw[qrJ how hl]
   cases h6:(qaG l r).2 with
   | false=>
    rw[h6]at so
    exact qL6 ⟨cp,k,rfl,wE0,wE1,wE2,len_t hs,wE0,wE1,wE2,un,ow,hbo,lp,lE0,lE1,lE2,so,rfl,trivial⟩
   | true=>
    rw[h6]at so
    rw[zp rfl]
    dsimp only
    rw[qrE]
    exact qL7 ⟨cp,k,rfl,wE0,wE1,wE2,len_t hs,wE0,wE1,wE2,un,ow,hbo,lp,lE0,lE1,lE2,so,rfl,lE0,lE1,lE2,qNW (qbM x t) r.stamp.epoch hun f4 he (fs _ he),wE0,wE1,wE2,trivial⟩
theorem qjo{c:Cluster}{a b:Int}(h:(inR a 0 (c.graph.workers-1)&&inR b 0 (c.graph.workers-1))=false):lAt c (qaY c.graph a b)=none:=by
 rw[qej h];rfl
theorem qrK{c:Cluster}{a b:Int}{l:Link}{x:Worker}(ok:qah c=true)(hab:a≠b)(hl:lAt c (qaY c.graph a b)=some l)(hx:wAt c b=some x):qby c a b=if (qay l).2.2 then (setW (setL c (qaY c.graph a b) (qay l).1) b (received x (qay l).2.1),true) else (c,false):=by
 unfold qby
 rw[zp (by simp[ok,hab]),hl,hx]
theorem qrL{c:Cluster}{a b:Int}{l:Link}(ok:qah c=true)(hab:a≠b)(hl:lAt c (qaY c.graph a b)=some l):qbq c a b=(setL c (qaY c.graph a b) (qbb l).1,(qbb l).2):=by
 unfold qbq
 rw[zp (by simp[ok,hab]),hl]
theorem qN6(c:Cluster)(a b:Int)(hc:c.sz≤8388608)(hw:GotLe c):Rt 91 [.agg c.e,.one (I a),.one (I b)] [.agg (qby c a b).1.e,.one (B (qby c a b).2)]:=by
 have cp:=qc0 c hc
 have k:=qrG c a b hc hw
 cases h1:(qah c&&a != b) with
 | false=>
  rw[h1,zo (by decide)]at k
  rw[show qby c a b=(c,false) by unfold qby;rw[h1];rfl]
  exact qrj ⟨cp,k,dT (by decide),trivial⟩
 | true=>
 rw[h1,zp rfl]at k
 rw[zj]at h1
 obtain⟨ok,hab⟩:=h1
 have hab:a≠b:=by simpa using hab
 have hn:=qcy (qa8.1 ok).1
 cases hh:(inR a 0 (c.graph.workers-1)&&inR b 0 (c.graph.workers-1)) with
 | false=>
  rw[qej hh]at k
  rw[show qby c a b=(c,false) by unfold qby;rw[qjo hh];split<;>rfl]
  exact qrj ⟨cp,k,dT (by decide),trivial⟩
 | true=>
 rw[zj]at hh
 obtain⟨l,hl⟩:=qgu ok hh.1 hh.2
 obtain⟨x,hx⟩:∃x,wAt c b=some x:=by
  have hb:=hh.2
  have:=(qa8.1 ok).2.1
  simp only[inR,zi]at hb
  exact qhM (by omega) (by omega)
 obtain⟨lE0,lE1,lE2⟩:=qgA hl
 obtain⟨wE0,wE1,wE2⟩:=qbS hx
 have tf:=qNS l (qgB hl hc) (ql1 hl hw)
 rw[qrK ok hab hl hx]
 cases h6:(qay l).2.2 with
 | false=>
  rw[h6]at tf
  exact qL8 ⟨cp,k,dF (by omega),lE0,lE1,lE2,tf,rfl,trivial⟩
 | true=>
  rw[h6]at tf
  have he:=qeg (qlK (qhL ok hl) h6).2
  obtain⟨f4,fb,_,fs⟩:=qjn ok hx
  rw[zp rfl]
  dsimp only
  rw[qrE]
  exact qL9 ⟨cp,k,dF (by omega),lE0,lE1,lE2,tf,rfl,lE0,lE1,lE2,wE0,wE1,wE2,qNV x _ (qb1 hx hc) f4 fb he (fs _ he),wE0,wE1,wE2,trivial⟩
theorem qN7(c:Cluster)(a b:Int)(hc:c.sz≤8388608)(hw:GotLe c):Rt 92 [.agg c.e,.one (I a),.one (I b)] [.agg (qbq c a b).1.e,.one (B (qbq c a b).2)]:=by
 have cp:=qc0 c hc
 have k:=qrG c a b hc hw
 cases h1:(qah c&&a != b) with
 | false=>
  rw[h1,zo (by decide)]at k
  rw[show qbq c a b=(c,false) by unfold qbq;rw[h1];rfl]
  exact qrg ⟨cp,k,dT (by decide),trivial⟩
 | true=>
 rw[h1,zp rfl]at k
 rw[zj]at h1
 obtain⟨ok,hab⟩:=h1
 have hab:a≠b:=by simpa using hab
 cases hh:(inR a 0 (c.graph.workers-1)&&inR b 0 (c.graph.workers-1)) with
 | false=>
  rw[qej hh]at k
  rw[show qbq c a b=(c,false) by unfold qbq;rw[qjo hh];split<;>rfl]
  exact qrg ⟨cp,k,dT (by decide),trivial⟩
 | true=>
 rw[zj]at hh
 obtain⟨l,hl⟩:=qgu ok hh.1 hh.2
 obtain⟨lE0,lE1,lE2⟩:=qgA hl
 rw[qrL ok hab hl]
 dsimp only
 rw[qN2]
 exact qL2 _ _ _ _ _ _ _ _ _ _ _ _ _ _ _ _ _ _ _ _ _ _ _ _ _ _ _ _ _ _ _ _ _ _ _ _ ⟨cp,k,dF (by omega),lE0,lE1,lE2,qNT l (qgB hl hc) (ql1 hl hw),lE0,lE1,lE2,trivial⟩
theorem ql5(c:Cluster)(w:Int)(hc:c.sz≤8388608):RetR prog 209 [.ref (runE c) (runE c),.ro (.one (I w))] (.vals [.one (B (qah c&&(wAt c w).isSome))]):=by
 unfold runE
 cases ok:qah c with
 | false=>exact qNn ⟨rfl,trivial⟩
 | true=>
  cases hx:wAt c w with
  | none=>exact qrt ⟨rfl,wlen1 hc,qaM _ _ _ _ (qrD hx),trivial⟩
  | some x=>exact qrt ⟨rfl,wlen1 hc,qaM _ _ _ _ (qjm hx),trivial⟩
def sumW(x:Worker)(e d:Int):Worker:=⟨x.queue,x.staged,x.inputs,x.cells,incAt x.sums e d,x.black,x.caps,x.dones⟩
theorem qrM(w:Worker)(e d:Int):(sumW w e d).e=[.sl 5 (w.queue.map Record.e),.sl 5 (w.staged.map Record.e),.sl 5 (w.inputs.map Record.e),.sl 4 (w.cells.map Cell.e),.sl 1 ((w.sums.map eI).set e.toNat [I (w.sums.getD e.toNat 0+d)]),.sl 1 (w.black.map eB),.sl 1 (w.caps.map eB),.sl 2 (w.dones.map Done.e)]:=by
 simp only[sumW,incAt,Worker.e,zau];rfl
theorem qrN(c:Cluster)(w e d:Int)(x:Worker)(hx:wAt c w=some x)(h4:x.sums.length=4)(he:0≤e∧e≤3)(hd:-1≤d∧d≤1)(hs:-1000000≤x.sums.getD e.toNat 0∧x.sums.getD e.toNat 0≤1000000):
  RetR prog 215 [.ref (runD c true) (runD (setW c w (sumW x e d)) (inR (x.sums.getD e.toNat 0+d) (-1000000) 1000000)),.ro (.one (I w)),.ro (.one (I e)),.ro (.one (I d))] (.vals []):=by
 obtain⟨wE0,wE1,wE2⟩:=qbS hx
 obtain⟨s1,s2⟩:=int4 h4 he
 rw[qhT,qrM]
 exact qNs ⟨wE0,wE1,wE2,wE0,wE1,wE2,he.1,s1,s2,⟨by omega,by omega⟩,he.1,s1,s2,wE2,rfl,rfl,rfl,rfl,rfl,wE0,by rw[zn];exact wE1,gs1 wE0 wE1,he.1,by rw[zn];exact s1,gs1 he.1 s1,qbi _ _ _,trivial⟩
theorem qN8(c:Cluster)(w:Int)(hc:c.sz≤8388608):RetR prog 144 [.ref (runE c) (runE (qbn c w).1),.ro (.one (I w))] (.vals [.one (B (qbn c w).2)]):=by
 have post:=fun h=>qK9 (c:=c) (w:=w) h
 have is:=ql5 c w hc
 cases ok:qah c with
 | false=>
  rw[ok]at is
  rw[show qbn c w=(c,false) by unfold qbn;simp[ok]]
  exact qrv ⟨is,rfl,trivial⟩
 | true=>
 replace post:=post ok
 cases hx:wAt c w with
 | none=>
  rw[ok,hx]at is
  rw[show qbn c w=(c,false) by unfold qbn;simp[hx]]
  exact qrv ⟨is,rfl,trivial⟩
 | some x=>
 rw[ok,hx]at is
 obtain⟨wE0,wE1,wE2⟩:=qbS hx
 have hsz:=qb1 hx hc
 have gok:=(qa8.1 ok).1
 have wok:=qcz ok hx
 have hu:qa6 c.graph x=match x.staged,x.queue with
  | [],r::q=>(⟨q,(qaB c.graph x.cells r).2.1,x.inputs,(qaB c.graph x.cells r).1,x.sums,x.black,(if capped c.graph r then x.caps.set r.stamp.epoch.toNat true else x.caps),x.dones⟩,true)
  | _,_=>(x,false):=by unfold qa6;rw[gok,wok];rfl
 have pe:qbn c w=(setW c w (qa6 c.graph x).1,(qa6 c.graph x).2):=by unfold qbn;simp[ok,hx]
 cases h3:x.staged with
 | cons r q=>
  rw[pe,show qa6 c.graph x=(x,false) by rw[hu,h3]]
  dsimp only
  rw[qfo hx]
  exact qNy ⟨is,rfl,wE0,wE1,wE2,pos_t h3,trivial⟩
 | nil=>
 cases h4:x.queue with
 | nil=>
  rw[pe,show qa6 c.graph x=(x,false) by rw[hu,h3,h4]]
  dsimp only
  rw[qfo hx]
  exact qNz ⟨is,rfl,wE0,wE1,wE2,pos_f h3,len_f h4,trivial⟩
 | cons r q=>
  have hcl:x.cells.length≤8388608:=by simp only[Worker.sz]at hsz;omega
  have hql:x.queue.length≤8388608:=by simp only[Worker.sz]at hsz;omega
  have hg:=Cluster.graph_sz1 hc
  have st:=qKi c.graph x.cells r hg hcl
  have ca:=qKl c.graph r hg
  obtain⟨k1,_,_,_,_,_,k7,_⟩:=qbG.1 wok
  rw[h4,qef]at k1
  have he:=qeg k1.1
  obtain⟨c1,c2⟩:=bool4 k7 he
  unfold runE at is ⊢
  rw[post]
  rw[ok]at is ⊢
  cases h5:capped c.graph r with
  | true=>
   rw[h5]at ca
   rw[pe,show qa6 c.graph x=(⟨q,(qaB c.graph x.cells r).2.1,x.inputs,(qaB c.graph x.cells r).1,x.sums,x.black,x.caps.set r.stamp.epoch.toNat true,x.dones⟩,true) by rw[hu,h3,h4];simp only[h5,zbb]]
   have e:Worker.e ⟨q,(qaB c.graph x.cells r).2.1,x.inputs,(qaB c.graph x.cells r).1,x.sums,x.black,x.caps.set r.stamp.epoch.toNat true,x.dones⟩=[.sl 5 ([]++((x.queue.map Record.e).drop 1).take ((x.queue.map Record.e).length-1)),.sl 5 ((qaB c.graph x.cells r).2.1.map Record.e),.sl 5 (x.inputs.map Record.e),.sl 4 ((qaB c.graph x.cells r).1.map Cell.e),.sl 1 (x.sums.map eI),.sl 1 (x.black.map eB),.sl 1 ((x.caps.map eB).set r.stamp.epoch.toNat [B true]),.sl 2 (x.dones.map Done.e)]:=by
    rw[qhS h4];simp only[Worker.e,zau];rfl
   dsimp only
   rw[qhT,e]
   have key:=qNA ⟨is,rfl,wE0,wE1,wE2,pos_f h3,len_t h4,by omega,qcb h4,qcN h4,st,cut_a,cut_b h4,cut_c,qgw h4 hql,qgx h4 hql,qgy h4,ca,rfl,he.1,c1,c2,wE2,rfl,rfl,rfl,rfl,wE0,by rw[zn];exact wE1,gs1 wE0 wE1,rfl,rfl,rfl,rfl,rfl,trivial⟩
   simp only[zam]at key
   exact key
  | false=>
   rw[h5]at ca
   rw[pe,show qa6 c.graph x=(⟨q,(qaB c.graph x.cells r).2.1,x.inputs,(qaB c.graph x.cells r).1,x.sums,x.black,x.caps,x.dones⟩,true) by rw[hu,h3,h4];simp only[h5];rfl]
   have e:Worker.e ⟨q,(qaB c.graph x.cells r).2.1,x.inputs,(qaB c.graph x.cells r).1,x.sums,x.black,x.caps,x.dones⟩=[.sl 5 ([]++((x.queue.map Record.e).drop 1).take ((x.queue.map Record.e).length-1)),.sl 5 ((qaB c.graph x.cells r).2.1.map Record.e),.sl 5 (x.inputs.map Record.e),.sl 4 ((qaB c.graph x.cells r).1.map Cell.e),.sl 1 (x.sums.map eI),.sl 1 (x.black.map eB),.sl 1 (x.caps.map eB),.sl 2 (x.dones.map Done.e)]:=by
    rw[qhS h4];rfl
   dsimp only
   rw[qhT,e]
   exact qNB ⟨is,rfl,wE0,wE1,wE2,pos_f h3,len_t h4,by omega,qcb h4,qcN h4,st,cut_a,cut_b h4,cut_c,qgw h4 hql,qgx h4 hql,qgy h4,ca,rfl,wE0,wE1,wE2,rfl,rfl,rfl,rfl,rfl,trivial⟩
theorem qN9(c:Cluster)(w:Int)(hc:c.sz≤8388608):RetR prog 145 [.ref (runE c) (runE (qbo c w).1),.ro (.one (I w))] (.vals [.one (B (qbo c w).2)]):=by
 have post:=fun h=>qLa (c:=c) (w:=w) h
 have is:=ql5 c w hc
 cases ok:qah c with
 | false=>
  rw[ok]at is
  rw[show qbo c w=(c,false) by unfold qbo;simp[ok]]
  exact qrs ⟨is,rfl,trivial⟩
 | true=>
 replace post:=post ok
 cases hx:wAt c w with
 | none=>
  rw[ok,hx]at is
  rw[show qbo c w=(c,false) by unfold qbo;simp[hx]]
  exact qrs ⟨is,rfl,trivial⟩
 | some x=>
 rw[ok,hx]at is
 obtain⟨wE0,wE1,wE2⟩:=qbS hx
 have hsz:=qb1 hx hc
 have gok:=(qa8.1 ok).1
 have wok:=qcz ok hx
 have hil:x.inputs.length≤8388608:=by simp only[Worker.sz]at hsz;omega
 have hu:qa7 c.graph x=match x.staged,x.queue,x.inputs with
  | [],[],r::t=>(⟨[r],[],t,x.cells,x.sums,x.black,x.caps,x.dones⟩,true)
  | _,_,_=>(x,false):=by unfold qa7;rw[gok,wok];rfl
 have pe:qbo c w=(setW c w (qa7 c.graph x).1,(qa7 c.graph x).2):=by unfold qbo;simp[ok,hx]
 cases h3:x.staged with
 | cons r q=>
  rw[pe,show qa7 c.graph x=(x,false) by rw[hu,h3]]
  dsimp only
  rw[qfo hx]
  exact qNj ⟨is,rfl,wE0,wE1,wE2,pos_t h3,trivial⟩
 | nil=>
 cases h4:x.queue with
 | cons r q=>
  rw[pe,show qa7 c.graph x=(x,false) by rw[hu,h3,h4]]
  dsimp only
  rw[qfo hx]
  exact qNk ⟨is,rfl,wE0,wE1,wE2,pos_f h3,pos_t h4,trivial⟩
 | nil=>
 cases h5:x.inputs with
 | nil=>
  rw[pe,show qa7 c.graph x=(x,false) by rw[hu,h3,h4,h5]]
  dsimp only
  rw[qfo hx]
  exact qNl ⟨is,rfl,wE0,wE1,wE2,pos_f h3,pos_f h4,len_f h5,trivial⟩
 | cons r t=>
  unfold runE at is ⊢
  rw[post]
  rw[ok]at is ⊢
  rw[pe,show qa7 c.graph x=(⟨[r],[],t,x.cells,x.sums,x.black,x.caps,x.dones⟩,true) by rw[hu,h3,h4,h5]]
  have e:Worker.e ⟨[r],[],t,x.cells,x.sums,x.black,x.caps,x.dones⟩=[.sl 5 ([r.e]),.sl 5 (x.staged.map Record.e),.sl 5 ([]++((x.inputs.map Record.e).drop 1).take ((x.inputs.map Record.e).length-1)),.sl 4 (x.cells.map Cell.e),.sl 1 (x.sums.map eI),.sl 1 (x.black.map eB),.sl 1 (x.caps.map eB),.sl 2 (x.dones.map Done.e)]:=by
   rw[qhS h5,h3];rfl
  dsimp only
  rw[qhT,e]
  exact qNm ⟨is,rfl,wE0,wE1,wE2,pos_f h3,pos_f h4,len_t h5,by omega,qcb h5,qcN h5,cut_a,cut_b h5,cut_c,qgw h5 hil,qgx h5 hil,qgy h5,wE0,wE1,wE2,rfl,rfl,rfl,rfl,rfl,rfl,trivial⟩
theorem qOa(c:Cluster)(w:Int)(hc:c.sz≤8388608):RetR prog 146 [.ref (runE c) (runE (qbp c w).1),.ro (.one (I w))] (.vals [.one (B (qbp c w).2)]):=by
 have is:=ql5 c w hc
 cases ok:qah c with
 | false=>
  rw[ok]at is
  rw[show qbp c w=(c,false) by unfold qbp;simp[ok]]
  exact qru ⟨is,rfl,trivial⟩
 | true=>
 cases hx:wAt c w with
 | none=>
  rw[ok,hx]at is
  rw[show qbp c w=(c,false) by unfold qbp;simp[hx]]
  exact qru ⟨is,rfl,trivial⟩
 | some x=>
 rw[ok,hx]at is
 obtain⟨wE0,wE1,wE2⟩:=qbS hx
 have hsz:=qb1 hx hc
 have hn:=qcy (qa8.1 ok).1
 cases hs:x.staged with
 | nil=>
  rw[show qbp c w=(c,false) by unfold qbp;rw[zp ok,hx];dsimp only;rw[hs]]
  exact qNo ⟨is,rfl,wE0,wE1,wE2,len_f hs,trivial⟩
 | cons r t=>
  have ow:=qFv r.key c.graph.workers (by omega)
  have hr:=(qjg (qcz ok hx) hs).2
  have he:=qeg hr
  have hql:x.queue.length≤8388608:=by simp only[Worker.sz]at hsz;omega
  have hsl:x.staged.length≤8388608:=by simp only[Worker.sz]at hsz;omega
  obtain⟨f4,_,_,fs⟩:=qjn ok hx
  rw[qrH ok hx hs]
  have oin:=qqU r.key hn.1
  generalize qc1 r.key c.graph.workers=o at ow oin
  by_cases how:o=w
  ·have hbo:(o != w)=false:=by simp[how]
   rw[qrI how]
   unfold runE at is ⊢
   dsimp only
   rw[qK7 ok hx hs]
   rw[ok]at is ⊢
   have e:(kept (qbM x t) r).e=[.sl 5 (x.queue.map Record.e++[r.e]),.sl 5 ([]++((x.staged.map Record.e).drop 1).take ((x.staged.map Record.e).length-1)),.sl 5 (x.inputs.map Record.e),.sl 4 (x.cells.map Cell.e),.sl 1 (x.sums.map eI),.sl 1 (x.black.map eB),.sl 1 (x.caps.map eB),.sl 2 (x.dones.map Done.e)]:=by
    rw[qhS hs,ql0];rfl
   rw[qhT,e]
   have key:=qNr ⟨is,rfl,wE0,wE1,wE2,len_t hs,wE0,wE1,wE2,by omega,qcb hs,qcN hs,ow,hbo,wE0,wE1,wE2,one_m hql,one_x hql,wE2,rfl,qau (Record.flat r),rfl,rfl,rfl,rfl,rfl,rfl,rfl,rfl,rfl,rfl,rfl,rfl,rfl,wE0,wE1,wE2,rfl,wE0,by rw[zn];exact wE1,gs1 wE0 wE1,cut_a,cut_b hs,cut_c,qgw hs hsl,qgx hs hsl,qgy hs,wE0,by rw[zn];exact wE1,gs1 wE0 wE1,trivial⟩
   simp only[zam]at key
   exact key
  ·have hbo:(o != w)=true:=by simp[how]
   have win:inR w 0 (c.graph.workers-1)=true:=by
    have:=qjm hx
    rwa[zb,(qa8.1 ok).2.1]at this
   obtain⟨l,hl⟩:=qgu ok win oin
   obtain⟨lE0,lE1,lE2⟩:=qgA hl
   have lp:=qlZ c.graph w o hn
   have so:=qNO l r (qgB hl hc)
   have om:=fun h=>qK6 ok hx hs oin how hl h
   rw[qrJ how hl]
   cases h6:(qaG l r).2 with
   | false=>
    rw[h6]at so
    exact qNp ⟨is,rfl,wE0,wE1,wE2,len_t hs,wE0,wE1,wE2,by omega,qcb hs,qcN hs,ow,hbo,lp,lE0,lE1,lE2,so,rfl,trivial⟩
   | true=>
    rw[h6]at so
    rw[zp rfl]
    unfold runE at is ⊢
    dsimp only
    rw[om h6]
    rw[ok]at is ⊢
    have su:=qrN (setL c (qaY c.graph w o) (qaG l r).1) w r.stamp.epoch 1 x (qhO.trans hx) f4 he (by omega) (fs _ he)
    rw[qrF,ql3,qrM]at su
    have e:(qcM (qbM x t) r.stamp.epoch).e=[.sl 5 (x.queue.map Record.e),.sl 5 ([]++((x.staged.map Record.e).drop 1).take ((x.staged.map Record.e).length-1)),.sl 5 (x.inputs.map Record.e),.sl 4 (x.cells.map Cell.e),.sl 1 ((x.sums.map eI).set r.stamp.epoch.toNat [I (x.sums.getD r.stamp.epoch.toNat 0+1)]),.sl 1 (x.black.map eB),.sl 1 (x.caps.map eB),.sl 2 (x.dones.map Done.e)]:=by
     rw[qhS hs,qrB];rfl
    rw[ql3,e]
    have key:=qNq ⟨is,rfl,wE0,wE1,wE2,len_t hs,wE0,wE1,wE2,by omega,qcb hs,qcN hs,ow,hbo,lp,lE0,lE1,lE2,so,rfl,lE0,lE1,lE2,su,wE0,by rw[zn];exact wE1,gs1 wE0 wE1,cut_a,cut_b hs,cut_c,qgw hs hsl,qgx hs hsl,qgy hs,wE0,by rw[zn];exact wE1,gs1 wE0 wE1,trivial⟩
    simp only[zam]at key
    exact key
theorem qOb(c:Cluster)(a b:Int)(hc:c.sz≤8388608):RetR prog 147 [.ref (runE c) (runE (qby c a b).1),.ro (.one (I a)),.ro (.one (I b))] (.vals [.one (B (qby c a b).2)]):=by
 cases ok:qah c with
 | false=>
  rw[show qby c a b=(c,false) by unfold qby;simp[ok]]
  obtain⟨v,lp⟩:=qrz c.graph a b
  unfold runE
  rw[ok]
  exact qNt ⟨lp,rfl,trivial⟩
 | true=>
 have hn:=qcy (qa8.1 ok).1
 have lp:=qlZ c.graph a b hn
 cases hh:(inR a 0 (c.graph.workers-1)&&inR b 0 (c.graph.workers-1)) with
 | false=>
  rw[qej hh]at lp
  rw[show qby c a b=(c,false) by unfold qby;rw[qjo hh];split<;>rfl]
  unfold runE
  rw[ok]
  exact qNu ⟨lp,rfl,dT (by decide),trivial⟩
 | true=>
 rw[zj]at hh
 obtain⟨l,hl⟩:=qgu ok hh.1 hh.2
 obtain⟨lE0,lE1,lE2⟩:=qgA hl
 by_cases hab:a=b
 ·rw[show qby c a b=(c,false) by unfold qby;simp[hab]]
  unfold runE
  rw[ok]
  exact qNv ⟨lp,rfl,dF (by omega),by simp[hab],trivial⟩
 have hbo:(a==b)=false:=by simp[hab]
 obtain⟨x,hx⟩:∃x,wAt c b=some x:=by
  have hb:=hh.2
  have:=(qa8.1 ok).2.1
  simp only[inR,zi]at hb
  exact qhM (by omega) (by omega)
 obtain⟨wE0,wE1,wE2⟩:=qbS hx
 have hsz:=qb1 hx hc
 have tf:=qNP l (qgB hl hc)
 have ot:=fun h=>qK8 ok hl hx h
 rw[qrK ok hab hl hx]
 unfold runE
 cases h6:(qay l).2.2 with
 | false=>
  rw[h6]at tf
  rw[zo (by decide)]
  dsimp only
  rw[ok]
  exact qNw ⟨lp,rfl,dF (by omega),hbo,lE0,lE1,lE2,tf,rfl,trivial⟩
 | true=>
  rw[h6]at tf
  rw[zp rfl]
  dsimp only
  rw[ot h6,ok]
  have hr:=(qlK (qhL ok hl) h6).2
  have he:=qeg hr
  generalize (qay l).2.1=r at tf hr he ⊢
  obtain⟨f4,fb,_,fs⟩:=qjn ok hx
  have hql:x.queue.length≤8388608:=by simp only[Worker.sz]at hsz;omega
  obtain⟨b1,b2⟩:=bool4 fb he
  have hx2:wAt (setW (setL c (qaY c.graph a b) (qay l).1) b ⟨x.queue++[r],x.staged,x.inputs,x.cells,x.sums,x.black.set r.stamp.epoch.toNat true,x.caps,x.dones⟩) b=some ⟨x.queue++[r],x.staged,x.inputs,x.cells,x.sums,x.black.set r.stamp.epoch.toNat true,x.caps,x.dones⟩:=by
   obtain⟨q1,q2,_⟩:=qc4 hx
   unfold wAt setW setL
   rw[zp q1]
   exact List.getElem?_set_self q2
  have su:=qrN _ b r.stamp.epoch (-1) _ hx2 f4 he (by omega) (fs _ he)
  rw[ql3]at su
  have e2:Worker.e ⟨x.queue++[r],x.staged,x.inputs,x.cells,x.sums,x.black.set r.stamp.epoch.toNat true,x.caps,x.dones⟩=[.sl 5 (x.queue.map Record.e++[r.e]),.sl 5 (x.staged.map Record.e),.sl 5 (x.inputs.map Record.e),.sl 4 (x.cells.map Cell.e),.sl 1 (x.sums.map eI),.sl 1 ((x.black.map eB).set r.stamp.epoch.toNat [B true]),.sl 1 (x.caps.map eB),.sl 2 (x.dones.map Done.e)]:=by
   simp only[Worker.e,zU,zau];rfl
  rw[e2,←zam]at su
  rw[show setW (setW (setL c (qaY c.graph a b) (qay l).1) b ⟨x.queue++[r],x.staged,x.inputs,x.cells,x.sums,x.black.set r.stamp.epoch.toNat true,x.caps,x.dones⟩) b (sumW ⟨x.queue++[r],x.staged,x.inputs,x.cells,x.sums,x.black.set r.stamp.epoch.toNat true,x.caps,x.dones⟩ r.stamp.epoch (-1))=setW (setL c (qaY c.graph a b) (qay l).1) b (received x r) by unfold setW setL;simp only[zam];rfl]at su
  exact qNx ⟨lp,rfl,dF (by omega),hbo,lE0,lE1,lE2,tf,rfl,lE0,lE1,lE2,wE0,wE1,wE2,one_m hql,one_x hql,wE2,rfl,qau (Record.flat r),rfl,rfl,rfl,rfl,rfl,rfl,rfl,wE0,wE1,wE2,rfl,wE0,by rw[zn];exact wE1,gs1 wE0 wE1,he.1,b1,b2,gs1 wE0 wE1,rfl,rfl,su,trivial⟩
theorem qOc(c:Cluster)(a b:Int)(hc:c.sz≤8388608):RetR prog 148 [.ref (runE c) (runE (qbq c a b).1),.ro (.one (I a)),.ro (.one (I b))] (.vals [.one (B (qbq c a b).2)]):=by
 have post:=fun h=>qLb (c:=c) (a:=a) (b:=b) h
 cases ok:qah c with
 | false=>
  rw[show qbq c a b=(c,false) by unfold qbq;simp[ok]]
  obtain⟨v,lp⟩:=qrz c.graph a b
  unfold runE
  rw[ok]
  exact qNf ⟨lp,rfl,trivial⟩
 | true=>
 replace post:=post ok
 have hn:=qcy (qa8.1 ok).1
 have lp:=qlZ c.graph a b hn
 unfold runE
 rw[post,ok]
 cases hh:(inR a 0 (c.graph.workers-1)&&inR b 0 (c.graph.workers-1)) with
 | false=>
  rw[qej hh]at lp
  rw[show qbq c a b=(c,false) by unfold qbq;rw[qjo hh];split<;>rfl]
  exact qNg ⟨lp,rfl,dT (by decide),trivial⟩
 | true=>
 rw[zj]at hh
 obtain⟨l,hl⟩:=qgu ok hh.1 hh.2
 obtain⟨lE0,lE1,lE2⟩:=qgA hl
 by_cases hab:a=b
 ·rw[show qbq c a b=(c,false) by unfold qbq;simp[hab]]
  exact qNh ⟨lp,rfl,dF (by omega),by simp[hab],trivial⟩
 rw[qrL ok hab hl]
 dsimp only
 rw[qrF]
 exact qNi ⟨lp,rfl,dF (by omega),by simp[hab],lE0,lE1,lE2,qNQ l (qgB hl hc),lE0,lE1,lE2,trivial⟩
theorem ql6(c:Cluster)(p:Pick)(hc:c.sz≤8388608):RetR prog 87 [.ref (runE c) (runE (stepPick c p).1),.ro (.agg p.e)] (.vals [.one (B (stepPick c p).2)]):=by
 by_cases h1:p.kind=1
 ·rw[show stepPick c p=qbn c p.a by unfold stepPick;simp[h1]]
  exact qNC ⟨by rw[zE];exact h1,qN8 c p.a hc,trivial⟩
 have n1:(p.kind==1)=false:=by rw[zQ,zcc,zE];exact h1
 by_cases h2:p.kind=2
 ·rw[show stepPick c p=qbo c p.a by unfold stepPick;simp[h2]]
  exact qND ⟨n1,by rw[zE];exact h2,qN9 c p.a hc,trivial⟩
 have n2:(p.kind==2)=false:=by rw[zQ,zcc,zE];exact h2
 by_cases h3:p.kind=3
 ·rw[show stepPick c p=qbp c p.a by unfold stepPick;simp[h3]]
  exact qNE ⟨n1,n2,by rw[zE];exact h3,qOa c p.a hc,trivial⟩
 have n3:(p.kind==3)=false:=by rw[zQ,zcc,zE];exact h3
 by_cases h4:p.kind=4
 ·rw[show stepPick c p=qby c p.a p.b by unfold stepPick;simp[h4]]
  exact qNF ⟨n1,n2,n3,by rw[zE];exact h4,qOb c p.a p.b hc,trivial⟩
 have n4:(p.kind==4)=false:=by rw[zQ,zcc,zE];exact h4
 by_cases h5:p.kind=5
 ·rw[show stepPick c p=qbq c p.a p.b by unfold stepPick;simp[h5]]
  exact qNG ⟨n1,n2,n3,n4,by rw[zE];exact h5,qOc c p.a p.b hc,trivial⟩
 have n5:(p.kind==5)=false:=by rw[zQ,zcc,zE];exact h5
 by_cases h6:p.kind=6
 ·rw[show stepPick c p=qbj c p.a by unfold stepPick;simp[h6]]
  exact qNH ⟨n1,n2,n3,n4,n5,by rw[zE];exact h6,qLJ c p.a hc,trivial⟩
 have n6:(p.kind==6)=false:=by rw[zQ,zcc,zE];exact h6
 by_cases h7:p.kind=7
 ·rw[show stepPick c p=qbz c p.a by unfold stepPick;simp[h7]]
  exact qNI ⟨n1,n2,n3,n4,n5,n6,by rw[zE];exact h7,qLz c p.a hc,trivial⟩
 have n7:(p.kind==7)=false:=by rw[zQ,zcc,zE];exact h7
 rw[show stepPick c p=(c,false) by unfold stepPick;simp[h1,h2,h3,h4,h5,h6,h7]]
 exact qNJ ⟨n1,n2,n3,n4,n5,n6,n7,trivial⟩
theorem ql7(c:Cluster)(p:Pick)(hc:c.sz≤8388608)(hw:GotLe c):Rt 24 [.agg c.e,.agg p.e] [.agg (stepPick c p).1.e,.one (B (stepPick c p).2)]:=by
 by_cases h1:p.kind=1
 ·rw[show stepPick c p=qbn c p.a by unfold stepPick;simp[h1]]
  exact qMl ⟨by rw[zE];exact h1,qN3 c p.a hc hw,trivial⟩
 have n1:(p.kind==1)=false:=by rw[zQ,zcc,zE];exact h1
 by_cases h2:p.kind=2
 ·rw[show stepPick c p=qbo c p.a by unfold stepPick;simp[h2]]
  exact qMm ⟨n1,by rw[zE];exact h2,qN4 c p.a hc hw,trivial⟩
 have n2:(p.kind==2)=false:=by rw[zQ,zcc,zE];exact h2
 by_cases h3:p.kind=3
 ·rw[show stepPick c p=qbp c p.a by unfold stepPick;simp[h3]]
  exact qMn ⟨n1,n2,by rw[zE];exact h3,qN5 c p.a hc hw,trivial⟩
 have n3:(p.kind==3)=false:=by rw[zQ,zcc,zE];exact h3
 by_cases h4:p.kind=4
 ·rw[show stepPick c p=qby c p.a p.b by unfold stepPick;simp[h4]]
  exact qMo ⟨n1,n2,n3,by rw[zE];exact h4,qN6 c p.a p.b hc hw,trivial⟩
 have n4:(p.kind==4)=false:=by rw[zQ,zcc,zE];exact h4
 by_cases h5:p.kind=5
 ·rw[show stepPick c p=qbq c p.a p.b by unfold stepPick;simp[h5]]
  exact qMp ⟨n1,n2,n3,n4,by rw[zE];exact h5,qN7 c p.a p.b hc hw,trivial⟩
 have n5:(p.kind==5)=false:=by rw[zQ,zcc,zE];exact h5
 by_cases h6:p.kind=6
 ·rw[show stepPick c p=qbj c p.a by unfold stepPick;simp[h6]]
  exact qMq ⟨n1,n2,n3,n4,n5,by rw[zE];exact h6,qLM c p.a hc hw,trivial⟩
 have n6:(p.kind==6)=false:=by rw[zQ,zcc,zE];exact h6
 by_cases h7:p.kind=7
 ·rw[show stepPick c p=qbz c p.a by unfold stepPick;simp[h7]]
  exact qMr ⟨n1,n2,n3,n4,n5,n6,by rw[zE];exact h7,qLA c p.a hc hw,trivial⟩
 have n7:(p.kind==7)=false:=by rw[zQ,zcc,zE];exact h7
 rw[show stepPick c p=(c,false) by unfold stepPick;simp[h1,h2,h3,h4,h5,h6,h7]]
 exact qMs ⟨n1,n2,n3,n4,n5,n6,n7,qc0 c hc,trivial⟩
theorem ql8(c:Cluster)(p:Pick)(hc:c.sz≤8388608)(hw:GotLe c):Rt 22 [.agg c.e,.agg p.e] [.agg (stepPick c p).1.e,.one (B (stepPick c p).2)]:=
 qNb ⟨qhQ c hc hw,ql6 c p hc,trivial⟩
end Go.Proofs.YtdanpadojemjeaaGreat
