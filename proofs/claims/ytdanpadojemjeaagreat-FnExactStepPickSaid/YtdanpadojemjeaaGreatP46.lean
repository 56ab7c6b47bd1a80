/- TokenStep: what program and reference compute. -/
import Derived.Test.YtdanpadojemjeaaGreatP43
set_option linter.unusedVariables false
set_option linter.unusedSimpArgs false
namespace Go.Proofs.YtdanpadojemjeaaGreat
open Go.Sx Go.RowKit Go.Proofs.Tryz
theorem beq0(a b:Nat):(((a:Int)+(b:Int))==0)=(a+b==0):=by
 rw[Bool.eq_iff_iff];simp only[zF];omega
theorem qI2(w:Worker)(e:Int)(hw:w.sz≤8388608):Rt 205 [.agg w.e,.one (I e)] [.one (B (qf2 w e))]:=by
 have hl:w.inputs.length≤8388608:=by simp only[Worker.sz]at hw;omega
 have l:=qaT (P:=prog) (c:=(qaa f205 0)) w.inputs (fun r=>decide (r.stamp.epoch≤e)) (fun i=>qeN (w.queue.map Record.e) (w.staged.map Record.e) (w.inputs.map Record.e) (w.cells.map Cell.e) (w.sums.map eI) (w.black.map eB) (w.caps.map eB) (w.dones.map Done.e) e i) (X:=fun _ _=>qkm true) qav (qaf 0)
  (fun i a ha h=>qz2 ⟨lt1 (lt_of ha),lt0,lt2 (lt_of ha),qac Record.e ha,h,up1 (lt_of ha) hl,trivial⟩)
  (fun i a ha h=>qz1 ⟨lt1 (lt_of ha),lt0,lt2 (lt_of ha),qac Record.e ha,h,trivial⟩)
  (qz3 ⟨ge1,trivial⟩)
 unfold qf2
 rcases l with⟨_,_,h1,h2⟩ | ⟨i,a,_,_,_,_,h1,h2⟩
 ·rw[h1];exact qz5 ⟨h2,trivial⟩
 ·rw[h1];exact qz4 ⟨h2,trivial⟩
theorem qI3(w:Worker)(e:Int)(hw:w.sz≤8388608):Rt 141 [.agg w.e,.one (I e)] [.one (B (qf2 w e))]:=by
 have hl:w.inputs.length≤8388608:=by simp only[Worker.sz]at hw;omega
 exact qz9 ⟨qyx w.inputs (fun r=>decide (r.stamp.epoch≤e)) 208 [.ptr [I e]] hl (by kernel_rfl) (fun x _=>qAa trivial),trivial⟩
theorem qI4(w:Worker)(e:Int)(hw:w.sz≤8388608):Rt 206 [.agg w.e,.one (I e)] [.one (I ((↑((qcz e w.queue).map Record.e).length:Int)+(↑((qcz e w.staged).map Record.e).length:Int)))]:=by
 simp only[Worker.sz]at hw
 have k1:(qcz e w.queue).length≤w.queue.length:=zax _ _
 have k2:(qcz e w.staged).length≤w.staged.length:=zax _ _
 exact qz8 ⟨qoc w.queue e (by omega),qoc w.staged e (by omega),⟨by simp only[zb];omega,by simp only[zb];omega⟩,trivial⟩
theorem qI5(w:Worker)(e:Int)(hw:w.sz≤8388608):Rt 139 [.agg w.e,.one (I e)] [.one (B (qds w e))]:=by
 have o:=qI2 w e hw
 unfold qds
 cases h:qf2 w e with
 | true=>rw[h]at o;exact qz7 ⟨o,rfl,trivial⟩
 | false=>
  rw[h]at o
  have a:=qI4 w e hw
  rw[zb,zb]at a
  have b:=qz6 ⟨o,rfl,a,trivial⟩
  rw[beq0]at b
  exact b
theorem qI6(w:Worker)(e:Int)(hw:w.sz≤8388608):Rt 142 [.agg w.e,.one (I e)] [.one (I ((↑((qcz e w.queue).map Record.e).length:Int)+(↑((qcz e w.staged).map Record.e).length:Int)))]:=by
 simp only[Worker.sz]at hw
 have k1:(qcz e w.queue).length≤w.queue.length:=zax _ _
 have k2:(qcz e w.staged).length≤w.staged.length:=zax _ _
 exact qAd ⟨qod w.queue e (by omega),qod w.staged e (by omega),⟨by simp only[zb];omega,by simp only[zb];omega⟩,trivial⟩
theorem qI7(w:Worker)(e:Int)(hw:w.sz≤8388608):Rt 82 [.agg w.e,.one (I e)] [.one (B (qds w e))]:=by
 have o:=qI3 w e hw
 unfold qds
 cases h:qf2 w e with
 | true=>rw[h]at o;exact qAc ⟨o,rfl,trivial⟩
 | false=>
  rw[h]at o
  have a:=qI6 w e hw
  rw[zb,zb]at a
  have b:=qAb ⟨o,rfl,a,trivial⟩
  rw[beq0]at b
  exact b
theorem qpz(w:Worker)(e:Int)(r:Bool)(h:qds w e=r)(hw:w.sz≤8388608):Rt 139 [.agg w.e,.one (I e)] [.one (B r)]:=h▸qI5 w e hw
theorem qpA(w:Worker)(e:Int)(r:Bool)(h:qds w e=r)(hw:w.sz≤8388608):Rt 82 [.agg w.e,.one (I e)] [.one (B r)]:=h▸qI7 w e hw
end Go.Proofs.YtdanpadojemjeaaGreat
namespace Go.Proofs.YtdanpadojemjeaaGreat
open Go.Sx Go.RowKit Go.Proofs.Tryz
theorem qpB{c:Cluster}{i:Int}{t:Token}(h:tAt c i=some t):0≤i∧i<(↑(c.tokens.map Token.e).length:Int)∧(c.tokens.map Token.e)[i.toNat]?=some t.e:=by
 obtain⟨h1,h2,h3⟩:=qkO h
 exact⟨h1,by rw[zb];omega,qad Token.e h3⟩
theorem int4{xs:List Int}{e:Int}(h4:xs.length=4)(he:0≤e∧e≤3):e<(↑(xs.map eI).length:Int)∧(xs.map eI)[e.toNat]?=some [I (xs.getD e.toNat 0)]:=by
 have hl:e.toNat<xs.length:=by omega
 refine⟨by rw[zb];omega,?_⟩
 rw[zp,zt hl,zN,zt hl]
 rfl
theorem bool4{xs:List Bool}{e:Int}(h4:xs.length=4)(he:0≤e∧e≤3):e<(↑(xs.map eB).length:Int)∧(xs.map eB)[e.toNat]?=some [B (xs.getD e.toNat false)]:=by
 have hl:e.toNat<xs.length:=by omega
 refine⟨by rw[zb];omega,?_⟩
 rw[zp,zt hl,zN,zt hl]
 rfl
theorem gs1{l:List (List D)}{i:Int}{a:List D}(h0:0≤i)(h:i<(↑l.length:Int)):(l.set i.toNat a)[i.toNat]?=some a:=List.getElem?_set_self (by omega)
theorem gs2{l:List (List D)}{i:Int}{a b:List D}(h0:0≤i)(h:i<(↑l.length:Int)):((l.set i.toNat a).set i.toNat b)[i.toNat]?=some b:=by rw[zak];exact gs1 h0 h
theorem gs3{l:List (List D)}{i:Int}{a b d:List D}(h0:0≤i)(h:i<(↑l.length:Int)):(((l.set i.toNat a).set i.toNat b).set i.toNat d)[i.toNat]?=some d:=by rw[zak,zak];exact gs1 h0 h
theorem qiu(x:Worker)(e:Int):(qb5 x e).e=[.sl 5 (x.queue.map Record.e),.sl 5 (x.staged.map Record.e),.sl 5 (x.inputs.map Record.e),.sl 4 (x.cells.map Cell.e),.sl 1 (x.sums.map eI),.sl 1 ((x.black.map eB).set e.toNat [B false]),.sl 1 (x.caps.map eB),.sl 2 (x.dones.map Done.e)]:=by
 simp only[qb5,Worker.e,zaq];rfl
theorem qpC(x:Worker)(e:Int)(b:Bool):(told x e b).e=[.sl 5 (x.queue.map Record.e),.sl 5 (x.staged.map Record.e),.sl 5 (x.inputs.map Record.e),.sl 4 (x.cells.map Cell.e),.sl 1 (x.sums.map eI),.sl 1 (x.black.map eB),.sl 1 (x.caps.map eB),.sl 2 (x.dones.map Done.e++[[I e,B b]])]:=by
 simp only[told,Worker.e,zai];rfl
theorem qpD(c:Cluster)(e p:Int)(t:Token)(y:Worker):(setW (setT c e t) p y).e=[.sl 4 (c.graph.nodes.map Node.e),I c.graph.workers,I c.graph.cap,.sl 8 ((c.workers.map Worker.e).set p.toNat y.e),.sl 6 (c.links.map Link.e),.sl 5 ((c.tokens.map Token.e).set e.toNat t.e),.sl 3 (c.news.map News.e)]:=by
 simp only[setW,setT,Cluster.e,zaq]
theorem qkV(c:Cluster)(e:Int)(t:Token):(setT c e t).e=[.sl 4 (c.graph.nodes.map Node.e),I c.graph.workers,I c.graph.cap,.sl 8 (c.workers.map Worker.e),.sl 6 (c.links.map Link.e),.sl 5 ((c.tokens.map Token.e).set e.toNat t.e),.sl 3 (c.news.map News.e)]:=by
 simp only[setT,Cluster.e,zaq]
theorem qpE(c:Cluster)(e p:Int)(t:Token)(y:Worker)(b:Bool):runD (setW (setT c e t) p y) b=[.sl 4 (c.graph.nodes.map Node.e),I c.graph.workers,I c.graph.cap,.sl 8 ((c.workers.map Worker.e).set p.toNat y.e),.sl 6 (c.links.map Link.e),.sl 5 ((c.tokens.map Token.e).set e.toNat t.e),.sl 3 (c.news.map News.e),B b]:=by
 simp only[setW,setT,runD,zaq]
theorem qI8(c:Cluster)(e:Int)(t:Token)(b:Bool):runD (setT c e t) b=[.sl 4 (c.graph.nodes.map Node.e),I c.graph.workers,I c.graph.cap,.sl 8 (c.workers.map Worker.e),.sl 6 (c.links.map Link.e),.sl 5 ((c.tokens.map Token.e).set e.toNat t.e),.sl 3 (c.news.map News.e),B b]:=by
 simp only[setT,runD,zaq]
theorem qkW(n:Nat)(e:Int)(b:Bool):qbd (n+1) e b=qbd n e b++[⟨(n:Int)+1,e,b⟩]:=by simp[qbd,List.range_succ]
theorem qkX(n:Nat)(e:Int)(b:Bool):(qbd n e b).length=n:=by simp[qbd]
theorem qpF{c:Cluster}{e:Int}{x0 x:Worker}{t:Token}(ok:qai c=true)(he:inR e 0 3=true)(h0:wAt c 0=some x0)(ht:tAt c e=some t)(hd:qbQ x0 e=false)(hx:wAt c t.place=some x):qbh c e=qaH c e t x:=by
 unfold qbh
 simp only[ok,he,Bool.and_self,zaw,h0,ht,hd,zam,zcp,hx]
theorem qpG{c:Cluster}{e:Int}(ok:qai c=true)(he:inR e 0 3=true):∃x0 t x,wAt c 0=some x0∧tAt c e=some t∧wAt c t.place=some x∧0<c.workers.length∧c.workers.length≤4∧
  (0≤t.place∧t.place≤3)∧(t.going=false→t.place=0)∧(-1000000≤t.sum∧t.sum≤1000000)∧x.sums.length=4∧x.black.length=4∧x.caps.length=4∧(-1000000≤x.sums.getD e.toNat 0∧x.sums.getD e.toNat 0≤1000000):=by
 obtain⟨h1,h2,h3,h4,h5,h6,h7,h8⟩:=qa5.1 ok
 have hn:=qcq h1
 obtain⟨x0,h0⟩:=qg1 (c:=c) (i:=0) (by omega) (by omega)
 obtain⟨t,ht⟩:=qIx ok he
 obtain⟨t1,t2,t3⟩:=qg2.1 (qpj ok ht)
 obtain⟨x,hx⟩:=qg1 (c:=c) (i:=t.place) (by omega) (by omega)
 obtain⟨_,_,_,_,k5,k6,k7,_,k9,_⟩:=qbC.1 (qcr ok hx)
 refine⟨x0,t,x,h0,ht,hx,by omega,by omega,by omega,t2,t3,k5,k6,k7,?_⟩
 simp only[inR,zi]at he
 have hl:e.toNat<x.sums.length:=by omega
 rw[zO]at k9
 have:=k9 _ (zat hl)
 rw[zN,zt hl,zU]
 simpa only[qcc,zS,zW,inR,zi,zbs,Bool.not_not,Bool.not_eq_eq_eq_not,zY,zf,Classical.not_not]using this
theorem qpH(c:Cluster)(e:Int)(x:Worker)(r:Bool)(h0:wAt c 0=some x)(hd:qbQ x e=r)(hc:c.sz≤8388608):Rt 138 [.agg c.e,.one (I e)] [.one (B r)]:=by
 obtain⟨w0,w1,w2⟩:=qbM h0
 exact qz0 ⟨dT (by omega),w0,w1,w2,qke x e r hd (qbS h0 hc),trivial⟩
theorem qI9(c:Cluster)(b:Bool)(x:Worker)(e:Int)(cap:Bool)(h0:wAt c 0=some x)(h4:c.workers.length≤4)(hc:c.sz≤8388608):
  RetR prog 140 [.ref (runD c b) (runD (setN (setW c 0 (told x e cap)) (c.news++qbd (c.workers.length-1) e cap)) b),.ro (.one (I e)),.ro (.one (B cap))] (.vals []):=by
 obtain⟨w0,w1,w2⟩:=qbM h0
 have hn:=qe1 hc
 have hs:=qbS h0 hc
 have hdl:x.dones.length≤8388608:=by simp only[Worker.sz]at hs;omega
 have hlen:=(qcS h0).2.1
 have hW:((setW c 0 (told x e cap)).workers.map Worker.e).length=c.workers.length:=by simp[setW]
 have l:=qat (P:=prog) (c:=(qaa f140 0)) (qaf 0) (c.workers.length-1) (fun i:Nat=>qgR e cap ((i:Int)+1) (c.graph.nodes.map Node.e) c.graph.workers c.graph.cap ((setW c 0 (told x e cap)).workers.map Worker.e) (c.links.map Link.e) (c.tokens.map Token.e) ((c.news++qbd i e cap).map News.e) b) (fun i hi=>by
  have hm:=qkX i e cap
  rw[qkW,←zce,zai (l₂:=[_])]
  exact qzp ⟨dT (by rw[hW];omega),by simp;omega,by simp;omega,qas (News.flat ⟨(i:Int)+1,e,cap⟩),⟨by omega,by omega⟩,trivial⟩) (qzq ⟨dF (by rw[hW];omega),trivial⟩)
 have e2:(setW c 0 (told x e cap)).workers.map Worker.e=(c.workers.map Worker.e).set 0 [.sl 5 (x.queue.map Record.e),.sl 5 (x.staged.map Record.e),.sl 5 (x.inputs.map Record.e),.sl 4 (x.cells.map Cell.e),.sl 1 (x.sums.map eI),.sl 1 (x.black.map eB),.sl 1 (x.caps.map eB),.sl 2 (x.dones.map Done.e++[[I e,B cap]])]:=by
  rw[←qpC]
  exact qkn.symm
 have e0:qbd 0 e cap=[]:=rfl
 rw[e2,e0,zbe]at l
 have e5:runD (setN (setW c 0 (told x e cap)) (c.news++qbd (c.workers.length-1) e cap)) b=[.sl 4 (c.graph.nodes.map Node.e),I c.graph.workers,I c.graph.cap,.sl 8 ((setW c 0 (told x e cap)).workers.map Worker.e),.sl 6 (c.links.map Link.e),.sl 5 (c.tokens.map Token.e),.sl 3 ((c.news++qbd (c.workers.length-1) e cap).map News.e),B b]:=rfl
 rw[e5,e2]
 exact qzr ⟨by omega,w1,w2,by simp;omega,by simp;omega,w2,rfl,qas (Done.flat ⟨e,cap⟩),rfl,rfl,rfl,rfl,rfl,rfl,rfl,by omega,w1,w2,rfl,l,trivial⟩
theorem qJa(c:Cluster)(e:Int)(hc:c.sz≤8388608):RetR prog 80 [.ref (runE c) (runE (qbh c e).1),.ro (.one (I e))] (.vals [.one (B (qbh c e).2)]):=by
 have post:=fun h=>qIG (c:=c) (e:=e) h
 cases ok:qai c with
 | false=>
  rw[show qbh c e=(c,false) by unfold qbh;simp[ok]]
  simp only[runE,ok]
  exact qzs ⟨rfl,trivial⟩
 | true=>
 replace post:=post ok
 cases he:inR e 0 3 with
 | false=>
  rw[show qbh c e=(c,false) by unfold qbh;simp[he]]
  simp only[runE,ok]
  exact qzt ⟨rfl,qaK _ _ _ _ he,rfl,trivial⟩
 | true=>
 have he:=he
 obtain⟨x0,t,x,h0,ht,hx,hl0,hl4,hpl,hgp,hsum,hs4,hb4,hc4,hxs⟩:=qpG ok he
 have he':0≤e∧e≤3:=by simpa only[inR,zi]using he
 obtain⟨tE0,tE1,tE2⟩:=qpB ht
 obtain⟨wE0,wE1,wE2⟩:=qbM hx
 obtain⟨zE0,zE1,zE2⟩:=qbM h0
 obtain⟨sE1,sE2⟩:=int4 hs4 he'
 obtain⟨kE1,kE2⟩:=bool4 hb4 he'
 obtain⟨cE1,cE2⟩:=bool4 hc4 he'
 have hsz:=qbS hx hc
 have hdl:x.dones.length≤8388608:=by simp only[Worker.sz]at hsz;omega
 have hll:(↑(c.workers.map Worker.e).length:Int)=(c.workers.length:Int):=by rw[zb]
 cases hd:qbQ x0 e with
 | true=>
  rw[show qbh c e=(c,false) by unfold qbh;simp only[ok,he,Bool.and_self,zaw,h0,ht,hd]]
  simp only[runE,ok]
  exact qzu ⟨rfl,qaK _ _ _ _ he,rfl,qpH c e x0 true h0 hd hc,rfl,trivial⟩
 | false=>
 rw[qpF ok he h0 ht hd hx]at post ⊢
 have rd:=qpH c e x0 false h0 hd hc
 have wi:=qaK _ _ _ _ he
 cases hp:qds x e with
 | false=>
  rw[show qaH c e t x=(c,false) by unfold qaH;simp[hp]]
  simp only[runE,ok]
  exact qzv ⟨rfl,wi,rfl,rd,rfl,tE0,tE1,tE2,wE0,wE1,wE2,qpz x e _ hp hsz,rfl,trivial⟩
 | true=>
 have pa:=qpz x e _ hp hsz
 have ei:inInt .i64 (t.sum+x.sums.getD e.toNat 0):=⟨by omega,by omega⟩
 simp only[runE,ok,post]
 clear post
 obtain⟨tg,tp,ts,tb,tc⟩:=t
 dsimp only at*
 cases tg with
 | false=>
  obtain rfl:tp=0:=hgp rfl
  rw[show qaH c e ⟨false,0,ts,tb,tc⟩ x=(setW (setT c e ⟨true,(c.workers.length:Int)-1,0,false,x.caps.getD e.toNat false⟩) 0 (qb5 x e),true) by simp only[qaH,hp,zaw,zaz]]
  dsimp only
  rw[qpE,qiu,←hll]
  exact qzw ⟨rfl,wi,rfl,rd,rfl,tE0,tE1,tE2,wE0,wE1,wE2,pa,rfl,tE0,sE1,sE2,ei,rfl,⟨by omega,by omega⟩,tE0,cE1,cE2,tE0,tE1,tE2,by omega,wE1,wE2,tE0,kE1,kE2,wE2,rfl,rfl,rfl,rfl,rfl,trivial⟩
 | true=>
 by_cases hp0:0<tp
 case pos=>
  have dp:decide (tp>0)=true:=dT hp0
  cases hr:inR (ts+x.sums.getD e.toNat 0) (-1000000) 1000000 with
  | false=>
   rw[show qaH c e ⟨true,tp,ts,tb,tc⟩ x=(c,false) by simp only[qaH,hp,zaw,zY,zam,zcp,hp0,hr]]
   exact qzx ⟨rfl,wi,rfl,rd,rfl,tE0,tE1,tE2,wE0,wE1,wE2,pa,rfl,tE0,sE1,sE2,ei,rfl,dp,qaK _ _ _ _ hr,rfl,trivial⟩
  | true=>
   have e1:qaH c e ⟨true,tp,ts,tb,tc⟩ x=(setW (setT c e ⟨true,tp-1,ts+x.sums.getD e.toNat 0,tb||x.black.getD e.toNat false,tc||x.caps.getD e.toNat false⟩) tp (qb5 x e),true):=by
    simp only[qaH,hp,zaw,zY,zam,zcp,hp0,hr]
   rw[e1]
   dsimp only
   rw[qpE,qiu]
   have wr:=qaK _ _ _ _ hr
   cases tb with
   | true=>
    cases tc with
    | true=>exact qzy ⟨rfl,wi,rfl,rd,rfl,tE0,tE1,tE2,wE0,wE1,wE2,pa,rfl,tE0,sE1,sE2,ei,rfl,dp,wr,rfl,⟨by omega,by omega⟩,rfl,rfl,tE0,tE1,tE2,wE0,wE1,wE2,tE0,kE1,kE2,wE2,rfl,rfl,rfl,rfl,rfl,trivial⟩
    | false=>exact qzz ⟨rfl,wi,rfl,rd,rfl,tE0,tE1,tE2,wE0,wE1,wE2,pa,rfl,tE0,sE1,sE2,ei,rfl,dp,wr,rfl,⟨by omega,by omega⟩,rfl,rfl,tE0,cE1,cE2,tE0,tE1,tE2,wE0,wE1,wE2,tE0,kE1,kE2,wE2,rfl,rfl,rfl,rfl,rfl,trivial⟩
   | false=>
    cases tc with
    | true=>exact qzA ⟨rfl,wi,rfl,rd,rfl,tE0,tE1,tE2,wE0,wE1,wE2,pa,rfl,tE0,sE1,sE2,ei,rfl,dp,wr,rfl,⟨by omega,by omega⟩,rfl,tE0,kE1,kE2,rfl,tE0,tE1,tE2,wE0,wE1,wE2,tE0,kE1,kE2,wE2,rfl,rfl,rfl,rfl,rfl,rfl,rfl,trivial⟩
    | false=>exact qzB ⟨rfl,wi,rfl,rd,rfl,tE0,tE1,tE2,wE0,wE1,wE2,pa,rfl,tE0,sE1,sE2,ei,rfl,dp,wr,rfl,⟨by omega,by omega⟩,rfl,tE0,kE1,kE2,rfl,tE0,cE1,cE2,tE0,tE1,tE2,wE0,wE1,wE2,tE0,kE1,kE2,wE2,rfl,rfl,rfl,rfl,rfl,rfl,rfl,trivial⟩
 case neg=>
  obtain rfl:tp=0:=by omega
  have dp:decide ((0:Int)>0)=false:=rfl
  have e1:=fun b=>qI8 c e ⟨false,0,ts,tb,tc⟩ b
  have ends:=fun cap=>qI9 (setT c e ⟨false,0,ts,tb,tc⟩) true x e cap (qg4.trans hx) hl4 (by rw[qit];exact hc)
  rw[e1]at ends
  cases tb with
  | true=>
   rw[show qaH c e ⟨true,0,ts,true,tc⟩ x=(setT c e ⟨false,0,ts,true,tc⟩,true) by simp[qaH,hp]]
   dsimp only
   rw[e1]
   exact qzG ⟨rfl,wi,rfl,rd,rfl,tE0,tE1,tE2,wE0,wE1,wE2,pa,rfl,tE0,sE1,sE2,ei,rfl,dp,tE0,tE1,tE2,rfl,trivial⟩
  | false=>
  cases hk:x.black.getD e.toNat false with
  | true=>
   rw[hk]at kE2
   rw[show qaH c e ⟨true,0,ts,false,tc⟩ x=(setT c e ⟨false,0,ts,false,tc⟩,true) by unfold qaH;simp only[hp,hk];rfl]
   dsimp only
   rw[e1]
   exact qzF ⟨rfl,wi,rfl,rd,rfl,tE0,tE1,tE2,wE0,wE1,wE2,pa,rfl,tE0,sE1,sE2,ei,rfl,dp,tE0,tE1,tE2,rfl,tE0,kE1,kE2,rfl,trivial⟩
  | false=>
  rw[hk]at kE2
  cases hz:(ts+x.sums.getD e.toNat 0==0) with
  | false=>
   rw[show qaH c e ⟨true,0,ts,false,tc⟩ x=(setT c e ⟨false,0,ts,false,tc⟩,true) by unfold qaH;simp only[hp,hk,hz];rfl]
   dsimp only
   rw[e1]
   exact qzE ⟨rfl,wi,rfl,rd,rfl,tE0,tE1,tE2,wE0,wE1,wE2,pa,rfl,tE0,sE1,sE2,ei,rfl,dp,tE0,tE1,tE2,rfl,tE0,kE1,kE2,rfl,hz,trivial⟩
  | true=>
  rw[show qaH c e ⟨true,0,ts,false,tc⟩ x=(setN (setW (setT c e ⟨false,0,ts,false,tc⟩) 0 (told x e (tc||x.caps.getD e.toNat false))) (c.news++qbd (c.workers.length-1) e (tc||x.caps.getD e.toNat false)),true) by unfold qaH;simp only[hp,hk,hz];rfl]
  cases tc with
  | true=>exact qzC ⟨rfl,wi,rfl,rd,rfl,tE0,tE1,tE2,wE0,wE1,wE2,pa,rfl,tE0,sE1,sE2,ei,rfl,dp,tE0,tE1,tE2,rfl,tE0,kE1,kE2,rfl,hz,rfl,ends true,trivial⟩
  | false=>exact qzD ⟨rfl,wi,rfl,rd,rfl,tE0,tE1,tE2,wE0,wE1,wE2,pa,rfl,tE0,sE1,sE2,ei,rfl,dp,tE0,tE1,tE2,rfl,tE0,kE1,kE2,rfl,hz,rfl,tE0,cE1,cE2,ends _,trivial⟩
theorem qJb(c:Cluster)(e:Int)(W T:List (List D))(hlen:0<c.workers.length)(h4:c.workers.length≤4)(hc:c.sz≤8388608):qam prog (qaa f19 0) (qfP e 1 (c.graph.nodes.map Node.e) c.graph.workers c.graph.cap W (c.links.map Link.e) T (c.news.map News.e) 0 0 (c.graph.nodes.map Node.e) c.graph.workers c.graph.cap (c.workers.map Worker.e) (c.links.map Link.e) (c.tokens.map Token.e) (c.news.map News.e)) (.exit 1) (qfQ (c.graph.nodes.map Node.e) c.graph.workers c.graph.cap W (c.links.map Link.e) T ((c.news++qbd (c.workers.length-1) e true).map News.e) 0 0):=by
 have hn:=qe1 hc
 have l:=qat (P:=prog) (c:=(qaa f19 0)) (qaf 1) (c.workers.length-1) (fun i:Nat=>qfP e ((i:Int)+1) (c.graph.nodes.map Node.e) c.graph.workers c.graph.cap W (c.links.map Link.e) T ((c.news++qbd i e true).map News.e) 0 0 (c.graph.nodes.map Node.e) c.graph.workers c.graph.cap (c.workers.map Worker.e) (c.links.map Link.e) (c.tokens.map Token.e) (c.news.map News.e)) (fun i hi=>by
  have hm:=qkX i e true
  rw[qkW,←zce,zai (l₂:=[_])]
  exact qzR ⟨dT (by simp;omega),by simp;omega,by simp;omega,qas (News.flat ⟨(i:Int)+1,e,true⟩),⟨by omega,by omega⟩,trivial⟩) (qzS ⟨dF (by simp;omega),trivial⟩)
 have e0:qbd 0 e true=[]:=rfl
 rw[e0,zbe]at l
 exact l
theorem qJc(c:Cluster)(e:Int)(cap:Bool)(W T:List (List D))(hlen:0<c.workers.length)(h4:c.workers.length≤4)(hc:c.sz≤8388608):qam prog (qaa f19 0) (qfR e cap 1 (c.graph.nodes.map Node.e) c.graph.workers c.graph.cap W (c.links.map Link.e) T (c.news.map News.e) 0 0 (c.graph.nodes.map Node.e) c.graph.workers c.graph.cap (c.workers.map Worker.e) (c.links.map Link.e) (c.tokens.map Token.e) (c.news.map News.e)) (.exit 1) (qfQ (c.graph.nodes.map Node.e) c.graph.workers c.graph.cap W (c.links.map Link.e) T ((c.news++qbd (c.workers.length-1) e cap).map News.e) 0 0):=by
 have hn:=qe1 hc
 have l:=qat (P:=prog) (c:=(qaa f19 0)) (qaf 1) (c.workers.length-1) (fun i:Nat=>qfR e cap ((i:Int)+1) (c.graph.nodes.map Node.e) c.graph.workers c.graph.cap W (c.links.map Link.e) T ((c.news++qbd i e cap).map News.e) 0 0 (c.graph.nodes.map Node.e) c.graph.workers c.graph.cap (c.workers.map Worker.e) (c.links.map Link.e) (c.tokens.map Token.e) (c.news.map News.e)) (fun i hi=>by
  have hm:=qkX i e cap
  rw[qkW,←zce,zai (l₂:=[_])]
  exact qzU ⟨dT (by simp;omega),by simp;omega,by simp;omega,qas (News.flat ⟨(i:Int)+1,e,cap⟩),⟨by omega,by omega⟩,trivial⟩) (qzV ⟨dF (by simp;omega),trivial⟩)
 have e0:qbd 0 e cap=[]:=rfl
 rw[e0,zbe]at l
 exact l
theorem qJd(c:Cluster)(e:Int)(hc:c.sz≤8388608)(hw:GotLe c):Rt 19 [.agg c.e,.one (I e)] [.agg (qbh c e).1.e,.one (B (qbh c e).2)]:=by
 have cp:=qdK c hc
 have okr:=qip c hc hw
 cases ok:qai c with
 | false=>
  rw[ok]at okr
  rw[show qbh c e=(c,false) by unfold qbh;simp[ok]]
  exact qzH ⟨cp,okr,rfl,trivial⟩
 | true=>
 rw[ok]at okr
 cases he:inR e 0 3 with
 | false=>
  rw[show qbh c e=(c,false) by unfold qbh;simp[he]]
  exact qzI ⟨cp,okr,rfl,qaY _ _ _ _ he,rfl,trivial⟩
 | true=>
 have he:=he
 obtain⟨x0,t,x,h0,ht,hx,hl0,hl4,hpl,hgp,hsum,hs4,hb4,hc4,hxs⟩:=qpG ok he
 have he':0≤e∧e≤3:=by simpa only[inR,zi]using he
 obtain⟨tE0,tE1,tE2⟩:=qpB ht
 obtain⟨wE0,wE1,wE2⟩:=qbM hx
 obtain⟨zE0,zE1,zE2⟩:=qbM h0
 obtain⟨sE1,sE2⟩:=int4 hs4 he'
 obtain⟨kE1,kE2⟩:=bool4 hb4 he'
 obtain⟨cE1,cE2⟩:=bool4 hc4 he'
 have hsz:=qbS hx hc
 have hdl:x.dones.length≤8388608:=by simp only[Worker.sz]at hsz;omega
 have hll:(↑(c.workers.map Worker.e).length:Int)=(c.workers.length:Int):=by rw[zb]
 have wi:=qaY _ _ _ _ he
 cases hd:qbQ x0 e with
 | true=>
  rw[show qbh c e=(c,false) by unfold qbh;simp only[ok,he,Bool.and_self,zaw,h0,ht,hd]]
  exact qzJ ⟨cp,okr,rfl,wi,rfl,by omega,zE1,zE2,qh7 x0 e true hd (qbS h0 hc),rfl,trivial⟩
 | false=>
 have dn:=qh7 x0 e false hd (qbS h0 hc)
 rw[qpF ok he h0 ht hd hx]
 cases hp:qds x e with
 | false=>
  rw[show qaH c e t x=(c,false) by unfold qaH;simp[hp]]
  exact qzK ⟨cp,okr,rfl,wi,rfl,by omega,zE1,zE2,dn,rfl,tE0,tE1,tE2,wE0,wE1,wE2,qpA x e _ hp hsz,rfl,trivial⟩
 | true=>
 have pa:=qpA x e _ hp hsz
 have ei:inInt .i64 (t.sum+x.sums.getD e.toNat 0):=⟨by omega,by omega⟩
 obtain⟨tg,tp,ts,tb,tc⟩:=t
 dsimp only at*
 cases tg with
 | false=>
  obtain rfl:tp=0:=hgp rfl
  rw[show qaH c e ⟨false,0,ts,tb,tc⟩ x=(setW (setT c e ⟨true,(c.workers.length:Int)-1,0,false,x.caps.getD e.toNat false⟩) 0 (qb5 x e),true) by simp only[qaH,hp,zaw,zaz]]
  dsimp only
  rw[qpD,qiu,←hll]
  exact qzL ⟨cp,okr,rfl,wi,rfl,by omega,zE1,zE2,dn,rfl,tE0,tE1,tE2,wE0,wE1,wE2,pa,rfl,tE2,rfl,wE2,tE0,cE1,cE2,⟨by omega,by omega⟩,tE2,wE2,tE0,kE1,kE2,wE2,rfl,rfl,rfl,trivial⟩
 | true=>
 by_cases hp0:0<tp
 case pos=>
  have dp:decide (tp>0)=true:=dT hp0
  cases hr:inR (ts+x.sums.getD e.toNat 0) (-1000000) 1000000 with
  | false=>
   rw[show qaH c e ⟨true,tp,ts,tb,tc⟩ x=(c,false) by simp only[qaH,hp,zaw,zY,zam,zcp,hp0,hr]]
   exact qzM ⟨cp,okr,rfl,wi,rfl,by omega,zE1,zE2,dn,rfl,tE0,tE1,tE2,wE0,wE1,wE2,pa,rfl,tE2,rfl,tE2,dp,tE2,wE2,tE0,sE1,sE2,ei,qaY _ _ _ _ hr,rfl,trivial⟩
  | true=>
   have e1:qaH c e ⟨true,tp,ts,tb,tc⟩ x=(setW (setT c e ⟨true,tp-1,ts+x.sums.getD e.toNat 0,tb||x.black.getD e.toNat false,tc||x.caps.getD e.toNat false⟩) tp (qb5 x e),true):=by
    simp only[qaH,hp,zaw,zY,zam,zcp,hp0,hr]
   rw[e1]
   dsimp only
   rw[qpD,qiu]
   have wr:=qaY _ _ _ _ hr
   have k1:inInt .i64 (tp-1):=⟨by omega,by omega⟩
   cases tb with
   | true=>
    cases tc with
    | true=>
     have key:=qzN ⟨cp,okr,rfl,wi,rfl,by omega,zE1,zE2,dn,rfl,tE0,tE1,tE2,wE0,wE1,wE2,pa,rfl,tE2,rfl,tE2,dp,tE2,wE2,tE0,sE1,sE2,ei,wr,rfl,tE2,wE2,tE0,sE1,sE2,ei,tE2,gs1 tE0 tE1,rfl,gs1 tE0 tE1,gs2 tE0 tE1,rfl,gs2 tE0 tE1,wE2,tE0,kE1,kE2,wE2,rfl,rfl,rfl,gs3 tE0 tE1,k1,gs3 tE0 tE1,trivial⟩
     simp only[zak]at key
     exact key
    | false=>
     have key:=qzO ⟨cp,okr,rfl,wi,rfl,by omega,zE1,zE2,dn,rfl,tE0,tE1,tE2,wE0,wE1,wE2,pa,rfl,tE2,rfl,tE2,dp,tE2,wE2,tE0,sE1,sE2,ei,wr,rfl,tE2,wE2,tE0,sE1,sE2,ei,tE2,gs1 tE0 tE1,rfl,gs1 tE0 tE1,gs2 tE0 tE1,rfl,wE2,tE0,cE1,cE2,gs2 tE0 tE1,wE2,tE0,kE1,kE2,wE2,rfl,rfl,rfl,gs3 tE0 tE1,k1,gs3 tE0 tE1,trivial⟩
     simp only[zak]at key
     exact key
   | false=>
    cases tc with
    | true=>
     have key:=qzP ⟨cp,okr,rfl,wi,rfl,by omega,zE1,zE2,dn,rfl,tE0,tE1,tE2,wE0,wE1,wE2,pa,rfl,tE2,rfl,tE2,dp,tE2,wE2,tE0,sE1,sE2,ei,wr,rfl,tE2,wE2,tE0,sE1,sE2,ei,tE2,gs1 tE0 tE1,rfl,wE2,tE0,kE1,kE2,gs1 tE0 tE1,gs2 tE0 tE1,rfl,gs2 tE0 tE1,wE2,tE0,kE1,kE2,wE2,rfl,rfl,rfl,rfl,rfl,gs3 tE0 tE1,k1,gs3 tE0 tE1,trivial⟩
     simp only[zak]at key
     exact key
    | false=>
     have key:=qzQ ⟨cp,okr,rfl,wi,rfl,by omega,zE1,zE2,dn,rfl,tE0,tE1,tE2,wE0,wE1,wE2,pa,rfl,tE2,rfl,tE2,dp,tE2,wE2,tE0,sE1,sE2,ei,wr,rfl,tE2,wE2,tE0,sE1,sE2,ei,tE2,gs1 tE0 tE1,rfl,wE2,tE0,kE1,kE2,gs1 tE0 tE1,gs2 tE0 tE1,rfl,wE2,tE0,cE1,cE2,gs2 tE0 tE1,wE2,tE0,kE1,kE2,wE2,rfl,rfl,rfl,rfl,rfl,gs3 tE0 tE1,k1,gs3 tE0 tE1,trivial⟩
     simp only[zak]at key
     exact key
 case neg=>
  obtain rfl:tp=0:=by omega
  have dp:decide ((0:Int)>0)=false:=rfl
  cases tb with
  | true=>
   rw[show qaH c e ⟨true,0,ts,true,tc⟩ x=(setT c e ⟨false,0,ts,true,tc⟩,true) by simp[qaH,hp]]
   dsimp only
   rw[qkV]
   exact qzZ ⟨cp,okr,rfl,wi,rfl,by omega,zE1,zE2,dn,rfl,tE0,tE1,tE2,wE0,wE1,wE2,pa,rfl,tE2,rfl,tE2,dp,tE2,gs1 tE0 tE1,rfl,trivial⟩
  | false=>
  cases hk:x.black.getD e.toNat false with
  | true=>
   rw[hk]at kE2
   rw[show qaH c e ⟨true,0,ts,false,tc⟩ x=(setT c e ⟨false,0,ts,false,tc⟩,true) by unfold qaH;simp only[hp,hk];rfl]
   dsimp only
   rw[qkV]
   exact qzY ⟨cp,okr,rfl,wi,rfl,by omega,zE1,zE2,dn,rfl,tE0,tE1,tE2,wE0,wE1,wE2,pa,rfl,tE2,rfl,tE2,dp,tE2,gs1 tE0 tE1,rfl,wE2,tE0,kE1,kE2,rfl,trivial⟩
  | false=>
  rw[hk]at kE2
  cases hz:(ts+x.sums.getD e.toNat 0==0) with
  | false=>
   rw[show qaH c e ⟨true,0,ts,false,tc⟩ x=(setT c e ⟨false,0,ts,false,tc⟩,true) by unfold qaH;simp only[hp,hk,hz];rfl]
   dsimp only
   rw[qkV]
   exact qzX ⟨cp,okr,rfl,wi,rfl,by omega,zE1,zE2,dn,rfl,tE0,tE1,tE2,wE0,wE1,wE2,pa,rfl,tE2,rfl,tE2,dp,tE2,gs1 tE0 tE1,rfl,wE2,tE0,kE1,kE2,rfl,gs1 tE0 tE1,wE2,tE0,sE1,sE2,ei,hz,trivial⟩
  | true=>
  rw[show qaH c e ⟨true,0,ts,false,tc⟩ x=(setN (setW (setT c e ⟨false,0,ts,false,tc⟩) 0 (told x e (tc||x.caps.getD e.toNat false))) (c.news++qbd (c.workers.length-1) e (tc||x.caps.getD e.toNat false)),true) by unfold qaH;simp only[hp,hk,hz];rfl]
  have e4:∀cap,(setN (setW (setT c e ⟨false,0,ts,false,tc⟩) 0 (told x e cap)) (c.news++qbd (c.workers.length-1) e cap)).e=[.sl 4 (c.graph.nodes.map Node.e),I c.graph.workers,I c.graph.cap,.sl 8 ((c.workers.map Worker.e).set 0 [.sl 5 (x.queue.map Record.e),.sl 5 (x.staged.map Record.e),.sl 5 (x.inputs.map Record.e),.sl 4 (x.cells.map Cell.e),.sl 1 (x.sums.map eI),.sl 1 (x.black.map eB),.sl 1 (x.caps.map eB),.sl 2 (x.dones.map Done.e++[[I e,B cap]])]),.sl 6 (c.links.map Link.e),.sl 5 ((c.tokens.map Token.e).set e.toNat (Token.e ⟨false,0,ts,false,tc⟩)),.sl 3 ((c.news++qbd (c.workers.length-1) e cap).map News.e)]:=fun cap=>by
   rw[←qpC]
   simp only[setN,setW,setT,Cluster.e,zaq]
   rfl
  cases tc with
  | true=>
   dsimp only[Bool.true_or]
   rw[e4]
   exact qzT ⟨cp,okr,rfl,wi,rfl,by omega,zE1,zE2,dn,rfl,tE0,tE1,tE2,wE0,wE1,wE2,pa,rfl,tE2,rfl,tE2,dp,tE2,gs1 tE0 tE1,rfl,wE2,tE0,kE1,kE2,rfl,gs1 tE0 tE1,wE2,tE0,sE1,sE2,ei,hz,gs1 tE0 tE1,rfl,wE2,by simp;omega,by simp;omega,wE2,rfl,rfl,rfl,qas (Done.flat ⟨e,true⟩),wE2,rfl,qJb c e _ _ hl0 hl4 hc,trivial⟩
  | false=>
   dsimp only[zaj]
   rw[e4]
   exact qzW ⟨cp,okr,rfl,wi,rfl,by omega,zE1,zE2,dn,rfl,tE0,tE1,tE2,wE0,wE1,wE2,pa,rfl,tE2,rfl,tE2,dp,tE2,gs1 tE0 tE1,rfl,wE2,tE0,kE1,kE2,rfl,gs1 tE0 tE1,wE2,tE0,sE1,sE2,ei,hz,gs1 tE0 tE1,rfl,wE2,tE0,cE1,cE2,wE2,by simp;omega,by simp;omega,wE2,rfl,rfl,rfl,qas (Done.flat ⟨e,_⟩),wE2,rfl,qJc c e _ _ _ hl0 hl4 hc,trivial⟩
end Go.Proofs.YtdanpadojemjeaaGreat
