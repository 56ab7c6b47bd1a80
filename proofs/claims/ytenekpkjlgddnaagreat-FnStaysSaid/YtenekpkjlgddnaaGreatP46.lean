/- TokenStep: what program and reference compute. -/
import Derived.Test.YtenekpkjlgddnaaGreatP43
import Derived.Test.YtenekpkjlgddnaaGreatGW
import Derived.Test.YtenekpkjlgddnaaGreatGX
set_option linter.unusedVariables false
set_option linter.unusedSimpArgs false
namespace Go.Proofs.YtenekpkjlgddnaaGreat
open Go.Sx Go.RowKit Go.Proofs.Tryz
theorem beq0(a b:Nat):(((a:Int)+(b:Int))==0)=(a+b==0):=by
 rw[Bool.eq_iff_iff];simp only[zE];omega
theorem qxO(w:Worker)(e:Int)(hw:w.sz≤8388608):Rt 67 [.agg w.e,.one (I e)] [.one (B (qic w e))]:=by
 have hl:w.inputs.length≤8388608:=by simp only[Worker.sz]at hw;omega
 exact qwT ⟨qtB w.inputs (fun r=>decide (r.stamp.epoch≤e)) 84 [.ptr [I e]] hl (by kernel_rfl) (fun x _=>qwU trivial),trivial⟩
theorem qxP(w:Worker)(e:Int)(hw:w.sz≤8388608):Rt 68 [.agg w.e,.one (I e)] [.one (I ((↑((qdH e w.queue).map Record.e).length:Int)+(↑((qdH e w.staged).map Record.e).length:Int)))]:=by
 simp only[Worker.sz]at hw
 have k1:(qdH e w.queue).length≤w.queue.length:=zat _ _
 have k2:(qdH e w.staged).length≤w.staged.length:=zat _ _
 exact qwX ⟨qk7 w.queue e (by omega),qk7 w.staged e (by omega),⟨by simp only[zb];omega,by simp only[zb];omega⟩,trivial⟩
theorem qxQ(w:Worker)(e:Int)(hw:w.sz≤8388608):Rt 50 [.agg w.e,.one (I e)] [.one (B (qeX w e))]:=by
 have o:=qxO w e hw
 unfold qeX
 cases h:qic w e with
 | true=>rw[h]at o;exact qwW ⟨o,rfl,trivial⟩
 | false=>
  rw[h]at o
  have a:=qxP w e hw
  rw[zb,zb]at a
  have b:=qwV ⟨o,rfl,a,trivial⟩
  rw[beq0]at b
  exact b
theorem qlT(w:Worker)(e:Int)(r:Bool)(h:qeX w e=r)(hw:w.sz≤8388608):Rt 50 [.agg w.e,.one (I e)] [.one (B r)]:=h▸qxQ w e hw
end Go.Proofs.YtenekpkjlgddnaaGreat
namespace Go.Proofs.YtenekpkjlgddnaaGreat
open Go.Sx Go.RowKit Go.Proofs.Tryz
theorem qxR{c:Cluster}{i:Int}{t:Token}(h:tAt c i=some t):0≤i∧i<(↑(c.tokens.map Token.e).length:Int)∧(c.tokens.map Token.e)[i.toNat]?=some t.e:=by
 obtain⟨h1,h2,h3⟩:=qls h
 exact⟨h1,by rw[zb];omega,qac Token.e h3⟩
theorem int4{xs:List Int}{e:Int}(h4:xs.length=4)(he:0≤e∧e≤3):e<(↑(xs.map eI).length:Int)∧(xs.map eI)[e.toNat]?=some [I (xs.getD e.toNat 0)]:=by
 have hl:e.toNat<xs.length:=by omega
 refine⟨by rw[zb];omega,?_⟩
 rw[zr,zu hl,zN,zu hl]
 rfl
theorem bool4{xs:List Bool}{e:Int}(h4:xs.length=4)(he:0≤e∧e≤3):e<(↑(xs.map eB).length:Int)∧(xs.map eB)[e.toNat]?=some [B (xs.getD e.toNat false)]:=by
 have hl:e.toNat<xs.length:=by omega
 refine⟨by rw[zb];omega,?_⟩
 rw[zr,zu hl,zN,zu hl]
 rfl
theorem gs1{l:List (List D)}{i:Int}{a:List D}(h0:0≤i)(h:i<(↑l.length:Int)):(l.set i.toNat a)[i.toNat]?=some a:=List.getElem?_set_self (by omega)
theorem gs2{l:List (List D)}{i:Int}{a b:List D}(h0:0≤i)(h:i<(↑l.length:Int)):((l.set i.toNat a).set i.toNat b)[i.toNat]?=some b:=by rw[zam];exact gs1 h0 h
theorem gs3{l:List (List D)}{i:Int}{a b d:List D}(h0:0≤i)(h:i<(↑l.length:Int)):(((l.set i.toNat a).set i.toNat b).set i.toNat d)[i.toNat]?=some d:=by rw[zam,zam];exact gs1 h0 h
theorem qlU(x:Worker)(e:Int):(qcd x e).e=[.sl 5 (x.queue.map Record.e),.sl 5 (x.staged.map Record.e),.sl 5 (x.inputs.map Record.e),.sl 4 (x.cells.map Cell.e),.sl 1 (x.sums.map eI),.sl 1 ((x.black.map eB).set e.toNat [B false]),.sl 1 (x.caps.map eB),.sl 2 (x.dones.map Done.e)]:=by
 simp only[qcd,Worker.e,zau];rfl
theorem qxS(x:Worker)(e:Int)(b:Bool):(told x e b).e=[.sl 5 (x.queue.map Record.e),.sl 5 (x.staged.map Record.e),.sl 5 (x.inputs.map Record.e),.sl 4 (x.cells.map Cell.e),.sl 1 (x.sums.map eI),.sl 1 (x.black.map eB),.sl 1 (x.caps.map eB),.sl 2 (x.dones.map Done.e++[[I e,B b]])]:=by
 simp only[told,Worker.e,zU];rfl
theorem qlV(c:Cluster)(e p:Int)(t:Token)(y:Worker):(setW (setT c e t) p y).e=[.sl 4 (c.graph.nodes.map Node.e),I c.graph.workers,I c.graph.cap,.sl 8 ((c.workers.map Worker.e).set p.toNat y.e),.sl 6 (c.links.map Link.e),.sl 5 ((c.tokens.map Token.e).set e.toNat t.e),.sl 3 (c.news.map News.e)]:=by
 simp only[setW,setT,Cluster.e,zau]
theorem qiq(c:Cluster)(e:Int)(t:Token):(setT c e t).e=[.sl 4 (c.graph.nodes.map Node.e),I c.graph.workers,I c.graph.cap,.sl 8 (c.workers.map Worker.e),.sl 6 (c.links.map Link.e),.sl 5 ((c.tokens.map Token.e).set e.toNat t.e),.sl 3 (c.news.map News.e)]:=by
 simp only[setT,Cluster.e,zau]
theorem qlW(n:Nat)(e:Int)(b:Bool):qa2 (n+1) e b=qa2 n e b++[⟨(n:Int)+1,e,b⟩]:=by simp[qa2,List.range_succ]
theorem qlX(n:Nat)(e:Int)(b:Bool):(qa2 n e b).length=n:=by simp[qa2]
theorem qxT{c:Cluster}{e:Int}{x0 x:Worker}{t:Token}(ok:qam c=true)(he:inR e 0 3=true)(h0:wAt c 0=some x0)(ht:tAt c e=some t)(hd:qdI x0 e=false)(hx:wAt c t.place=some x):qbt c e=qaK c e t x:=by
 unfold qbt
 simp only[ok,he,Bool.and_self,zbb,h0,ht,hd,zao,zci,hx]
theorem qxU{c:Cluster}{e:Int}(ok:qam c=true)(he:inR e 0 3=true):∃x0 t x,wAt c 0=some x0∧tAt c e=some t∧wAt c t.place=some x∧0<c.workers.length∧c.workers.length≤4∧
  (0≤t.place∧t.place≤3)∧(t.going=false→t.place=0)∧(-1000000≤t.sum∧t.sum≤1000000)∧x.sums.length=4∧x.black.length=4∧x.caps.length=4∧(-1000000≤x.sums.getD e.toNat 0∧x.sums.getD e.toNat 0≤1000000):=by
 obtain⟨h1,h2,h3,h4,h5,h6,h7,h8⟩:=qbD.1 ok
 have hn:=qcF h1
 obtain⟨x0,h0⟩:=qga (c:=c) (i:=0) (by omega) (by omega)
 obtain⟨t,ht⟩:=qvS ok he
 obtain⟨t1,t2,t3⟩:=qvT.1 (qvN ok ht)
 obtain⟨x,hx⟩:=qga (c:=c) (i:=t.place) (by omega) (by omega)
 obtain⟨_,_,_,_,k5,k6,k7,_,k9,_⟩:=qeY.1 (qid ok hx)
 refine⟨x0,t,x,h0,ht,hx,by omega,by omega,by omega,t2,t3,k5,k6,k7,?_⟩
 simp only[inR,zi]at he
 have hl:e.toNat<x.sums.length:=by omega
 rw[zP]at k9
 have:=k9 _ (zax hl)
 rw[zN,zu hl,zV]
 simpa only[qdN,zS,zX,inR,zi,zbt,Bool.not_not,Bool.not_eq_eq_eq_not,zZ,zf,Classical.not_not]using this
theorem qxV(c:Cluster)(e:Int)(W T:List (List D))(hlen:0<c.workers.length)(h4:c.workers.length≤4)(hc:c.sz≤8388608):qai prog (qab f23 0) (qeh e 1 (c.graph.nodes.map Node.e) c.graph.workers c.graph.cap W (c.links.map Link.e) T (c.news.map News.e) 0 0 (c.graph.nodes.map Node.e) c.graph.workers c.graph.cap (c.workers.map Worker.e) (c.links.map Link.e) (c.tokens.map Token.e) (c.news.map News.e)) (.exit 1) (qei (c.graph.nodes.map Node.e) c.graph.workers c.graph.cap W (c.links.map Link.e) T ((c.news++qa2 (c.workers.length-1) e true).map News.e) 0 0):=by
 have hn:=qf6 hc
 have l:=qaT (P:=prog) (c:=(qab f23 0)) (qaj 1) (c.workers.length-1) (fun i:Nat=>qeh e ((i:Int)+1) (c.graph.nodes.map Node.e) c.graph.workers c.graph.cap W (c.links.map Link.e) T ((c.news++qa2 i e true).map News.e) 0 0 (c.graph.nodes.map Node.e) c.graph.workers c.graph.cap (c.workers.map Worker.e) (c.links.map Link.e) (c.tokens.map Token.e) (c.news.map News.e)) (fun i hi=>by
  have hm:=qlX i e true
  rw[qlW,←zba,zU (l₂:=[_])]
  exact qwK ⟨dT (by simp;omega),by simp;omega,by simp;omega,qbA (News.flat ⟨(i:Int)+1,e,true⟩),⟨by omega,by omega⟩,trivial⟩) (qwL ⟨dF (by simp;omega),trivial⟩)
 have e0:qa2 0 e true=[]:=rfl
 rw[e0,zaa]at l
 exact l
theorem qxW(c:Cluster)(e:Int)(cap:Bool)(W T:List (List D))(hlen:0<c.workers.length)(h4:c.workers.length≤4)(hc:c.sz≤8388608):qai prog (qab f23 0) (qej e cap 1 (c.graph.nodes.map Node.e) c.graph.workers c.graph.cap W (c.links.map Link.e) T (c.news.map News.e) 0 0 (c.graph.nodes.map Node.e) c.graph.workers c.graph.cap (c.workers.map Worker.e) (c.links.map Link.e) (c.tokens.map Token.e) (c.news.map News.e)) (.exit 1) (qei (c.graph.nodes.map Node.e) c.graph.workers c.graph.cap W (c.links.map Link.e) T ((c.news++qa2 (c.workers.length-1) e cap).map News.e) 0 0):=by
 have hn:=qf6 hc
 have l:=qaT (P:=prog) (c:=(qab f23 0)) (qaj 1) (c.workers.length-1) (fun i:Nat=>qej e cap ((i:Int)+1) (c.graph.nodes.map Node.e) c.graph.workers c.graph.cap W (c.links.map Link.e) T ((c.news++qa2 i e cap).map News.e) 0 0 (c.graph.nodes.map Node.e) c.graph.workers c.graph.cap (c.workers.map Worker.e) (c.links.map Link.e) (c.tokens.map Token.e) (c.news.map News.e)) (fun i hi=>by
  have hm:=qlX i e cap
  rw[qlW,←zba,zU (l₂:=[_])]
  exact qwN ⟨dT (by simp;omega),by simp;omega,by simp;omega,qbA (News.flat ⟨(i:Int)+1,e,cap⟩),⟨by omega,by omega⟩,trivial⟩) (qwO ⟨dF (by simp;omega),trivial⟩)
 have e0:qa2 0 e cap=[]:=rfl
 rw[e0,zaa]at l
 exact l
theorem qxX(c:Cluster)(e:Int)(hc:c.sz≤8388608)(hw:GotLe c):Rt 23 [.agg c.e,.one (I e)] [.agg (qbt c e).1.e,.one (B (qbt c e).2)]:=by
 have cp:=qda c hc
 have okr:=qf7 c hc hw
 cases ok:qam c with
 | false=>
  rw[ok]at okr
  rw[show qbt c e=(c,false) by unfold qbt;simp[ok]]
  exact qwA ⟨cp,okr,rfl,trivial⟩
 | true=>
 rw[ok]at okr
 cases he:inR e 0 3 with
 | false=>
  rw[show qbt c e=(c,false) by unfold qbt;simp[he]]
  exact qwB ⟨cp,okr,rfl,qay _ _ _ _ he,rfl,trivial⟩
 | true=>
 have he:=he
 obtain⟨x0,t,x,h0,ht,hx,hl0,hl4,hpl,hgp,hsum,hs4,hb4,hc4,hxs⟩:=qxU ok he
 have he':0≤e∧e≤3:=by simpa only[inR,zi]using he
 obtain⟨tE0,tE1,tE2⟩:=qxR ht
 obtain⟨wE0,wE1,wE2⟩:=qdP hx
 obtain⟨zE0,zE1,zE2⟩:=qdP h0
 obtain⟨sE1,sE2⟩:=int4 hs4 he'
 obtain⟨kE1,kE2⟩:=bool4 hb4 he'
 obtain⟨cE1,cE2⟩:=bool4 hc4 he'
 have hsz:=qdc hx hc
 have hdl:x.dones.length≤8388608:=by simp only[Worker.sz]at hsz;omega
 have hll:(↑(c.workers.map Worker.e).length:Int)=(c.workers.length:Int):=by rw[zb]
 have wi:=qay _ _ _ _ he
 cases hd:qdI x0 e with
 | true=>
  rw[show qbt c e=(c,false) by unfold qbt;simp only[ok,he,Bool.and_self,zbb,h0,ht,hd]]
  exact qwC ⟨cp,okr,rfl,wi,rfl,by omega,zE1,zE2,qge x0 e true hd (qdc h0 hc),rfl,trivial⟩
 | false=>
 have dn:=qge x0 e false hd (qdc h0 hc)
 rw[qxT ok he h0 ht hd hx]
 cases hp:qeX x e with
 | false=>
  rw[show qaK c e t x=(c,false) by unfold qaK;simp[hp]]
  exact qwD ⟨cp,okr,rfl,wi,rfl,by omega,zE1,zE2,dn,rfl,tE0,tE1,tE2,wE0,wE1,wE2,qlT x e _ hp hsz,rfl,trivial⟩
 | true=>
 have pa:=qlT x e _ hp hsz
 have ei:inInt .i64 (t.sum+x.sums.getD e.toNat 0):=⟨by omega,by omega⟩
 obtain⟨tg,tp,ts,tb,tc⟩:=t
 dsimp only at*
 cases tg with
 | false=>
  obtain rfl:tp=0:=hgp rfl
  rw[show qaK c e ⟨false,0,ts,tb,tc⟩ x=(setW (setT c e ⟨true,(c.workers.length:Int)-1,0,false,x.caps.getD e.toNat false⟩) 0 (qcd x e),true) by simp only[qaK,hp,zbb,zbc]]
  dsimp only
  rw[qlV,qlU,←hll]
  exact qwE ⟨cp,okr,rfl,wi,rfl,by omega,zE1,zE2,dn,rfl,tE0,tE1,tE2,wE0,wE1,wE2,pa,rfl,tE2,rfl,wE2,tE0,cE1,cE2,⟨by omega,by omega⟩,tE2,wE2,tE0,kE1,kE2,wE2,rfl,rfl,rfl,trivial⟩
 | true=>
 by_cases hp0:0<tp
 case pos=>
  have dp:decide (tp>0)=true:=dT hp0
  cases hr:inR (ts+x.sums.getD e.toNat 0) (-1000000) 1000000 with
  | false=>
   rw[show qaK c e ⟨true,tp,ts,tb,tc⟩ x=(c,false) by simp only[qaK,hp,zbb,zZ,zao,zci,hp0,hr]]
   exact qwF ⟨cp,okr,rfl,wi,rfl,by omega,zE1,zE2,dn,rfl,tE0,tE1,tE2,wE0,wE1,wE2,pa,rfl,tE2,rfl,tE2,dp,tE2,wE2,tE0,sE1,sE2,ei,qay _ _ _ _ hr,rfl,trivial⟩
  | true=>
   have e1:qaK c e ⟨true,tp,ts,tb,tc⟩ x=(setW (setT c e ⟨true,tp-1,ts+x.sums.getD e.toNat 0,tb||x.black.getD e.toNat false,tc||x.caps.getD e.toNat false⟩) tp (qcd x e),true):=by
    simp only[qaK,hp,zbb,zZ,zao,zci,hp0,hr]
   rw[e1]
   dsimp only
   rw[qlV,qlU]
   have wr:=qay _ _ _ _ hr
   have k1:inInt .i64 (tp-1):=⟨by omega,by omega⟩
   cases tb with
   | true=>
    cases tc with
    | true=>
     have key:=qwG ⟨cp,okr,rfl,wi,rfl,by omega,zE1,zE2,dn,rfl,tE0,tE1,tE2,wE0,wE1,wE2,pa,rfl,tE2,rfl,tE2,dp,tE2,wE2,tE0,sE1,sE2,ei,wr,rfl,tE2,wE2,tE0,sE1,sE2,ei,tE2,gs1 tE0 tE1,rfl,gs1 tE0 tE1,gs2 tE0 tE1,rfl,gs2 tE0 tE1,wE2,tE0,kE1,kE2,wE2,rfl,rfl,rfl,gs3 tE0 tE1,k1,gs3 tE0 tE1,trivial⟩
     simp only[zam]at key
     exact key
    | false=>
     have key:=qwH ⟨cp,okr,rfl,wi,rfl,by omega,zE1,zE2,dn,rfl,tE0,tE1,tE2,wE0,wE1,wE2,pa,rfl,tE2,rfl,tE2,dp,tE2,wE2,tE0,sE1,sE2,ei,wr,rfl,tE2,wE2,tE0,sE1,sE2,ei,tE2,gs1 tE0 tE1,rfl,gs1 tE0 tE1,gs2 tE0 tE1,rfl,wE2,tE0,cE1,cE2,gs2 tE0 tE1,wE2,tE0,kE1,kE2,wE2,rfl,rfl,rfl,gs3 tE0 tE1,k1,gs3 tE0 tE1,trivial⟩
     simp only[zam]at key
     exact key
   | false=>
    cases tc with
    | true=>
     have key:=qwI ⟨cp,okr,rfl,wi,rfl,by omega,zE1,zE2,dn,rfl,tE0,tE1,tE2,wE0,wE1,wE2,pa,rfl,tE2,rfl,tE2,dp,tE2,wE2,tE0,sE1,sE2,ei,wr,rfl,tE2,wE2,tE0,sE1,sE2,ei,tE2,gs1 tE0 tE1,rfl,wE2,tE0,kE1,kE2,gs1 tE0 tE1,gs2 tE0 tE1,rfl,gs2 tE0 tE1,wE2,tE0,kE1,kE2,wE2,rfl,rfl,rfl,rfl,rfl,gs3 tE0 tE1,k1,gs3 tE0 tE1,trivial⟩
     simp only[zam]at key
     exact key
    | false=>
     have key:=qwJ ⟨cp,okr,rfl,wi,rfl,by omega,zE1,zE2,dn,rfl,tE0,tE1,tE2,wE0,wE1,wE2,pa,rfl,tE2,rfl,tE2,dp,tE2,wE2,tE0,sE1,sE2,ei,wr,rfl,tE2,wE2,tE0,sE1,sE2,ei,tE2,gs1 tE0 tE1,rfl,wE2,tE0,kE1,kE2,gs1 tE0 tE1,gs2 tE0 tE1,rfl,wE2,tE0,cE1,cE2,gs2 tE0 tE1,wE2,tE0,kE1,kE2,wE2,rfl,rfl,rfl,rfl,rfl,gs3 tE0 tE1,k1,gs3 tE0 tE1,trivial⟩
     simp only[zam]at key
     exact key
 case neg=>
  obtain rfl:tp=0:=by omega
  have dp:decide ((0:Int)>0)=false:=rfl
  cases tb with
  | true=>
   rw[show qaK c e ⟨true,0,ts,true,tc⟩ x=(setT c e ⟨false,0,ts,true,tc⟩,true) by simp[qaK,hp]]
   dsimp only
   rw[qiq]
   exact qwS ⟨cp,okr,rfl,wi,rfl,by omega,zE1,zE2,dn,rfl,tE0,tE1,tE2,wE0,wE1,wE2,pa,rfl,tE2,rfl,tE2,dp,tE2,gs1 tE0 tE1,rfl,trivial⟩
  | false=>
  cases hk:x.black.getD e.toNat false with
  | true=>
   rw[hk]at kE2
   rw[show qaK c e ⟨true,0,ts,false,tc⟩ x=(setT c e ⟨false,0,ts,false,tc⟩,true) by unfold qaK;simp only[hp,hk];rfl]
   dsimp only
   rw[qiq]
   exact qwR ⟨cp,okr,rfl,wi,rfl,by omega,zE1,zE2,dn,rfl,tE0,tE1,tE2,wE0,wE1,wE2,pa,rfl,tE2,rfl,tE2,dp,tE2,gs1 tE0 tE1,rfl,wE2,tE0,kE1,kE2,rfl,trivial⟩
  | false=>
  rw[hk]at kE2
  cases hz:(ts+x.sums.getD e.toNat 0==0) with
  | false=>
   rw[show qaK c e ⟨true,0,ts,false,tc⟩ x=(setT c e ⟨false,0,ts,false,tc⟩,true) by unfold qaK;simp only[hp,hk,hz];rfl]
   dsimp only
   rw[qiq]
   exact qwQ ⟨cp,okr,rfl,wi,rfl,by omega,zE1,zE2,dn,rfl,tE0,tE1,tE2,wE0,wE1,wE2,pa,rfl,tE2,rfl,tE2,dp,tE2,gs1 tE0 tE1,rfl,wE2,tE0,kE1,kE2,rfl,gs1 tE0 tE1,wE2,tE0,sE1,sE2,ei,hz,trivial⟩
  | true=>
  rw[show qaK c e ⟨true,0,ts,false,tc⟩ x=(setN (setW (setT c e ⟨false,0,ts,false,tc⟩) 0 (told x e (tc||x.caps.getD e.toNat false))) (c.news++qa2 (c.workers.length-1) e (tc||x.caps.getD e.toNat false)),true) by unfold qaK;simp only[hp,hk,hz];rfl]
  have e4:∀cap,(setN (setW (setT c e ⟨false,0,ts,false,tc⟩) 0 (told x e cap)) (c.news++qa2 (c.workers.length-1) e cap)).e=[.sl 4 (c.graph.nodes.map Node.e),I c.graph.workers,I c.graph.cap,.sl 8 ((c.workers.map Worker.e).set 0 [.sl 5 (x.queue.map Record.e),.sl 5 (x.staged.map Record.e),.sl 5 (x.inputs.map Record.e),.sl 4 (x.cells.map Cell.e),.sl 1 (x.sums.map eI),.sl 1 (x.black.map eB),.sl 1 (x.caps.map eB),.sl 2 (x.dones.map Done.e++[[I e,B cap]])]),.sl 6 (c.links.map Link.e),.sl 5 ((c.tokens.map Token.e).set e.toNat (Token.e ⟨false,0,ts,false,tc⟩)),.sl 3 ((c.news++qa2 (c.workers.length-1) e cap).map News.e)]:=fun cap=>by
   rw[←qxS]
   simp only[setN,setW,setT,Cluster.e,zau]
   rfl
  cases tc with
  | true=>
   dsimp only[Bool.true_or]
   rw[e4]
   exact qwM ⟨cp,okr,rfl,wi,rfl,by omega,zE1,zE2,dn,rfl,tE0,tE1,tE2,wE0,wE1,wE2,pa,rfl,tE2,rfl,tE2,dp,tE2,gs1 tE0 tE1,rfl,wE2,tE0,kE1,kE2,rfl,gs1 tE0 tE1,wE2,tE0,sE1,sE2,ei,hz,gs1 tE0 tE1,rfl,wE2,by simp;omega,by simp;omega,wE2,rfl,rfl,rfl,qbA (Done.flat ⟨e,true⟩),wE2,rfl,qxV c e _ _ hl0 hl4 hc,trivial⟩
  | false=>
   dsimp only[zal]
   rw[e4]
   exact qwP ⟨cp,okr,rfl,wi,rfl,by omega,zE1,zE2,dn,rfl,tE0,tE1,tE2,wE0,wE1,wE2,pa,rfl,tE2,rfl,tE2,dp,tE2,gs1 tE0 tE1,rfl,wE2,tE0,kE1,kE2,rfl,gs1 tE0 tE1,wE2,tE0,sE1,sE2,ei,hz,gs1 tE0 tE1,rfl,wE2,tE0,cE1,cE2,wE2,by simp;omega,by simp;omega,wE2,rfl,rfl,rfl,qbA (Done.flat ⟨e,_⟩),wE2,rfl,qxW c e _ _ _ hl0 hl4 hc,trivial⟩
end Go.Proofs.YtenekpkjlgddnaaGreat
namespace Go.Proofs.YtenekpkjlgddnaaGreat
open Go.Sx Go.RowKit Go.Proofs.Tryz
section
variable {xs : List Record} {r : Record} {t : List Record}
theorem qe5(h:xs=r::t):((xs.map Record.e).drop 1).take ((xs.map Record.e).length-1)=t.map Record.e:=by subst h;exact zbk (by simp)
theorem qdd(h:xs=r::t):(0:Int)<(↑(xs.map Record.e).length:Int):=by subst h;simp only[zb,zq];omega
theorem qe6(h:xs=r::t):(xs.map Record.e)[0]?=some r.e:=by subst h;rfl
theorem len_t(h:xs=r::t):((↑(xs.map Record.e).length:Int)==0)=false:=by
 have:=qdd h
 rw[zQ,zcc,zE];omega
theorem len_f(h:xs=[]):((↑(xs.map Record.e).length:Int)==0)=true:=by subst h;rfl
theorem pos_t(h:xs=r::t):decide ((↑(xs.map Record.e).length:Int)>0)=true:=dT (qdd h)
theorem pos_f(h:xs=[]):decide ((↑(xs.map Record.e).length:Int)>0)=false:=by subst h;rfl
theorem cut_a:(0:Int)≤(some (1:Int)).getD 0:=by decide
theorem cut_b(h:xs=r::t):(some (1:Int)).getD 0≤(none:Option Int).getD (↑(xs.map Record.e).length:Int):=by
 have:=qdd h
 simp only[zV,Option.getD_none];omega
theorem cut_c{l:List (List D)}:(none:Option Int).getD (↑l.length:Int)≤(↑l.length:Int):=by simp
end
theorem one_m{xs:List Record}{a:List D}(h:xs.length≤8388608):((xs.map Record.e).length+[a].length)*40≤140737488355328:=by simp;omega
theorem one_x{xs:List Record}{a:List D}(h:xs.length≤8388608):(xs.map Record.e).length+[a].length≤9223372036854775807:=by simp;omega
theorem qyN(a:Int)(q:List Record)(r:Record)(b c d e:Int):Link.e ⟨a,q++[r],b,c,d,e⟩=[I a,.sl 5 (q.map Record.e++[r.e]),I b,I c,I d,I e]:=by
 simp only[Link.e,zU];rfl
theorem qir{l:Link}(h:qbr l=true):(0≤l.credits∧l.credits≤4)∧(0≤l.back∧l.back≤4)∧(0≤l.sent∧l.sent≤1000000000)∧(0≤l.got∧l.got≤1000000000)∧l.queue.length≤4:=by
 obtain⟨k1,k2,k3,k4,k5,k6,k7,k8⟩:=qf8.1 h
 simp only[inR,zi]at k1 k2 k3 k5
 omega
theorem qyO(l:Link)(r:Record)(hl:l.sz≤8388608)(hg:l.got≤9223372036854775807):Rt 41 [.agg l.e,.agg r.e] [.agg (qaP l r).1.e,.one (B (qaP l r).2)]:=by
 have cp:=qgc l hl
 have k:=qf4 l hl hg
 have kr:=qc1 r
 have hq:l.queue.length≤8388608:=hl
 cases h1:qbr l with
 | false=>
  rw[h1]at k
  rw[show qaP l r=(l,false) by unfold qaP;simp[h1]]
  exact qyf ⟨cp,k,rfl,trivial⟩
 | true=>
 rw[h1]at k
 cases h2:qao r with
 | false=>
  rw[h2]at kr
  rw[show qaP l r=(l,false) by unfold qaP;simp[h2]]
  exact qyg ⟨cp,k,rfl,kr,rfl,trivial⟩
 | true=>
 rw[h2]at kr
 by_cases h3:l.credits=0
 ·rw[show qaP l r=(l,false) by unfold qaP;simp[h3]]
  exact qyh ⟨cp,k,rfl,kr,rfl,by rw[zE];exact h3,trivial⟩
 have h3':(l.credits==0)=false:=by rw[zQ,zcc,zE];exact h3
 obtain⟨n1,n2,n3,n4,n5⟩:=qir h1
 by_cases h4:l.sent<1000000000
 ·rw[show qaP l r=(⟨l.cap,l.queue++[r],l.credits-1,l.back,l.sent+1,l.got⟩,true) by unfold qaP;simp[h1,h2,h3,h4]]
  dsimp only
  rw[qyN]
  exact qyj ⟨cp,k,rfl,kr,rfl,h3',by rw[zQ,zcc,zE];omega,one_m hq,one_x hq,qbA (Record.flat r),⟨by omega,by omega⟩,⟨by omega,by omega⟩,trivial⟩
 ·rw[show qaP l r=(l,false) by unfold qaP;simp[h4]]
  dsimp only
  exact qyi ⟨cp,k,rfl,kr,rfl,h3',by rw[zE];omega,trivial⟩
theorem qyP(l:Link)(hl:l.sz≤8388608)(hg:l.got≤9223372036854775807):Rt 44 [.agg l.e] [.agg (qaD l).1.e,.agg (qaD l).2.1.e,.one (B (qaD l).2.2)]:=by
 have cp:=qgc l hl
 have k:=qf4 l hl hg
 have hq:l.queue.length≤8388608:=hl
 cases h1:qbr l with
 | false=>
  rw[h1]at k
  rw[show qaD l=(l,rec0,false) by unfold qaD;simp[h1]]
  exact qyt ⟨cp,k,rfl,trivial⟩
 | true=>
 rw[h1]at k
 cases h2:l.queue with
 | nil=>
  rw[show qaD l=(l,rec0,false) by unfold qaD;rw[zp h1];simp only[h2]]
  exact qyu ⟨cp,k,rfl,len_f h2,trivial⟩
 | cons r q=>
  obtain⟨n1,n2,n3,n4,n5⟩:=qir h1
  rw[show qaD l=(⟨l.cap,q,l.credits,l.back+1,l.sent,l.got+1⟩,r,true) by unfold qaD;rw[zp h1];simp only[h2]]
  have e:Link.e ⟨l.cap,q,l.credits,l.back+1,l.sent,l.got+1⟩=[I l.cap,.sl 5 (((l.queue.map Record.e).drop 1).take ((l.queue.map Record.e).length-1)),I l.credits,I (l.back+1),I l.sent,I (l.got+1)]:=by rw[qe5 h2];rfl
  dsimp only
  rw[e]
  exact qyv ⟨cp,k,rfl,len_t h2,cut_a,cut_b h2,cut_c,⟨by omega,by omega⟩,⟨by omega,by omega⟩,by omega,qdd h2,qe6 h2,trivial⟩
theorem qyQ(l:Link)(hl:l.sz≤8388608)(hg:l.got≤9223372036854775807):Rt 46 [.agg l.e] [.agg (qbe l).1.e,.one (B (qbe l).2)]:=by
 have cp:=qgc l hl
 have k:=qf4 l hl hg
 cases h1:qbr l with
 | false=>
  rw[h1]at k
  rw[show qbe l=(l,false) by unfold qbe;simp[h1]]
  exact qxY ⟨cp,k,rfl,trivial⟩
 | true=>
 rw[h1]at k
 by_cases h3:l.back=0
 ·rw[show qbe l=(l,false) by unfold qbe;simp[h3]]
  exact qxZ ⟨cp,k,rfl,by rw[zE];exact h3,trivial⟩
 ·obtain⟨n1,n2,n3,n4,n5⟩:=qir h1
  rw[show qbe l=(⟨l.cap,l.queue,l.credits+1,l.back-1,l.sent,l.got⟩,true) by unfold qbe;simp[h1,h3]]
  exact qx0 ⟨cp,k,rfl,by rw[zQ,zcc,zE];exact h3,⟨by omega,by omega⟩,⟨by omega,by omega⟩,trivial⟩
theorem qyR{n a b:Int}(hn:1≤n∧n≤4)(ha:inR a 0 (n-1)=true)(hb:inR b 0 (n-1)=true):inInt .i64 (a*n)∧inInt .i64 (a*n+b):=by
 simp only[inR,zi]at ha hb
 have hn4:n=1∨n=2∨n=3∨n=4:=by omega
 rcases hn4 with rfl | rfl | rfl | rfl<;>exact⟨⟨by omega,by omega⟩,⟨by omega,by omega⟩⟩
theorem ql4(g:Graph)(a b:Int)(hn:1≤g.workers∧g.workers≤4):Rt 40 [.agg g.e,.one (I a),.one (I b)] [.one (I (qaQ g a b))]:=by
 cases hh:(inR a 0 (g.workers-1)&&inR b 0 (g.workers-1)) with
 | true=>
  rw[zj]at hh
  obtain⟨j1,j2⟩:=qyR hn hh.1 hh.2
  rw[(qlu hn hh.1 hh.2).1]
  obtain⟨ha,hb⟩:=hh
  simp only[inR,zi]at ha hb
  exact qx4 ⟨dF (by split<;>omega),dF (by split<;>omega),j1,j2,trivial⟩
 | false=>
  rw[qf9 hh]
  have hh':¬((0≤a∧a≤g.workers-1)∧(0≤b∧b≤g.workers-1)):=by
   intro k
   have:(inR a 0 (g.workers-1)&&inR b 0 (g.workers-1))=true:=by simp only[inR,zj,zi];exact k
   rw[this]at hh;cases hh
  by_cases hm:(if b<a then b else a)<0
  ·exact qx2 ⟨dT hm,trivial⟩
  ·exact qx3 ⟨dF hm,dT (by split at hm<;>split<;>omega),trivial⟩
theorem ql5(w:Worker)(r:Record):(kept w r).e=[.sl 5 (w.queue.map Record.e++[r.e]),.sl 5 (w.staged.map Record.e),.sl 5 (w.inputs.map Record.e),.sl 4 (w.cells.map Cell.e),.sl 1 (w.sums.map eI),.sl 1 (w.black.map eB),.sl 1 (w.caps.map eB),.sl 2 (w.dones.map Done.e)]:=by
 simp only[kept,Worker.e,zU];rfl
theorem qyS(w:Worker)(r:Record):(received w r).e=[.sl 5 (w.queue.map Record.e++[r.e]),.sl 5 (w.staged.map Record.e),.sl 5 (w.inputs.map Record.e),.sl 4 (w.cells.map Cell.e),.sl 1 ((w.sums.map eI).set r.stamp.epoch.toNat [I (w.sums.getD r.stamp.epoch.toNat 0-1)]),.sl 1 ((w.black.map eB).set r.stamp.epoch.toNat [B true]),.sl 1 (w.caps.map eB),.sl 2 (w.dones.map Done.e)]:=by
 simp only[received,incAt,Worker.e,zU,zau];rfl
theorem qyT(w:Worker)(e:Int):(qc7 w e).e=[.sl 5 (w.queue.map Record.e),.sl 5 (w.staged.map Record.e),.sl 5 (w.inputs.map Record.e),.sl 4 (w.cells.map Cell.e),.sl 1 ((w.sums.map eI).set e.toNat [I (w.sums.getD e.toNat 0+1)]),.sl 1 (w.black.map eB),.sl 1 (w.caps.map eB),.sl 2 (w.dones.map Done.e)]:=by
 simp only[qc7,incAt,Worker.e,zau];rfl
theorem ql6(w:Worker)(r:Record)(hw:w.sz≤8388608):Rt 39 [.agg w.e,.agg r.e] [.agg (kept w r).e]:=by
 have hq:w.queue.length≤8388608:=by simp only[Worker.sz]at hw;omega
 rw[ql5]
 exact qx1 ⟨qek w hw,one_m hq,one_x hq,qbA (Record.flat r),trivial⟩
theorem qyU(w:Worker)(r:Record)(hw:w.sz≤8388608)(h4:w.sums.length=4)(hb:w.black.length=4)(he:0≤r.stamp.epoch∧r.stamp.epoch≤3)(hs:-1000000≤w.sums.getD r.stamp.epoch.toNat 0∧w.sums.getD r.stamp.epoch.toNat 0≤1000000):
  Rt 45 [.agg w.e,.agg r.e] [.agg (received w r).e]:=by
 have k:=ql6 w r hw
 rw[ql5]at k
 rw[qyS]
 obtain⟨s1,s2⟩:=int4 h4 he
 obtain⟨b1,b2⟩:=bool4 hb he
 have hif:(if (↑(w.black.map eB).length:Int)<(↑(w.sums.map eI).length:Int) then (↑(w.black.map eB).length:Int) else (↑(w.sums.map eI).length:Int))-1=3:=by
  rw[zb,zb,h4,hb];rfl
 exact qye _ _ _ _ _ _ _ _ _ _ _ _ _ _ _ _ _ _ _ _ _ _ _ _ _ ⟨k,⟨by rw[hif];omega,by rw[hif];omega⟩,qay _ _ _ true (by rw[hif];simp only[inR,zi];omega),rfl,he.1,s1,s2,⟨by omega,by omega⟩,he.1,s1,s2,he.1,b1,b2,trivial⟩
theorem qyV(w:Worker)(e:Int)(hw:w.sz≤8388608)(h4:w.sums.length=4)(he:0≤e∧e≤3)(hs:-1000000≤w.sums.getD e.toNat 0∧w.sums.getD e.toNat 0≤1000000):
  Rt 42 [.agg w.e,.one (I e)] [.agg (qc7 w e).e]:=by
 rw[qyT]
 obtain⟨s1,s2⟩:=int4 h4 he
 have hif:(↑(w.sums.map eI).length:Int)-1=3:=by rw[zb,h4];rfl
 exact qyk _ _ _ _ _ _ _ _ _ _ _ _ _ _ _ _ _ _ _ _ ⟨qek w hw,⟨by rw[hif];omega,by rw[hif];omega⟩,qay _ _ _ true (by rw[hif];simp only[inR,zi];omega),rfl,he.1,s1,s2,⟨by omega,by omega⟩,he.1,s1,s2,trivial⟩
theorem qyW(w:Worker)(r:Record)(t:List Record)(hw:w.sz≤8388608)(h:w.staged=r::t):Rt 37 [.agg w.e] [.agg (qbC w t).e,.agg r.e,.one (B true)]:=by
 have e:(qbC w t).e=[.sl 5 (w.queue.map Record.e),.sl 5 (((w.staged.map Record.e).drop 1).take ((w.staged.map Record.e).length-1)),.sl 5 (w.inputs.map Record.e),.sl 4 (w.cells.map Cell.e),.sl 1 (w.sums.map eI),.sl 1 (w.black.map eB),.sl 1 (w.caps.map eB),.sl 2 (w.dones.map Done.e)]:=by rw[qe5 h];rfl
 rw[e]
 exact qyC ⟨qek w hw,len_t h,cut_a,cut_b h,cut_c,by omega,qdd h,qe6 h,trivial⟩
theorem qyX{g:Graph}{op:Int}{x:Node}(h:qaU g op=some x):0≤op∧op<(↑(g.nodes.map Node.e).length:Int)∧(g.nodes.map Node.e)[op.toNat]?=some x.e:=by
 unfold qaU at h
 split at h
 ·have:=lt_of h
  exact⟨‹_›,by rw[zb];omega,qac Node.e h⟩
 ·cases h
theorem qyY(g:Graph)(r:Record)(hg:g.sz≤8388608):Rt 62 [.agg g.e,.agg r.e] [.one (B (capped g r))]:=by
 have k:=qeb g hg
 have kr:=qc1 r
 have nt:=qh2 r.stamp
 cases h1:qak g with
 | false=>
  rw[h1]at k
  rw[show capped g r=false by unfold capped;split<;>simp[qcs,h1]]
  exact qvi ⟨k,rfl,trivial⟩
 | true=>
 rw[h1]at k
 cases h2:qao r with
 | false=>
  rw[h2]at kr
  rw[show capped g r=false by unfold capped;split<;>simp[qcs,h2]]
  exact qvj ⟨k,rfl,kr,rfl,trivial⟩
 | true=>
 rw[h2]at kr
 cases h3:qaU g r.op with
 | none=>
  rw[show capped g r=false by unfold capped;rw[h3]]
  exact qvk ⟨k,rfl,kr,rfl,qea g r.op false (by rw[h3];rfl) hg,rfl,trivial⟩
 | some x=>
  obtain⟨m1,m2,m3⟩:=qyX h3
  have ni:=qea g r.op true (by rw[h3];rfl) hg
  rw[show capped g r=qcs g r x by unfold capped;rw[h3]]
  cases h4:(x.kind==7) with
  | false=>
   rw[show qcs g r x=false by simp[qcs,h4]]
   exact qvn ⟨k,rfl,kr,rfl,ni,rfl,m1,m2,m3,nt,h4,trivial⟩
  | true=>
  by_cases h5:0<x.outs.length
  ·rw[show qcs g r x=!(qaW r.stamp).2 by simp[qcs,h1,h2,h4,h5]]
   exact qvl ⟨k,rfl,kr,rfl,ni,rfl,m1,m2,m3,nt,h4,dT (by rw[zb];omega),trivial⟩
  ·rw[show qcs g r x=false by simp[qcs,h5]]
   exact qvm ⟨k,rfl,kr,rfl,ni,rfl,m1,m2,m3,nt,h4,dF (by rw[zb];omega),trivial⟩
theorem qyZ(g:Graph)(w:Worker)(hg:g.sz≤8388608)(hw:w.sz≤8388608):Rt 35 [.agg g.e,.agg w.e] [.agg (qaY g w).1.e,.one (B (qaY g w).2)]:=by
 have cp:=qek w hw
 have k:=qeb g hg
 have kw:=qf5 g w hg hw
 have hcl:w.cells.length≤8388608:=by simp only[Worker.sz]at hw;omega
 cases h1:qak g with
 | false=>
  rw[h1]at k
  rw[show qaY g w=(w,false) by unfold qaY;simp[h1]]
  exact qyD ⟨cp,k,rfl,trivial⟩
 | true=>
 rw[h1]at k
 cases h2:qba g w with
 | false=>
  rw[h2]at kw
  rw[show qaY g w=(w,false) by unfold qaY;simp[h2]]
  exact qyE ⟨cp,k,rfl,kw,rfl,trivial⟩
 | true=>
 rw[h2]at kw
 have hu:qaY g w=match w.staged,w.queue with
  | [],r::q=>(⟨q,(qaO g w.cells r).2.1,w.inputs,(qaO g w.cells r).1,w.sums,w.black,(if capped g r then w.caps.set r.stamp.epoch.toNat true else w.caps),w.dones⟩,true)
  | _,_=>(w,false):=by unfold qaY;rw[h1,h2];rfl
 cases h3:w.staged with
 | cons r q=>
  rw[show qaY g w=(w,false) by rw[hu,h3]]
  exact qyF ⟨cp,k,rfl,kw,rfl,pos_t h3,trivial⟩
 | nil=>
 cases h4:w.queue with
 | nil=>
  rw[show qaY g w=(w,false) by rw[hu,h3,h4]]
  exact qyG ⟨cp,k,rfl,kw,rfl,pos_f h3,len_f h4,trivial⟩
 | cons r q=>
  have st:=qvr g w.cells r hg hcl
  have ca:=qyY g r hg
  obtain⟨k1,_,_,_,_,_,k7,_⟩:=qeY.1 h2
  rw[h4,qie]at k1
  have he:=qif k1.1
  obtain⟨c1,c2⟩:=bool4 k7 he
  cases h5:capped g r with
  | true=>
   rw[h5]at ca
   rw[show qaY g w=(⟨q,(qaO g w.cells r).2.1,w.inputs,(qaO g w.cells r).1,w.sums,w.black,w.caps.set r.stamp.epoch.toNat true,w.dones⟩,true) by rw[hu,h3,h4];simp only[h5,zbb]]
   have e:Worker.e ⟨q,(qaO g w.cells r).2.1,w.inputs,(qaO g w.cells r).1,w.sums,w.black,w.caps.set r.stamp.epoch.toNat true,w.dones⟩=[.sl 5 (((w.queue.map Record.e).drop 1).take ((w.queue.map Record.e).length-1)),.sl 5 ((qaO g w.cells r).2.1.map Record.e),.sl 5 (w.inputs.map Record.e),.sl 4 ((qaO g w.cells r).1.map Cell.e),.sl 1 (w.sums.map eI),.sl 1 (w.black.map eB),.sl 1 ((w.caps.map eB).set r.stamp.epoch.toNat [B true]),.sl 2 (w.dones.map Done.e)]:=by
    rw[qe5 h4];simp only[Worker.e,zau];rfl
   dsimp only
   rw[e]
   exact qyH _ _ _ _ _ _ _ _ _ _ _ _ _ _ _ _ _ _ _ _ _ _ _ _ _ _ _ _ _ _ _ ⟨cp,k,rfl,kw,rfl,pos_f h3,len_t h4,by omega,qdd h4,qe6 h4,cut_a,cut_b h4,cut_c,st,ca,rfl,he.1,c1,c2,trivial⟩
  | false=>
   rw[h5]at ca
   rw[show qaY g w=(⟨q,(qaO g w.cells r).2.1,w.inputs,(qaO g w.cells r).1,w.sums,w.black,w.caps,w.dones⟩,true) by rw[hu,h3,h4];simp only[h5];rfl]
   have e:Worker.e ⟨q,(qaO g w.cells r).2.1,w.inputs,(qaO g w.cells r).1,w.sums,w.black,w.caps,w.dones⟩=[.sl 5 (((w.queue.map Record.e).drop 1).take ((w.queue.map Record.e).length-1)),.sl 5 ((qaO g w.cells r).2.1.map Record.e),.sl 5 (w.inputs.map Record.e),.sl 4 ((qaO g w.cells r).1.map Cell.e),.sl 1 (w.sums.map eI),.sl 1 (w.black.map eB),.sl 1 (w.caps.map eB),.sl 2 (w.dones.map Done.e)]:=by
    rw[qe5 h4];rfl
   dsimp only
   rw[e]
   exact qyI ⟨cp,k,rfl,kw,rfl,pos_f h3,len_t h4,by omega,qdd h4,qe6 h4,cut_a,cut_b h4,cut_c,st,ca,rfl,trivial⟩
theorem qy0(g:Graph)(w:Worker)(hg:g.sz≤8388608)(hw:w.sz≤8388608):Rt 36 [.agg g.e,.agg w.e] [.agg (qaZ g w).1.e,.one (B (qaZ g w).2)]:=by
 have cp:=qek w hw
 have k:=qeb g hg
 have kw:=qf5 g w hg hw
 have hq:w.queue.length≤8388608:=by simp only[Worker.sz]at hw;omega
 cases h1:qak g with
 | false=>
  rw[h1]at k
  rw[show qaZ g w=(w,false) by unfold qaZ;simp[h1]]
  exact qyw ⟨cp,k,rfl,trivial⟩
 | true=>
 rw[h1]at k
 cases h2:qba g w with
 | false=>
  rw[h2]at kw
  rw[show qaZ g w=(w,false) by unfold qaZ;simp[h2]]
  exact qyx ⟨cp,k,rfl,kw,rfl,trivial⟩
 | true=>
 rw[h2]at kw
 have hu:qaZ g w=match w.staged,w.queue,w.inputs with
  | [],[],r::t=>(⟨[r],[],t,w.cells,w.sums,w.black,w.caps,w.dones⟩,true)
  | _,_,_=>(w,false):=by unfold qaZ;rw[h1,h2];rfl
 cases h3:w.staged with
 | cons r q=>
  rw[show qaZ g w=(w,false) by rw[hu,h3]]
  exact qyy ⟨cp,k,rfl,kw,rfl,pos_t h3,trivial⟩
 | nil=>
 cases h4:w.queue with
 | cons r q=>
  rw[show qaZ g w=(w,false) by rw[hu,h3,h4]]
  exact qyz ⟨cp,k,rfl,kw,rfl,pos_f h3,pos_t h4,trivial⟩
 | nil=>
 cases h5:w.inputs with
 | nil=>
  rw[show qaZ g w=(w,false) by rw[hu,h3,h4,h5]]
  exact qyA ⟨cp,k,rfl,kw,rfl,pos_f h3,pos_f h4,len_f h5,trivial⟩
 | cons r t=>
  rw[show qaZ g w=(⟨[r],[],t,w.cells,w.sums,w.black,w.caps,w.dones⟩,true) by rw[hu,h3,h4,h5]]
  have e:Worker.e ⟨[r],[],t,w.cells,w.sums,w.black,w.caps,w.dones⟩=[.sl 5 (w.queue.map Record.e++[r.e]),.sl 5 (w.staged.map Record.e),.sl 5 (((w.inputs.map Record.e).drop 1).take ((w.inputs.map Record.e).length-1)),.sl 4 (w.cells.map Cell.e),.sl 1 (w.sums.map eI),.sl 1 (w.black.map eB),.sl 1 (w.caps.map eB),.sl 2 (w.dones.map Done.e)]:=by
   rw[qe5 h5,h4,h3];rfl
  dsimp only
  rw[e]
  exact qyB ⟨cp,k,rfl,kw,rfl,pos_f h3,pos_f h4,len_t h5,by omega,qdd h5,qe6 h5,one_m hq,one_x hq,qbA (Record.flat r),cut_a,cut_b h5,cut_c,trivial⟩
end Go.Proofs.YtenekpkjlgddnaaGreat
namespace Go.Proofs.YtenekpkjlgddnaaGreat
open Go.Sx Go.RowKit Go.Proofs.Tryz
theorem qy1{c:Cluster}{w:Int}(h:wAt c w=none):inR w 0 ((↑(c.workers.map Worker.e).length:Int)-1)=false:=by
 unfold wAt at h
 simp only[inR,zb,zf]
 split at h
 ·rw[List.getElem?_eq_none_iff]at h;omega
 ·omega
theorem ql7{c:Cluster}{w:Int}{x:Worker}(h:wAt c w=some x):inR w 0 ((↑(c.workers.map Worker.e).length:Int)-1)=true:=by
 obtain⟨h1,h2,_⟩:=qcG h
 simp only[inR,zb,zi]
 omega
theorem qis{c:Cluster}{i:Int}{x:Link}(h:lAt c i=some x):0≤i∧i<(↑(c.links.map Link.e).length:Int)∧(c.links.map Link.e)[i.toNat]?=some x.e:=by
 obtain⟨h1,h2,h3⟩:=qeg h
 exact⟨h1,by rw[zb];omega,qac Link.e h3⟩
theorem qit{c:Cluster}{i:Int}{x:Link}(h:lAt c i=some x)(hc:c.sz≤8388608):x.sz≤8388608:=Cluster.link_sz1 hc (qaq (qeg h).2.2)
theorem qiu{c:Cluster}{i:Int}{x:Link}(h:lAt c i=some x)(hw:GotLe c):x.got≤9223372036854775807:=hw _ (qaq (qeg h).2.2)
theorem wlen1{c:Cluster}(hc:c.sz≤8388608):inInt .i64 ((↑(c.workers.map Worker.e).length:Int)-1):=by
 have:=Cluster.wlen_le hc
 exact⟨by rw[zb];omega,by rw[zb];omega⟩
theorem qiv(c:Cluster)(w:Int)(y:Worker):(setW c w y).e=[.sl 4 (c.graph.nodes.map Node.e),I c.graph.workers,I c.graph.cap,.sl 8 ((c.workers.map Worker.e).set w.toNat y.e),.sl 6 (c.links.map Link.e),.sl 5 (c.tokens.map Token.e),.sl 3 (c.news.map News.e)]:=by simp only[setW,Cluster.e,zau]
theorem qy2(c:Cluster)(i:Int)(y:Link):(setL c i y).e=[.sl 4 (c.graph.nodes.map Node.e),I c.graph.workers,I c.graph.cap,.sl 8 (c.workers.map Worker.e),.sl 6 ((c.links.map Link.e).set i.toNat y.e),.sl 5 (c.tokens.map Token.e),.sl 3 (c.news.map News.e)]:=by simp only[setL,Cluster.e,zau]
theorem ql8(c:Cluster)(w i:Int)(y:Worker)(z:Link):(setW (setL c i z) w y).e=[.sl 4 (c.graph.nodes.map Node.e),I c.graph.workers,I c.graph.cap,.sl 8 ((c.workers.map Worker.e).set w.toNat y.e),.sl 6 ((c.links.map Link.e).set i.toNat z.e),.sl 5 (c.tokens.map Token.e),.sl 3 (c.news.map News.e)]:=by simp only[setW,setL,Cluster.e,zau]
theorem qiw(c:Cluster)(w:Int)(hc:c.sz≤8388608)(hw:GotLe c):Rt 34 [.agg c.e,.one (I w)] [.one (B (qam c&&(wAt c w).isSome))]:=by
 have k:=qf7 c hc hw
 cases ok:qam c with
 | false=>rw[ok]at k;exact qyJ ⟨k,rfl,trivial⟩
 | true=>
  rw[ok]at k
  cases hx:wAt c w with
  | none=>exact ql3 ⟨k,rfl,wlen1 hc,qay _ _ _ _ (qy1 hx),trivial⟩
  | some x=>exact ql3 ⟨k,rfl,wlen1 hc,qay _ _ _ _ (ql7 hx),trivial⟩
theorem ql9(c:Cluster)(a b:Int)(hc:c.sz≤8388608)(hw:GotLe c):Rt 43 [.agg c.e,.one (I a),.one (I b)] [.one (I (if qam c&&a != b then qaQ c.graph a b else -1))]:=by
 have k:=qf7 c hc hw
 cases ok:qam c with
 | false=>rw[ok]at k;exact qyK ⟨k,rfl,trivial⟩
 | true=>
  rw[ok]at k
  by_cases hab:a=b
  ·rw[show (true&&a != b)=false by simp[hab]]
   exact qyL ⟨k,rfl,by simp[hab],trivial⟩
  ·rw[show (true&&a != b)=true by simp[hab],zp rfl]
   exact qyM ⟨k,rfl,by simp[hab],ql4 c.graph a b (qcF (qbD.1 ok).1),trivial⟩
theorem qy3(c:Cluster)(w:Int)(hc:c.sz≤8388608)(hw:GotLe c):Rt 18 [.agg c.e,.one (I w)] [.agg (qbO c w).1.e,.one (B (qbO c w).2)]:=by
 have cp:=qda c hc
 have k:=qiw c w hc hw
 cases ok:qam c with
 | false=>
  rw[ok]at k
  rw[show qbO c w=(c,false) by unfold qbO;simp[ok]]
  exact ql2 ⟨cp,k,rfl,trivial⟩
 | true=>
 cases hx:wAt c w with
 | none=>
  rw[ok,hx]at k
  rw[show qbO c w=(c,false) by unfold qbO;simp[hx]]
  exact ql2 ⟨cp,k,rfl,trivial⟩
 | some x=>
  rw[ok,hx]at k
  obtain⟨wE0,wE1,wE2⟩:=qdP hx
  rw[show qbO c w=(setW c w (qaY c.graph x).1,(qaY c.graph x).2) by unfold qbO;simp[ok,hx]]
  dsimp only
  rw[qiv]
  exact qyd ⟨cp,k,rfl,wE0,wE1,wE2,qyZ c.graph x (Cluster.graph_sz1 hc) (qdc hx hc),wE0,wE1,wE2,trivial⟩
theorem qy4(c:Cluster)(w:Int)(hc:c.sz≤8388608)(hw:GotLe c):Rt 19 [.agg c.e,.one (I w)] [.agg (qbP c w).1.e,.one (B (qbP c w).2)]:=by
 have cp:=qda c hc
 have k:=qiw c w hc hw
 cases ok:qam c with
 | false=>
  rw[ok]at k
  rw[show qbP c w=(c,false) by unfold qbP;simp[ok]]
  exact qlZ ⟨cp,k,rfl,trivial⟩
 | true=>
 cases hx:wAt c w with
 | none=>
  rw[ok,hx]at k
  rw[show qbP c w=(c,false) by unfold qbP;simp[hx]]
  exact qlZ ⟨cp,k,rfl,trivial⟩
 | some x=>
  rw[ok,hx]at k
  obtain⟨wE0,wE1,wE2⟩:=qdP hx
  rw[show qbP c w=(setW c w (qaZ c.graph x).1,(qaZ c.graph x).2) by unfold qbP;simp[ok,hx]]
  dsimp only
  rw[qiv]
  exact qx6 _ _ _ _ _ _ _ _ _ _ _ _ _ _ _ _ _ _ _ _ _ _ _ _ _ _ _ _ _ _ _ _ _ _ _ _ _ _ _ _ _ ⟨cp,k,rfl,wE0,wE1,wE2,qy0 c.graph x (Cluster.graph_sz1 hc) (qdc hx hc),wE0,wE1,wE2,trivial⟩
theorem qma{c:Cluster}{w:Int}{x:Worker}(ok:qam c=true)(hx:wAt c w=some x):x.sums.length=4∧x.black.length=4∧x.caps.length=4∧(∀e:Int,0≤e∧e≤3→-1000000≤x.sums.getD e.toNat 0∧x.sums.getD e.toNat 0≤1000000):=by
 obtain⟨_,_,_,_,k5,k6,k7,_,k9,_⟩:=qeY.1 (qid ok hx)
 refine⟨k5,k6,k7,fun e he=>?_⟩
 have hl:e.toNat<x.sums.length:=by omega
 rw[zP]at k9
 have:=k9 _ (zax hl)
 rw[zN,zu hl,zV]
 simpa only[qdN,zS,zX,inR,zi,zbt,Bool.not_not,Bool.not_eq_eq_eq_not,zZ,zf,Classical.not_not]using this
theorem qy5{c:Cluster}{w:Int}{x:Worker}{r:Record}{t:List Record}(ok:qam c=true)(hx:wAt c w=some x)(hs:x.staged=r::t):qbs c w=qc8 c w x r t (qbk r.key c.graph.workers):=by
 unfold qbs
 rw[zp ok,hx]
 dsimp only
 rw[hs]
theorem qy6{c:Cluster}{w:Int}{x:Worker}{r:Record}{t:List Record}{o:Int}(h:o=w):qc8 c w x r t o=(setW c w (kept (qbC x t) r),true):=zp h
theorem qy7{c:Cluster}{w:Int}{x:Worker}{r:Record}{t:List Record}{o:Int}{l:Link}(h:o≠w)(hl:lAt c (qaQ c.graph w o)=some l):qc8 c w x r t o=if (qaP l r).2 then (setW (setL c (qaQ c.graph w o) (qaP l r).1) w (qc7 (qbC x t) r.stamp.epoch),true) else (c,false):=by
 unfold qc8
 rw[zo h,hl]
theorem qy8(c:Cluster)(w:Int)(hc:c.sz≤8388608)(hw:GotLe c):Rt 20 [.agg c.e,.one (I w)] [.agg (qbs c w).1.e,.one (B (qbs c w).2)]:=by
 have cp:=qda c hc
 have k:=qiw c w hc hw
 cases ok:qam c with
 | false=>
  rw[ok]at k
  rw[show qbs c w=(c,false) by unfold qbs;simp[ok]]
  exact ql0 ⟨cp,k,rfl,trivial⟩
 | true=>
 cases hx:wAt c w with
 | none=>
  rw[ok,hx]at k
  rw[show qbs c w=(c,false) by unfold qbs;simp[hx]]
  exact ql0 ⟨cp,k,rfl,trivial⟩
 | some x=>
 rw[ok,hx]at k
 obtain⟨wE0,wE1,wE2⟩:=qdP hx
 have hn:=qcF (qbD.1 ok).1
 cases hs:x.staged with
 | nil=>
  rw[show qbs c w=(c,false) by unfold qbs;rw[zp ok,hx];dsimp only;rw[hs]]
  exact qx7 ⟨cp,k,rfl,wE0,wE1,wE2,len_f hs,trivial⟩
 | cons r t=>
  have hsz:=qdc hx hc
  have hun:(qbC x t).sz≤8388608:=by have:=qly hs;omega
  have un:=qyW x r t hsz hs
  have ow:=qu5 r.key c.graph.workers (by omega)
  have hr:=(qvP (qid ok hx) hs).2
  have he:=qif hr
  obtain⟨f4,_,_,fs⟩:=qma ok hx
  rw[qy5 ok hx hs]
  have oin:=qvR r.key hn.1
  generalize qbk r.key c.graph.workers=o at ow oin
  by_cases how:o=w
  ·rw[qy6 how]
   dsimp only
   rw[qiv]
   exact qx8 ⟨cp,k,rfl,wE0,wE1,wE2,len_t hs,wE0,wE1,wE2,un,ow,by rw[zE];exact how,ql6 (qbC x t) r hun,wE0,wE1,wE2,trivial⟩
  ·have hbo:(o==w)=false:=by rw[zQ,zcc,zE];exact how
   have win:inR w 0 (c.graph.workers-1)=true:=by
    have:=ql7 hx
    rwa[zb,(qbD.1 ok).2.1]at this
   obtain⟨l,hl⟩:=qig ok win oin
   obtain⟨lE0,lE1,lE2⟩:=qis hl
   have lp:=ql4 c.graph w o hn
   have so:=qyO l r (qit hl hc) (qiu hl hw)
   rw[qy7 how hl]
   cases h6:(qaP l r).2 with
   | false=>
    rw[h6]at so
    exact qx9 ⟨cp,k,rfl,wE0,wE1,wE2,len_t hs,wE0,wE1,wE2,un,ow,hbo,lp,lE0,lE1,lE2,so,rfl,trivial⟩
   | true=>
    rw[h6]at so
    rw[zp rfl]
    dsimp only
    rw[ql8]
    exact qya ⟨cp,k,rfl,wE0,wE1,wE2,len_t hs,wE0,wE1,wE2,un,ow,hbo,lp,lE0,lE1,lE2,so,rfl,lE0,lE1,lE2,qyV (qbC x t) r.stamp.epoch hun f4 he (fs _ he),wE0,wE1,wE2,trivial⟩
theorem qmb{c:Cluster}{a b:Int}(h:(inR a 0 (c.graph.workers-1)&&inR b 0 (c.graph.workers-1))=false):lAt c (qaQ c.graph a b)=none:=by
 rw[qf9 h];rfl
theorem qy9{c:Cluster}{a b:Int}{l:Link}{x:Worker}(ok:qam c=true)(hab:a≠b)(hl:lAt c (qaQ c.graph a b)=some l)(hx:wAt c b=some x):qbQ c a b=if (qaD l).2.2 then (setW (setL c (qaQ c.graph a b) (qaD l).1) b (received x (qaD l).2.1),true) else (c,false):=by
 unfold qbQ
 rw[zp (by simp[ok,hab]),hl,hx]
theorem qza{c:Cluster}{a b:Int}{l:Link}(ok:qam c=true)(hab:a≠b)(hl:lAt c (qaQ c.graph a b)=some l):qbR c a b=(setL c (qaQ c.graph a b) (qbe l).1,(qbe l).2):=by
 unfold qbR
 rw[zp (by simp[ok,hab]),hl]
theorem qzb(c:Cluster)(a b:Int)(hc:c.sz≤8388608)(hw:GotLe c):Rt 21 [.agg c.e,.one (I a),.one (I b)] [.agg (qbQ c a b).1.e,.one (B (qbQ c a b).2)]:=by
 have cp:=qda c hc
 have k:=ql9 c a b hc hw
 cases h1:(qam c&&a != b) with
 | false=>
  rw[h1,zo (by decide)]at k
  rw[show qbQ c a b=(c,false) by unfold qbQ;rw[h1];rfl]
  exact ql1 ⟨cp,k,dT (by decide),trivial⟩
 | true=>
 rw[h1,zp rfl]at k
 rw[zj]at h1
 obtain⟨ok,hab⟩:=h1
 have hab:a≠b:=by simpa using hab
 have hn:=qcF (qbD.1 ok).1
 cases hh:(inR a 0 (c.graph.workers-1)&&inR b 0 (c.graph.workers-1)) with
 | false=>
  rw[qf9 hh]at k
  rw[show qbQ c a b=(c,false) by unfold qbQ;rw[qmb hh];split<;>rfl]
  exact ql1 ⟨cp,k,dT (by decide),trivial⟩
 | true=>
 rw[zj]at hh
 obtain⟨l,hl⟩:=qig ok hh.1 hh.2
 obtain⟨x,hx⟩:∃x,wAt c b=some x:=by
  have hb:=hh.2
  have:=(qbD.1 ok).2.1
  simp only[inR,zi]at hb
  exact qga (by omega) (by omega)
 obtain⟨lE0,lE1,lE2⟩:=qis hl
 obtain⟨wE0,wE1,wE2⟩:=qdP hx
 have tf:=qyP l (qit hl hc) (qiu hl hw)
 rw[qy9 ok hab hl hx]
 cases h6:(qaD l).2.2 with
 | false=>
  rw[h6]at tf
  exact qyb ⟨cp,k,dF (by omega),lE0,lE1,lE2,tf,rfl,trivial⟩
 | true=>
  rw[h6]at tf
  have he:=qif (qvQ (qvM ok hl) h6).2
  obtain⟨f4,fb,_,fs⟩:=qma ok hx
  rw[zp rfl]
  dsimp only
  rw[ql8]
  exact qyc ⟨cp,k,dF (by omega),lE0,lE1,lE2,tf,rfl,lE0,lE1,lE2,wE0,wE1,wE2,qyU x _ (qdc hx hc) f4 fb he (fs _ he),wE0,wE1,wE2,trivial⟩
theorem qzc(c:Cluster)(a b:Int)(hc:c.sz≤8388608)(hw:GotLe c):Rt 22 [.agg c.e,.one (I a),.one (I b)] [.agg (qbR c a b).1.e,.one (B (qbR c a b).2)]:=by
 have cp:=qda c hc
 have k:=ql9 c a b hc hw
 cases h1:(qam c&&a != b) with
 | false=>
  rw[h1,zo (by decide)]at k
  rw[show qbR c a b=(c,false) by unfold qbR;rw[h1];rfl]
  exact qlY ⟨cp,k,dT (by decide),trivial⟩
 | true=>
 rw[h1,zp rfl]at k
 rw[zj]at h1
 obtain⟨ok,hab⟩:=h1
 have hab:a≠b:=by simpa using hab
 cases hh:(inR a 0 (c.graph.workers-1)&&inR b 0 (c.graph.workers-1)) with
 | false=>
  rw[qf9 hh]at k
  rw[show qbR c a b=(c,false) by unfold qbR;rw[qmb hh];split<;>rfl]
  exact qlY ⟨cp,k,dT (by decide),trivial⟩
 | true=>
 rw[zj]at hh
 obtain⟨l,hl⟩:=qig ok hh.1 hh.2
 obtain⟨lE0,lE1,lE2⟩:=qis hl
 rw[qza ok hab hl]
 dsimp only
 rw[qy2]
 exact qx5 _ _ _ _ _ _ _ _ _ _ _ _ _ _ _ _ _ _ _ _ _ _ _ _ _ _ _ _ _ _ _ _ _ _ _ _ ⟨cp,k,dF (by omega),lE0,lE1,lE2,qyQ l (qit hl hc) (qiu hl hw),lE0,lE1,lE2,trivial⟩
theorem qzd(c:Cluster)(p:Pick)(hc:c.sz≤8388608)(hw:GotLe c):Rt 7 [.agg c.e,.agg p.e] [.agg (stepPick c p).1.e,.one (B (stepPick c p).2)]:=by
 by_cases h1:p.kind=1
 ·rw[show stepPick c p=qbO c p.a by unfold stepPick;simp[h1]]
  exact qyl ⟨by rw[zE];exact h1,qy3 c p.a hc hw,trivial⟩
 have n1:(p.kind==1)=false:=by rw[zQ,zcc,zE];exact h1
 by_cases h2:p.kind=2
 ·rw[show stepPick c p=qbP c p.a by unfold stepPick;simp[h2]]
  exact qym ⟨n1,by rw[zE];exact h2,qy4 c p.a hc hw,trivial⟩
 have n2:(p.kind==2)=false:=by rw[zQ,zcc,zE];exact h2
 by_cases h3:p.kind=3
 ·rw[show stepPick c p=qbs c p.a by unfold stepPick;simp[h3]]
  exact qyn ⟨n1,n2,by rw[zE];exact h3,qy8 c p.a hc hw,trivial⟩
 have n3:(p.kind==3)=false:=by rw[zQ,zcc,zE];exact h3
 by_cases h4:p.kind=4
 ·rw[show stepPick c p=qbQ c p.a p.b by unfold stepPick;simp[h4]]
  exact qyo ⟨n1,n2,n3,by rw[zE];exact h4,qzb c p.a p.b hc hw,trivial⟩
 have n4:(p.kind==4)=false:=by rw[zQ,zcc,zE];exact h4
 by_cases h5:p.kind=5
 ·rw[show stepPick c p=qbR c p.a p.b by unfold stepPick;simp[h5]]
  exact qyp ⟨n1,n2,n3,n4,by rw[zE];exact h5,qzc c p.a p.b hc hw,trivial⟩
 have n5:(p.kind==5)=false:=by rw[zQ,zcc,zE];exact h5
 by_cases h6:p.kind=6
 ·rw[show stepPick c p=qbt c p.a by unfold stepPick;simp[h6]]
  exact qyq ⟨n1,n2,n3,n4,n5,by rw[zE];exact h6,qxX c p.a hc hw,trivial⟩
 have n6:(p.kind==6)=false:=by rw[zQ,zcc,zE];exact h6
 by_cases h7:p.kind=7
 ·rw[show stepPick c p=qbS c p.a by unfold stepPick;simp[h7]]
  exact qyr ⟨n1,n2,n3,n4,n5,n6,by rw[zE];exact h7,qxN c p.a hc hw,trivial⟩
 have n7:(p.kind==7)=false:=by rw[zQ,zcc,zE];exact h7
 rw[show stepPick c p=(c,false) by unfold stepPick;simp[h1,h2,h3,h4,h5,h6,h7]]
 exact qys ⟨n1,n2,n3,n4,n5,n6,n7,qda c hc,trivial⟩
end Go.Proofs.YtenekpkjlgddnaaGreat
