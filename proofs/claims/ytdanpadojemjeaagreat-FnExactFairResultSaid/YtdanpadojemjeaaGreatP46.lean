/- TokenStep: what program and reference compute. -/
import Derived.Test.YtdanpadojemjeaaGreatP43
import Derived.Test.YtdanpadojemjeaaGreatGW
import Derived.Test.YtdanpadojemjeaaGreatGX
set_option linter.unusedVariables false
set_option linter.unusedSimpArgs false
namespace Go.Proofs.YtdanpadojemjeaaGreat
open Go.Sx Go.RowKit Go.Proofs.Tryz
theorem beq0(a b:Nat):(((a:Int)+(b:Int))==0)=(a+b==0):=by
 rw[Bool.eq_iff_iff];simp only[zE];omega
theorem qIf(w:Worker)(e:Int)(hw:w.sz≤8388608):Rt 205 [.agg w.e,.one (I e)] [.one (B (qf3 w e))]:=by
 have hl:w.inputs.length≤8388608:=by simp only[Worker.sz]at hw;omega
 have l:=qaL (P:=prog) (c:=(qaa f205 0)) w.inputs (fun r=>decide (r.stamp.epoch≤e)) (fun i=>qe0 (w.queue.map Record.e) (w.staged.map Record.e) (w.inputs.map Record.e) (w.cells.map Cell.e) (w.sums.map eI) (w.black.map eB) (w.caps.map eB) (w.dones.map Done.e) e i) (X:=fun _ _=>qkU true) qat (qaf 0)
  (fun i a ha h=>qy9 ⟨lt1 (lt_of ha),lt0,lt2 (lt_of ha),qac Record.e ha,h,up1 (lt_of ha) hl,trivial⟩)
  (fun i a ha h=>qy8 ⟨lt1 (lt_of ha),lt0,lt2 (lt_of ha),qac Record.e ha,h,trivial⟩)
  (qza ⟨ge1,trivial⟩)
 unfold qf3
 rcases l with⟨_,_,h1,h2⟩ | ⟨i,a,_,_,_,_,h1,h2⟩
 ·rw[h1];exact qzc ⟨h2,trivial⟩
 ·rw[h1];exact qzb ⟨h2,trivial⟩
theorem qIg(w:Worker)(e:Int)(hw:w.sz≤8388608):Rt 141 [.agg w.e,.one (I e)] [.one (B (qf3 w e))]:=by
 have hl:w.inputs.length≤8388608:=by simp only[Worker.sz]at hw;omega
 exact qzg ⟨qzp w.inputs (fun r=>decide (r.stamp.epoch≤e)) 208 [.ptr [I e]] hl (by kernel_rfl) (fun x _=>qzh trivial),trivial⟩
theorem qIh(w:Worker)(e:Int)(hw:w.sz≤8388608):Rt 206 [.agg w.e,.one (I e)] [.one (I ((↑((qbS e w.queue).map Record.e).length:Int)+(↑((qbS e w.staged).map Record.e).length:Int)))]:=by
 simp only[Worker.sz]at hw
 have k1:(qbS e w.queue).length≤w.queue.length:=zat _ _
 have k2:(qbS e w.staged).length≤w.staged.length:=zat _ _
 exact qzf ⟨qoG w.queue e (by omega),qoG w.staged e (by omega),⟨by simp only[zb];omega,by simp only[zb];omega⟩,trivial⟩
theorem qIi(w:Worker)(e:Int)(hw:w.sz≤8388608):Rt 139 [.agg w.e,.one (I e)] [.one (B (qdz w e))]:=by
 have o:=qIf w e hw
 unfold qdz
 cases h:qf3 w e with
 | true=>rw[h]at o;exact qze ⟨o,rfl,trivial⟩
 | false=>
  rw[h]at o
  have a:=qIh w e hw
  rw[zb,zb]at a
  have b:=qzd ⟨o,rfl,a,trivial⟩
  rw[beq0]at b
  exact b
theorem qIj(w:Worker)(e:Int)(hw:w.sz≤8388608):Rt 142 [.agg w.e,.one (I e)] [.one (I ((↑((qbS e w.queue).map Record.e).length:Int)+(↑((qbS e w.staged).map Record.e).length:Int)))]:=by
 simp only[Worker.sz]at hw
 have k1:(qbS e w.queue).length≤w.queue.length:=zat _ _
 have k2:(qbS e w.staged).length≤w.staged.length:=zat _ _
 exact qzk ⟨qkI w.queue e (by omega),qkI w.staged e (by omega),⟨by simp only[zb];omega,by simp only[zb];omega⟩,trivial⟩
theorem qIk(w:Worker)(e:Int)(hw:w.sz≤8388608):Rt 82 [.agg w.e,.one (I e)] [.one (B (qdz w e))]:=by
 have o:=qIg w e hw
 unfold qdz
 cases h:qf3 w e with
 | true=>rw[h]at o;exact qzj ⟨o,rfl,trivial⟩
 | false=>
  rw[h]at o
  have a:=qIj w e hw
  rw[zb,zb]at a
  have b:=qzi ⟨o,rfl,a,trivial⟩
  rw[beq0]at b
  exact b
theorem qp8(w:Worker)(e:Int)(r:Bool)(h:qdz w e=r)(hw:w.sz≤8388608):Rt 139 [.agg w.e,.one (I e)] [.one (B r)]:=h▸qIi w e hw
theorem qp9(w:Worker)(e:Int)(r:Bool)(h:qdz w e=r)(hw:w.sz≤8388608):Rt 82 [.agg w.e,.one (I e)] [.one (B r)]:=h▸qIk w e hw
end Go.Proofs.YtdanpadojemjeaaGreat
namespace Go.Proofs.YtdanpadojemjeaaGreat
open Go.Sx Go.RowKit Go.Proofs.Tryz
theorem qqa{c:Cluster}{i:Int}{t:Token}(h:tAt c i=some t):0≤i∧i<(↑(c.tokens.map Token.e).length:Int)∧(c.tokens.map Token.e)[i.toNat]?=some t.e:=by
 obtain⟨h1,h2,h3⟩:=qll h
 exact⟨h1,by rw[zb];omega,qad Token.e h3⟩
theorem int4{xs:List Int}{e:Int}(h4:xs.length=4)(he:0≤e∧e≤3):e<(↑(xs.map eI).length:Int)∧(xs.map eI)[e.toNat]?=some [I (xs.getD e.toNat 0)]:=by
 have hl:e.toNat<xs.length:=by omega
 refine⟨by rw[zb];omega,?_⟩
 rw[zr,zu hl,zN,zu hl]
 rfl
theorem bool4{xs:List Bool}{e:Int}(h4:xs.length=4)(he:0≤e∧e≤3):e<(↑(xs.map eB).length:Int)∧(xs.map eB)[e.toNat]?=some [B (xs.getD e.toNat false)]:=by
 have hl:e.toNat<xs.length:=by omega
 refine⟨by rw[zb];omega,?_⟩
 rw[zr,zu hl,zN,zu hl]
 rfl
theorem gs1{l:List (List D)}{i:Int}{a:List D}(h0:0≤i)(h:i<(↑l.length:Int)):(l.set i.toNat a)[i.toNat]?=some a:=List.getElem?_set_self (by omega)
theorem gs2{l:List (List D)}{i:Int}{a b:List D}(h0:0≤i)(h:i<(↑l.length:Int)):((l.set i.toNat a).set i.toNat b)[i.toNat]?=some b:=by rw[zam];exact gs1 h0 h
theorem gs3{l:List (List D)}{i:Int}{a b d:List D}(h0:0≤i)(h:i<(↑l.length:Int)):(((l.set i.toNat a).set i.toNat b).set i.toNat d)[i.toNat]?=some d:=by rw[zam,zam];exact gs1 h0 h
theorem qiM(x:Worker)(e:Int):(qbZ x e).e=[.sl 5 (x.queue.map Record.e),.sl 5 (x.staged.map Record.e),.sl 5 (x.inputs.map Record.e),.sl 4 (x.cells.map Cell.e),.sl 1 (x.sums.map eI),.sl 1 ((x.black.map eB).set e.toNat [B false]),.sl 1 (x.caps.map eB),.sl 2 (x.dones.map Done.e)]:=by
 simp only[qbZ,Worker.e,zau];rfl
theorem qqb(x:Worker)(e:Int)(b:Bool):(told x e b).e=[.sl 5 (x.queue.map Record.e),.sl 5 (x.staged.map Record.e),.sl 5 (x.inputs.map Record.e),.sl 4 (x.cells.map Cell.e),.sl 1 (x.sums.map eI),.sl 1 (x.black.map eB),.sl 1 (x.caps.map eB),.sl 2 (x.dones.map Done.e++[[I e,B b]])]:=by
 simp only[told,Worker.e,zU];rfl
theorem qqc(c:Cluster)(e p:Int)(t:Token)(y:Worker):(setW (setT c e t) p y).e=[.sl 4 (c.graph.nodes.map Node.e),I c.graph.workers,I c.graph.cap,.sl 8 ((c.workers.map Worker.e).set p.toNat y.e),.sl 6 (c.links.map Link.e),.sl 5 ((c.tokens.map Token.e).set e.toNat t.e),.sl 3 (c.news.map News.e)]:=by
 simp only[setW,setT,Cluster.e,zau]
theorem qlu(c:Cluster)(e:Int)(t:Token):(setT c e t).e=[.sl 4 (c.graph.nodes.map Node.e),I c.graph.workers,I c.graph.cap,.sl 8 (c.workers.map Worker.e),.sl 6 (c.links.map Link.e),.sl 5 ((c.tokens.map Token.e).set e.toNat t.e),.sl 3 (c.news.map News.e)]:=by
 simp only[setT,Cluster.e,zau]
theorem qqd(c:Cluster)(e p:Int)(t:Token)(y:Worker)(b:Bool):runD (setW (setT c e t) p y) b=[.sl 4 (c.graph.nodes.map Node.e),I c.graph.workers,I c.graph.cap,.sl 8 ((c.workers.map Worker.e).set p.toNat y.e),.sl 6 (c.links.map Link.e),.sl 5 ((c.tokens.map Token.e).set e.toNat t.e),.sl 3 (c.news.map News.e),B b]:=by
 simp only[setW,setT,runD,zau]
theorem qIl(c:Cluster)(e:Int)(t:Token)(b:Bool):runD (setT c e t) b=[.sl 4 (c.graph.nodes.map Node.e),I c.graph.workers,I c.graph.cap,.sl 8 (c.workers.map Worker.e),.sl 6 (c.links.map Link.e),.sl 5 ((c.tokens.map Token.e).set e.toNat t.e),.sl 3 (c.news.map News.e),B b]:=by
 simp only[setT,runD,zau]
theorem qlv(n:Nat)(e:Int)(b:Bool):qa7 (n+1) e b=qa7 n e b++[⟨(n:Int)+1,e,b⟩]:=by simp[qa7,List.range_succ]
theorem qlw(n:Nat)(e:Int)(b:Bool):(qa7 n e b).length=n:=by simp[qa7]
theorem qqe{c:Cluster}{e:Int}{x0 x:Worker}{t:Token}(ok:qah c=true)(he:inR e 0 3=true)(h0:wAt c 0=some x0)(ht:tAt c e=some t)(hd:qbV x0 e=false)(hx:wAt c t.place=some x):qba c e=qaE c e t x:=by
 unfold qba
 simp only[ok,he,Bool.and_self,zbb,h0,ht,hd,zao,zci,hx]
theorem qqf{c:Cluster}{e:Int}(ok:qah c=true)(he:inR e 0 3=true):∃x0 t x,wAt c 0=some x0∧tAt c e=some t∧wAt c t.place=some x∧0<c.workers.length∧c.workers.length≤4∧
  (0≤t.place∧t.place≤3)∧(t.going=false→t.place=0)∧(-1000000≤t.sum∧t.sum≤1000000)∧x.sums.length=4∧x.black.length=4∧x.caps.length=4∧(-1000000≤x.sums.getD e.toNat 0∧x.sums.getD e.toNat 0≤1000000):=by
 obtain⟨h1,h2,h3,h4,h5,h6,h7,h8⟩:=qaY.1 ok
 have hn:=qbK h1
 obtain⟨x0,h0⟩:=qg9 (c:=c) (i:=0) (by omega) (by omega)
 obtain⟨t,ht⟩:=qHH ok he
 obtain⟨t1,t2,t3⟩:=qha.1 (qpO ok ht)
 obtain⟨x,hx⟩:=qg9 (c:=c) (i:=t.place) (by omega) (by omega)
 obtain⟨_,_,_,_,k5,k6,k7,_,k9,_⟩:=qby.1 (qcw ok hx)
 refine⟨x0,t,x,h0,ht,hx,by omega,by omega,by omega,t2,t3,k5,k6,k7,?_⟩
 simp only[inR,zi]at he
 have hl:e.toNat<x.sums.length:=by omega
 rw[zP]at k9
 have:=k9 _ (zax hl)
 rw[zN,zu hl,zV]
 simpa only[qci,zS,zX,inR,zi,zbt,Bool.not_not,Bool.not_eq_eq_eq_not,zZ,zf,Classical.not_not]using this
theorem qqg(c:Cluster)(e:Int)(x:Worker)(r:Bool)(h0:wAt c 0=some x)(hd:qbV x e=r)(hc:c.sz≤8388608):Rt 138 [.agg c.e,.one (I e)] [.one (B r)]:=by
 obtain⟨w0,w1,w2⟩:=qbL h0
 exact qy7 ⟨dT (by omega),w0,w1,w2,qkV x e r hd (qb0 h0 hc),trivial⟩
theorem qIm(c:Cluster)(b:Bool)(x:Worker)(e:Int)(cap:Bool)(h0:wAt c 0=some x)(h4:c.workers.length≤4)(hc:c.sz≤8388608):
  RetR prog 140 [.ref (runD c b) (runD (setN (setW c 0 (told x e cap)) (c.news++qa7 (c.workers.length-1) e cap)) b),.ro (.one (I e)),.ro (.one (B cap))] (.vals []):=by
 obtain⟨w0,w1,w2⟩:=qbL h0
 have hn:=qfe hc
 have hs:=qb0 h0 hc
 have hdl:x.dones.length≤8388608:=by simp only[Worker.sz]at hs;omega
 have hlen:=(qc0 h0).2.1
 have hW:((setW c 0 (told x e cap)).workers.map Worker.e).length=c.workers.length:=by simp[setW]
 have l:=qan (P:=prog) (c:=(qaa f140 0)) (qaf 0) (c.workers.length-1) (fun i:Nat=>qgZ e cap ((i:Int)+1) (c.graph.nodes.map Node.e) c.graph.workers c.graph.cap ((setW c 0 (told x e cap)).workers.map Worker.e) (c.links.map Link.e) (c.tokens.map Token.e) ((c.news++qa7 i e cap).map News.e) b) (fun i hi=>by
  have hm:=qlw i e cap
  rw[qlv,←zba,zU (l₂:=[_])]
  exact qyw ⟨dT (by rw[hW];omega),by simp;omega,by simp;omega,qap (News.flat ⟨(i:Int)+1,e,cap⟩),⟨by omega,by omega⟩,trivial⟩) (qyx ⟨dF (by rw[hW];omega),trivial⟩)
 have e2:(setW c 0 (told x e cap)).workers.map Worker.e=(c.workers.map Worker.e).set 0 [.sl 5 (x.queue.map Record.e),.sl 5 (x.staged.map Record.e),.sl 5 (x.inputs.map Record.e),.sl 4 (x.cells.map Cell.e),.sl 1 (x.sums.map eI),.sl 1 (x.black.map eB),.sl 1 (x.caps.map eB),.sl 2 (x.dones.map Done.e++[[I e,B cap]])]:=by
  rw[←qqb]
  exact qls.symm
 have e0:qa7 0 e cap=[]:=rfl
 rw[e2,e0,zaa]at l
 have e5:runD (setN (setW c 0 (told x e cap)) (c.news++qa7 (c.workers.length-1) e cap)) b=[.sl 4 (c.graph.nodes.map Node.e),I c.graph.workers,I c.graph.cap,.sl 8 ((setW c 0 (told x e cap)).workers.map Worker.e),.sl 6 (c.links.map Link.e),.sl 5 (c.tokens.map Token.e),.sl 3 ((c.news++qa7 (c.workers.length-1) e cap).map News.e),B b]:=rfl
 rw[e5,e2]
 exact qyy ⟨by omega,w1,w2,by simp;omega,by simp;omega,w2,rfl,qap (Done.flat ⟨e,cap⟩),rfl,rfl,rfl,rfl,rfl,rfl,rfl,by omega,w1,w2,rfl,l,trivial⟩
theorem qIn(c:Cluster)(e:Int)(hc:c.sz≤8388608):RetR prog 80 [.ref (runE c) (runE (qba c e).1),.ro (.one (I e))] (.vals [.one (B (qba c e).2)]):=by
 have post:=fun h=>qHQ (c:=c) (e:=e) h
 cases ok:qah c with
 | false=>
  rw[show qba c e=(c,false) by unfold qba;simp[ok]]
  simp only[runE,ok]
  exact qyz ⟨rfl,trivial⟩
 | true=>
 replace post:=post ok
 cases he:inR e 0 3 with
 | false=>
  rw[show qba c e=(c,false) by unfold qba;simp[he]]
  simp only[runE,ok]
  exact qyA ⟨rfl,qaG _ _ _ _ he,rfl,trivial⟩
 | true=>
 have he:=he
 obtain⟨x0,t,x,h0,ht,hx,hl0,hl4,hpl,hgp,hsum,hs4,hb4,hc4,hxs⟩:=qqf ok he
 have he':0≤e∧e≤3:=by simpa only[inR,zi]using he
 obtain⟨tE0,tE1,tE2⟩:=qqa ht
 obtain⟨wE0,wE1,wE2⟩:=qbL hx
 obtain⟨zE0,zE1,zE2⟩:=qbL h0
 obtain⟨sE1,sE2⟩:=int4 hs4 he'
 obtain⟨kE1,kE2⟩:=bool4 hb4 he'
 obtain⟨cE1,cE2⟩:=bool4 hc4 he'
 have hsz:=qb0 hx hc
 have hdl:x.dones.length≤8388608:=by simp only[Worker.sz]at hsz;omega
 have hll:(↑(c.workers.map Worker.e).length:Int)=(c.workers.length:Int):=by rw[zb]
 cases hd:qbV x0 e with
 | true=>
  rw[show qba c e=(c,false) by unfold qba;simp only[ok,he,Bool.and_self,zbb,h0,ht,hd]]
  simp only[runE,ok]
  exact qyB ⟨rfl,qaG _ _ _ _ he,rfl,qqg c e x0 true h0 hd hc,rfl,trivial⟩
 | false=>
 rw[qqe ok he h0 ht hd hx]at post ⊢
 have rd:=qqg c e x0 false h0 hd hc
 have wi:=qaG _ _ _ _ he
 cases hp:qdz x e with
 | false=>
  rw[show qaE c e t x=(c,false) by unfold qaE;simp[hp]]
  simp only[runE,ok]
  exact qyC ⟨rfl,wi,rfl,rd,rfl,tE0,tE1,tE2,wE0,wE1,wE2,qp8 x e _ hp hsz,rfl,trivial⟩
 | true=>
 have pa:=qp8 x e _ hp hsz
 have ei:inInt .i64 (t.sum+x.sums.getD e.toNat 0):=⟨by omega,by omega⟩
 simp only[runE,ok,post]
 clear post
 obtain⟨tg,tp,ts,tb,tc⟩:=t
 dsimp only at*
 cases tg with
 | false=>
  obtain rfl:tp=0:=hgp rfl
  rw[show qaE c e ⟨false,0,ts,tb,tc⟩ x=(setW (setT c e ⟨true,(c.workers.length:Int)-1,0,false,x.caps.getD e.toNat false⟩) 0 (qbZ x e),true) by simp only[qaE,hp,zbb,zbc]]
  dsimp only
  rw[qqd,qiM,←hll]
  exact qyD ⟨rfl,wi,rfl,rd,rfl,tE0,tE1,tE2,wE0,wE1,wE2,pa,rfl,tE0,sE1,sE2,ei,rfl,⟨by omega,by omega⟩,tE0,cE1,cE2,tE0,tE1,tE2,by omega,wE1,wE2,tE0,kE1,kE2,wE2,rfl,rfl,rfl,rfl,rfl,trivial⟩
 | true=>
 by_cases hp0:0<tp
 case pos=>
  have dp:decide (tp>0)=true:=dT hp0
  cases hr:inR (ts+x.sums.getD e.toNat 0) (-1000000) 1000000 with
  | false=>
   rw[show qaE c e ⟨true,tp,ts,tb,tc⟩ x=(c,false) by simp only[qaE,hp,zbb,zZ,zao,zci,hp0,hr]]
   exact qyE ⟨rfl,wi,rfl,rd,rfl,tE0,tE1,tE2,wE0,wE1,wE2,pa,rfl,tE0,sE1,sE2,ei,rfl,dp,qaG _ _ _ _ hr,rfl,trivial⟩
  | true=>
   have e1:qaE c e ⟨true,tp,ts,tb,tc⟩ x=(setW (setT c e ⟨true,tp-1,ts+x.sums.getD e.toNat 0,tb||x.black.getD e.toNat false,tc||x.caps.getD e.toNat false⟩) tp (qbZ x e),true):=by
    simp only[qaE,hp,zbb,zZ,zao,zci,hp0,hr]
   rw[e1]
   dsimp only
   rw[qqd,qiM]
   have wr:=qaG _ _ _ _ hr
   cases tb with
   | true=>
    cases tc with
    | true=>exact qyF ⟨rfl,wi,rfl,rd,rfl,tE0,tE1,tE2,wE0,wE1,wE2,pa,rfl,tE0,sE1,sE2,ei,rfl,dp,wr,rfl,⟨by omega,by omega⟩,rfl,rfl,tE0,tE1,tE2,wE0,wE1,wE2,tE0,kE1,kE2,wE2,rfl,rfl,rfl,rfl,rfl,trivial⟩
    | false=>exact qyG ⟨rfl,wi,rfl,rd,rfl,tE0,tE1,tE2,wE0,wE1,wE2,pa,rfl,tE0,sE1,sE2,ei,rfl,dp,wr,rfl,⟨by omega,by omega⟩,rfl,rfl,tE0,cE1,cE2,tE0,tE1,tE2,wE0,wE1,wE2,tE0,kE1,kE2,wE2,rfl,rfl,rfl,rfl,rfl,trivial⟩
   | false=>
    cases tc with
    | true=>exact qyH ⟨rfl,wi,rfl,rd,rfl,tE0,tE1,tE2,wE0,wE1,wE2,pa,rfl,tE0,sE1,sE2,ei,rfl,dp,wr,rfl,⟨by omega,by omega⟩,rfl,tE0,kE1,kE2,rfl,tE0,tE1,tE2,wE0,wE1,wE2,tE0,kE1,kE2,wE2,rfl,rfl,rfl,rfl,rfl,rfl,rfl,trivial⟩
    | false=>exact qyI ⟨rfl,wi,rfl,rd,rfl,tE0,tE1,tE2,wE0,wE1,wE2,pa,rfl,tE0,sE1,sE2,ei,rfl,dp,wr,rfl,⟨by omega,by omega⟩,rfl,tE0,kE1,kE2,rfl,tE0,cE1,cE2,tE0,tE1,tE2,wE0,wE1,wE2,tE0,kE1,kE2,wE2,rfl,rfl,rfl,rfl,rfl,rfl,rfl,trivial⟩
 case neg=>
  obtain rfl:tp=0:=by omega
  have dp:decide ((0:Int)>0)=false:=rfl
  have e1:=fun b=>qIl c e ⟨false,0,ts,tb,tc⟩ b
  have ends:=fun cap=>qIm (setT c e ⟨false,0,ts,tb,tc⟩) true x e cap (qhc.trans hx) hl4 (by rw[qiJ];exact hc)
  rw[e1]at ends
  cases tb with
  | true=>
   rw[show qaE c e ⟨true,0,ts,true,tc⟩ x=(setT c e ⟨false,0,ts,true,tc⟩,true) by simp[qaE,hp]]
   dsimp only
   rw[e1]
   exact qyN ⟨rfl,wi,rfl,rd,rfl,tE0,tE1,tE2,wE0,wE1,wE2,pa,rfl,tE0,sE1,sE2,ei,rfl,dp,tE0,tE1,tE2,rfl,trivial⟩
  | false=>
  cases hk:x.black.getD e.toNat false with
  | true=>
   rw[hk]at kE2
   rw[show qaE c e ⟨true,0,ts,false,tc⟩ x=(setT c e ⟨false,0,ts,false,tc⟩,true) by unfold qaE;simp only[hp,hk];rfl]
   dsimp only
   rw[e1]
   exact qyM ⟨rfl,wi,rfl,rd,rfl,tE0,tE1,tE2,wE0,wE1,wE2,pa,rfl,tE0,sE1,sE2,ei,rfl,dp,tE0,tE1,tE2,rfl,tE0,kE1,kE2,rfl,trivial⟩
  | false=>
  rw[hk]at kE2
  cases hz:(ts+x.sums.getD e.toNat 0==0) with
  | false=>
   rw[show qaE c e ⟨true,0,ts,false,tc⟩ x=(setT c e ⟨false,0,ts,false,tc⟩,true) by unfold qaE;simp only[hp,hk,hz];rfl]
   dsimp only
   rw[e1]
   exact qyL ⟨rfl,wi,rfl,rd,rfl,tE0,tE1,tE2,wE0,wE1,wE2,pa,rfl,tE0,sE1,sE2,ei,rfl,dp,tE0,tE1,tE2,rfl,tE0,kE1,kE2,rfl,hz,trivial⟩
  | true=>
  rw[show qaE c e ⟨true,0,ts,false,tc⟩ x=(setN (setW (setT c e ⟨false,0,ts,false,tc⟩) 0 (told x e (tc||x.caps.getD e.toNat false))) (c.news++qa7 (c.workers.length-1) e (tc||x.caps.getD e.toNat false)),true) by unfold qaE;simp only[hp,hk,hz];rfl]
  cases tc with
  | true=>exact qyJ ⟨rfl,wi,rfl,rd,rfl,tE0,tE1,tE2,wE0,wE1,wE2,pa,rfl,tE0,sE1,sE2,ei,rfl,dp,tE0,tE1,tE2,rfl,tE0,kE1,kE2,rfl,hz,rfl,ends true,trivial⟩
  | false=>exact qyK ⟨rfl,wi,rfl,rd,rfl,tE0,tE1,tE2,wE0,wE1,wE2,pa,rfl,tE0,sE1,sE2,ei,rfl,dp,tE0,tE1,tE2,rfl,tE0,kE1,kE2,rfl,hz,rfl,tE0,cE1,cE2,ends _,trivial⟩
theorem qIo(c:Cluster)(e:Int)(W T:List (List D))(hlen:0<c.workers.length)(h4:c.workers.length≤4)(hc:c.sz≤8388608):qaj prog (qaa f19 0) (qfR e 1 (c.graph.nodes.map Node.e) c.graph.workers c.graph.cap W (c.links.map Link.e) T (c.news.map News.e) 0 0 (c.graph.nodes.map Node.e) c.graph.workers c.graph.cap (c.workers.map Worker.e) (c.links.map Link.e) (c.tokens.map Token.e) (c.news.map News.e)) (.exit 1) (qfS (c.graph.nodes.map Node.e) c.graph.workers c.graph.cap W (c.links.map Link.e) T ((c.news++qa7 (c.workers.length-1) e true).map News.e) 0 0):=by
 have hn:=qfe hc
 have l:=qan (P:=prog) (c:=(qaa f19 0)) (qaf 1) (c.workers.length-1) (fun i:Nat=>qfR e ((i:Int)+1) (c.graph.nodes.map Node.e) c.graph.workers c.graph.cap W (c.links.map Link.e) T ((c.news++qa7 i e true).map News.e) 0 0 (c.graph.nodes.map Node.e) c.graph.workers c.graph.cap (c.workers.map Worker.e) (c.links.map Link.e) (c.tokens.map Token.e) (c.news.map News.e)) (fun i hi=>by
  have hm:=qlw i e true
  rw[qlv,←zba,zU (l₂:=[_])]
  exact qyY ⟨dT (by simp;omega),by simp;omega,by simp;omega,qap (News.flat ⟨(i:Int)+1,e,true⟩),⟨by omega,by omega⟩,trivial⟩) (qyZ ⟨dF (by simp;omega),trivial⟩)
 have e0:qa7 0 e true=[]:=rfl
 rw[e0,zaa]at l
 exact l
theorem qIp(c:Cluster)(e:Int)(cap:Bool)(W T:List (List D))(hlen:0<c.workers.length)(h4:c.workers.length≤4)(hc:c.sz≤8388608):qaj prog (qaa f19 0) (qfT e cap 1 (c.graph.nodes.map Node.e) c.graph.workers c.graph.cap W (c.links.map Link.e) T (c.news.map News.e) 0 0 (c.graph.nodes.map Node.e) c.graph.workers c.graph.cap (c.workers.map Worker.e) (c.links.map Link.e) (c.tokens.map Token.e) (c.news.map News.e)) (.exit 1) (qfS (c.graph.nodes.map Node.e) c.graph.workers c.graph.cap W (c.links.map Link.e) T ((c.news++qa7 (c.workers.length-1) e cap).map News.e) 0 0):=by
 have hn:=qfe hc
 have l:=qan (P:=prog) (c:=(qaa f19 0)) (qaf 1) (c.workers.length-1) (fun i:Nat=>qfT e cap ((i:Int)+1) (c.graph.nodes.map Node.e) c.graph.workers c.graph.cap W (c.links.map Link.e) T ((c.news++qa7 i e cap).map News.e) 0 0 (c.graph.nodes.map Node.e) c.graph.workers c.graph.cap (c.workers.map Worker.e) (c.links.map Link.e) (c.tokens.map Token.e) (c.news.map News.e)) (fun i hi=>by
  have hm:=qlw i e cap
  rw[qlv,←zba,zU (l₂:=[_])]
  exact qy1 ⟨dT (by simp;omega),by simp;omega,by simp;omega,qap (News.flat ⟨(i:Int)+1,e,cap⟩),⟨by omega,by omega⟩,trivial⟩) (qy2 ⟨dF (by simp;omega),trivial⟩)
 have e0:qa7 0 e cap=[]:=rfl
 rw[e0,zaa]at l
 exact l
theorem qIq(c:Cluster)(e:Int)(hc:c.sz≤8388608)(hw:GotLe c):Rt 19 [.agg c.e,.one (I e)] [.agg (qba c e).1.e,.one (B (qba c e).2)]:=by
 have cp:=qcX c hc
 have okr:=qiF c hc hw
 cases ok:qah c with
 | false=>
  rw[ok]at okr
  rw[show qba c e=(c,false) by unfold qba;simp[ok]]
  exact qyO ⟨cp,okr,rfl,trivial⟩
 | true=>
 rw[ok]at okr
 cases he:inR e 0 3 with
 | false=>
  rw[show qba c e=(c,false) by unfold qba;simp[he]]
  exact qyP ⟨cp,okr,rfl,qaT _ _ _ _ he,rfl,trivial⟩
 | true=>
 have he:=he
 obtain⟨x0,t,x,h0,ht,hx,hl0,hl4,hpl,hgp,hsum,hs4,hb4,hc4,hxs⟩:=qqf ok he
 have he':0≤e∧e≤3:=by simpa only[inR,zi]using he
 obtain⟨tE0,tE1,tE2⟩:=qqa ht
 obtain⟨wE0,wE1,wE2⟩:=qbL hx
 obtain⟨zE0,zE1,zE2⟩:=qbL h0
 obtain⟨sE1,sE2⟩:=int4 hs4 he'
 obtain⟨kE1,kE2⟩:=bool4 hb4 he'
 obtain⟨cE1,cE2⟩:=bool4 hc4 he'
 have hsz:=qb0 hx hc
 have hdl:x.dones.length≤8388608:=by simp only[Worker.sz]at hsz;omega
 have hll:(↑(c.workers.map Worker.e).length:Int)=(c.workers.length:Int):=by rw[zb]
 have wi:=qaT _ _ _ _ he
 cases hd:qbV x0 e with
 | true=>
  rw[show qba c e=(c,false) by unfold qba;simp only[ok,he,Bool.and_self,zbb,h0,ht,hd]]
  exact qyQ ⟨cp,okr,rfl,wi,rfl,by omega,zE1,zE2,qiK x0 e true hd (qb0 h0 hc),rfl,trivial⟩
 | false=>
 have dn:=qiK x0 e false hd (qb0 h0 hc)
 rw[qqe ok he h0 ht hd hx]
 cases hp:qdz x e with
 | false=>
  rw[show qaE c e t x=(c,false) by unfold qaE;simp[hp]]
  exact qyR ⟨cp,okr,rfl,wi,rfl,by omega,zE1,zE2,dn,rfl,tE0,tE1,tE2,wE0,wE1,wE2,qp9 x e _ hp hsz,rfl,trivial⟩
 | true=>
 have pa:=qp9 x e _ hp hsz
 have ei:inInt .i64 (t.sum+x.sums.getD e.toNat 0):=⟨by omega,by omega⟩
 obtain⟨tg,tp,ts,tb,tc⟩:=t
 dsimp only at*
 cases tg with
 | false=>
  obtain rfl:tp=0:=hgp rfl
  rw[show qaE c e ⟨false,0,ts,tb,tc⟩ x=(setW (setT c e ⟨true,(c.workers.length:Int)-1,0,false,x.caps.getD e.toNat false⟩) 0 (qbZ x e),true) by simp only[qaE,hp,zbb,zbc]]
  dsimp only
  rw[qqc,qiM,←hll]
  exact qyS ⟨cp,okr,rfl,wi,rfl,by omega,zE1,zE2,dn,rfl,tE0,tE1,tE2,wE0,wE1,wE2,pa,rfl,tE2,rfl,wE2,tE0,cE1,cE2,⟨by omega,by omega⟩,tE2,wE2,tE0,kE1,kE2,wE2,rfl,rfl,rfl,trivial⟩
 | true=>
 by_cases hp0:0<tp
 case pos=>
  have dp:decide (tp>0)=true:=dT hp0
  cases hr:inR (ts+x.sums.getD e.toNat 0) (-1000000) 1000000 with
  | false=>
   rw[show qaE c e ⟨true,tp,ts,tb,tc⟩ x=(c,false) by simp only[qaE,hp,zbb,zZ,zao,zci,hp0,hr]]
   exact qyT ⟨cp,okr,rfl,wi,rfl,by omega,zE1,zE2,dn,rfl,tE0,tE1,tE2,wE0,wE1,wE2,pa,rfl,tE2,rfl,tE2,dp,tE2,wE2,tE0,sE1,sE2,ei,qaT _ _ _ _ hr,rfl,trivial⟩
  | true=>
   have e1:qaE c e ⟨true,tp,ts,tb,tc⟩ x=(setW (setT c e ⟨true,tp-1,ts+x.sums.getD e.toNat 0,tb||x.black.getD e.toNat false,tc||x.caps.getD e.toNat false⟩) tp (qbZ x e),true):=by
    simp only[qaE,hp,zbb,zZ,zao,zci,hp0,hr]
   rw[e1]
   dsimp only
   rw[qqc,qiM]
   have wr:=qaT _ _ _ _ hr
   have k1:inInt .i64 (tp-1):=⟨by omega,by omega⟩
   cases tb with
   | true=>
    cases tc with
    | true=>
     have key:=qyU ⟨cp,okr,rfl,wi,rfl,by omega,zE1,zE2,dn,rfl,tE0,tE1,tE2,wE0,wE1,wE2,pa,rfl,tE2,rfl,tE2,dp,tE2,wE2,tE0,sE1,sE2,ei,wr,rfl,tE2,wE2,tE0,sE1,sE2,ei,tE2,gs1 tE0 tE1,rfl,gs1 tE0 tE1,gs2 tE0 tE1,rfl,gs2 tE0 tE1,wE2,tE0,kE1,kE2,wE2,rfl,rfl,rfl,gs3 tE0 tE1,k1,gs3 tE0 tE1,trivial⟩
     simp only[zam]at key
     exact key
    | false=>
     have key:=qyV ⟨cp,okr,rfl,wi,rfl,by omega,zE1,zE2,dn,rfl,tE0,tE1,tE2,wE0,wE1,wE2,pa,rfl,tE2,rfl,tE2,dp,tE2,wE2,tE0,sE1,sE2,ei,wr,rfl,tE2,wE2,tE0,sE1,sE2,ei,tE2,gs1 tE0 tE1,rfl,gs1 tE0 tE1,gs2 tE0 tE1,rfl,wE2,tE0,cE1,cE2,gs2 tE0 tE1,wE2,tE0,kE1,kE2,wE2,rfl,rfl,rfl,gs3 tE0 tE1,k1,gs3 tE0 tE1,trivial⟩
     simp only[zam]at key
     exact key
   | false=>
    cases tc with
    | true=>
     have key:=qyW ⟨cp,okr,rfl,wi,rfl,by omega,zE1,zE2,dn,rfl,tE0,tE1,tE2,wE0,wE1,wE2,pa,rfl,tE2,rfl,tE2,dp,tE2,wE2,tE0,sE1,sE2,ei,wr,rfl,tE2,wE2,tE0,sE1,sE2,ei,tE2,gs1 tE0 tE1,rfl,wE2,tE0,kE1,kE2,gs1 tE0 tE1,gs2 tE0 tE1,rfl,gs2 tE0 tE1,wE2,tE0,kE1,kE2,wE2,rfl,rfl,rfl,rfl,rfl,gs3 tE0 tE1,k1,gs3 tE0 tE1,trivial⟩
     simp only[zam]at key
     exact key
    | false=>
     have key:=qyX ⟨cp,okr,rfl,wi,rfl,by omega,zE1,zE2,dn,rfl,tE0,tE1,tE2,wE0,wE1,wE2,pa,rfl,tE2,rfl,tE2,dp,tE2,wE2,tE0,sE1,sE2,ei,wr,rfl,tE2,wE2,tE0,sE1,sE2,ei,tE2,gs1 tE0 tE1,rfl,wE2,tE0,kE1,kE2,gs1 tE0 tE1,gs2 tE0 tE1,rfl,wE2,tE0,cE1,cE2,gs2 tE0 tE1,wE2,tE0,kE1,kE2,wE2,rfl,rfl,rfl,rfl,rfl,gs3 tE0 tE1,k1,gs3 tE0 tE1,trivial⟩
     simp only[zam]at key
     exact key
 case neg=>
  obtain rfl:tp=0:=by omega
  have dp:decide ((0:Int)>0)=false:=rfl
  cases tb with
  | true=>
   rw[show qaE c e ⟨true,0,ts,true,tc⟩ x=(setT c e ⟨false,0,ts,true,tc⟩,true) by simp[qaE,hp]]
   dsimp only
   rw[qlu]
   exact qy6 ⟨cp,okr,rfl,wi,rfl,by omega,zE1,zE2,dn,rfl,tE0,tE1,tE2,wE0,wE1,wE2,pa,rfl,tE2,rfl,tE2,dp,tE2,gs1 tE0 tE1,rfl,trivial⟩
  | false=>
  cases hk:x.black.getD e.toNat false with
  | true=>
   rw[hk]at kE2
   rw[show qaE c e ⟨true,0,ts,false,tc⟩ x=(setT c e ⟨false,0,ts,false,tc⟩,true) by unfold qaE;simp only[hp,hk];rfl]
   dsimp only
   rw[qlu]
   exact qy5 ⟨cp,okr,rfl,wi,rfl,by omega,zE1,zE2,dn,rfl,tE0,tE1,tE2,wE0,wE1,wE2,pa,rfl,tE2,rfl,tE2,dp,tE2,gs1 tE0 tE1,rfl,wE2,tE0,kE1,kE2,rfl,trivial⟩
  | false=>
  rw[hk]at kE2
  cases hz:(ts+x.sums.getD e.toNat 0==0) with
  | false=>
   rw[show qaE c e ⟨true,0,ts,false,tc⟩ x=(setT c e ⟨false,0,ts,false,tc⟩,true) by unfold qaE;simp only[hp,hk,hz];rfl]
   dsimp only
   rw[qlu]
   exact qy4 ⟨cp,okr,rfl,wi,rfl,by omega,zE1,zE2,dn,rfl,tE0,tE1,tE2,wE0,wE1,wE2,pa,rfl,tE2,rfl,tE2,dp,tE2,gs1 tE0 tE1,rfl,wE2,tE0,kE1,kE2,rfl,gs1 tE0 tE1,wE2,tE0,sE1,sE2,ei,hz,trivial⟩
  | true=>
  rw[show qaE c e ⟨true,0,ts,false,tc⟩ x=(setN (setW (setT c e ⟨false,0,ts,false,tc⟩) 0 (told x e (tc||x.caps.getD e.toNat false))) (c.news++qa7 (c.workers.length-1) e (tc||x.caps.getD e.toNat false)),true) by unfold qaE;simp only[hp,hk,hz];rfl]
  have e4:∀cap,(setN (setW (setT c e ⟨false,0,ts,false,tc⟩) 0 (told x e cap)) (c.news++qa7 (c.workers.length-1) e cap)).e=[.sl 4 (c.graph.nodes.map Node.e),I c.graph.workers,I c.graph.cap,.sl 8 ((c.workers.map Worker.e).set 0 [.sl 5 (x.queue.map Record.e),.sl 5 (x.staged.map Record.e),.sl 5 (x.inputs.map Record.e),.sl 4 (x.cells.map Cell.e),.sl 1 (x.sums.map eI),.sl 1 (x.black.map eB),.sl 1 (x.caps.map eB),.sl 2 (x.dones.map Done.e++[[I e,B cap]])]),.sl 6 (c.links.map Link.e),.sl 5 ((c.tokens.map Token.e).set e.toNat (Token.e ⟨false,0,ts,false,tc⟩)),.sl 3 ((c.news++qa7 (c.workers.length-1) e cap).map News.e)]:=fun cap=>by
   rw[←qqb]
   simp only[setN,setW,setT,Cluster.e,zau]
   rfl
  cases tc with
  | true=>
   dsimp only[Bool.true_or]
   rw[e4]
   exact qy0 ⟨cp,okr,rfl,wi,rfl,by omega,zE1,zE2,dn,rfl,tE0,tE1,tE2,wE0,wE1,wE2,pa,rfl,tE2,rfl,tE2,dp,tE2,gs1 tE0 tE1,rfl,wE2,tE0,kE1,kE2,rfl,gs1 tE0 tE1,wE2,tE0,sE1,sE2,ei,hz,gs1 tE0 tE1,rfl,wE2,by simp;omega,by simp;omega,wE2,rfl,rfl,rfl,qap (Done.flat ⟨e,true⟩),wE2,rfl,qIo c e _ _ hl0 hl4 hc,trivial⟩
  | false=>
   dsimp only[zal]
   rw[e4]
   exact qy3 ⟨cp,okr,rfl,wi,rfl,by omega,zE1,zE2,dn,rfl,tE0,tE1,tE2,wE0,wE1,wE2,pa,rfl,tE2,rfl,tE2,dp,tE2,gs1 tE0 tE1,rfl,wE2,tE0,kE1,kE2,rfl,gs1 tE0 tE1,wE2,tE0,sE1,sE2,ei,hz,gs1 tE0 tE1,rfl,wE2,tE0,cE1,cE2,wE2,by simp;omega,by simp;omega,wE2,rfl,rfl,rfl,qap (Done.flat ⟨e,_⟩),wE2,rfl,qIp c e _ _ _ hl0 hl4 hc,trivial⟩
end Go.Proofs.YtdanpadojemjeaaGreat
namespace Go.Proofs.YtdanpadojemjeaaGreat
open Go.Sx Go.RowKit Go.Proofs.Tryz
section
variable {xs : List Record} {r : Record} {t : List Record}
theorem qdm(h:xs=r::t):((xs.map Record.e).drop 1).take ((xs.map Record.e).length-1)=t.map Record.e:=by subst h;exact zbk (by simp)
theorem qca(h:xs=r::t):(0:Int)<(↑(xs.map Record.e).length:Int):=by subst h;simp only[zb,zq];omega
theorem qcJ(h:xs=r::t):(xs.map Record.e)[0]?=some r.e:=by subst h;rfl
theorem len_t(h:xs=r::t):((↑(xs.map Record.e).length:Int)==0)=false:=by
 have:=qca h
 rw[zQ,zcc,zE];omega
theorem len_f(h:xs=[]):((↑(xs.map Record.e).length:Int)==0)=true:=by subst h;rfl
theorem pos_t(h:xs=r::t):decide ((↑(xs.map Record.e).length:Int)>0)=true:=dT (qca h)
theorem pos_f(h:xs=[]):decide ((↑(xs.map Record.e).length:Int)>0)=false:=by subst h;rfl
theorem cut_a:(0:Int)≤(some (1:Int)).getD 0:=by decide
theorem cut_b(h:xs=r::t):(some (1:Int)).getD 0≤(none:Option Int).getD (↑(xs.map Record.e).length:Int):=by
 have:=qca h
 simp only[zV,Option.getD_none];omega
theorem cut_c{l:List (List D)}:(none:Option Int).getD (↑l.length:Int)≤(↑l.length:Int):=by simp
theorem qf6(h:xs=r::t)(hl:xs.length≤8388608):(([]:List (List D)).length+(((xs.map Record.e).drop 1).take ((xs.map Record.e).length-1)).length)*40≤140737488355328:=by
 rw[qdm h];refine nl _ ?_;subst h;simp only[zb,zq]at *;omega
theorem qf7(h:xs=r::t)(hl:xs.length≤8388608):([]:List (List D)).length+(((xs.map Record.e).drop 1).take ((xs.map Record.e).length-1)).length≤9223372036854775807:=by
 rw[qdm h];refine nl1 _ ?_;subst h;simp only[zb,zq]at *;omega
theorem qf8(h:xs=r::t):Flat (((xs.map Record.e).drop 1).take ((xs.map Record.e).length-1)):=by rw[qdm h];exact qae _ Record.flat _
theorem qhe(h:xs=r::t):([]:List (List D))++((xs.map Record.e).drop 1).take ((xs.map Record.e).length-1)=t.map Record.e:=qdm h
end
theorem one_m{xs:List Record}{a:List D}(h:xs.length≤8388608):((xs.map Record.e).length+[a].length)*40≤140737488355328:=by simp;omega
theorem one_x{xs:List Record}{a:List D}(h:xs.length≤8388608):(xs.map Record.e).length+[a].length≤9223372036854775807:=by simp;omega
theorem qqz(a:Int)(q:List Record)(r:Record)(b c d e:Int):Link.e ⟨a,q++[r],b,c,d,e⟩=[I a,.sl 5 (q.map Record.e++[r.e]),I b,I c,I d,I e]:=by
 simp only[Link.e,zU];rfl
theorem qf9{l:Link}(h:qbl l=true):(0≤l.credits∧l.credits≤4)∧(0≤l.back∧l.back≤4)∧(0≤l.sent∧l.sent≤1000000000)∧(0≤l.got∧l.got≤1000000000)∧l.queue.length≤4:=by
 obtain⟨k1,k2,k3,k4,k5,k6,k7,k8⟩:=qed.1 h
 simp only[inR,zi]at k1 k2 k3 k5
 omega
theorem qKg(l:Link)(r:Record)(hl:l.sz≤8388608):Rt 214 [.agg l.e,.agg r.e] [.agg (qaD l r).1.e,.one (B (qaD l r).2)]:=by
 have cp:=qin l hl
 have k:=qiB l hl
 have kr:=qdy r
 have hq:l.queue.length≤8388608:=hl
 cases h1:qbl l with
 | false=>
  rw[h1]at k
  rw[show qaD l r=(l,false) by unfold qaD;simp[h1]]
  exact qJz ⟨cp,k,rfl,trivial⟩
 | true=>
 rw[h1]at k
 cases h2:qaC r with
 | false=>
  rw[h2]at kr
  rw[show qaD l r=(l,false) by unfold qaD;simp[h2]]
  exact qJA ⟨cp,k,rfl,kr,rfl,trivial⟩
 | true=>
 rw[h2]at kr
 by_cases h3:l.credits=0
 ·rw[show qaD l r=(l,false) by unfold qaD;simp[h3]]
  exact qJB ⟨cp,k,rfl,kr,rfl,by rw[zE];exact h3,trivial⟩
 have h3':(l.credits==0)=false:=by rw[zQ,zcc,zE];exact h3
 obtain⟨n1,n2,n3,n4,n5⟩:=qf9 h1
 by_cases h4:l.sent<1000000000
 ·rw[show qaD l r=(⟨l.cap,l.queue++[r],l.credits-1,l.back,l.sent+1,l.got⟩,true) by unfold qaD;simp[h1,h2,h3,h4]]
  dsimp only
  rw[qqz]
  exact qJD ⟨cp,k,rfl,kr,rfl,h3',dF (by omega),one_m hq,one_x hq,qap (Record.flat r),⟨by omega,by omega⟩,⟨by omega,by omega⟩,trivial⟩
 ·rw[show qaD l r=(l,false) by unfold qaD;simp[h4]]
  dsimp only
  exact qJC ⟨cp,k,rfl,kr,rfl,h3',dT (by omega),trivial⟩
theorem qKh(l:Link)(hl:l.sz≤8388608):Rt 216 [.agg l.e] [.agg (qav l).1.e,.agg (qav l).2.1.e,.one (B (qav l).2.2)]:=by
 have cp:=qin l hl
 have k:=qiB l hl
 have hq:l.queue.length≤8388608:=hl
 cases h1:qbl l with
 | false=>
  rw[h1]at k
  rw[show qav l=(l,rec0,false) by unfold qav;simp[h1]]
  exact qJE ⟨cp,k,rfl,trivial⟩
 | true=>
 rw[h1]at k
 cases h2:l.queue with
 | nil=>
  rw[show qav l=(l,rec0,false) by unfold qav;rw[zp h1];simp only[h2]]
  exact qJF ⟨cp,k,rfl,len_f h2,trivial⟩
 | cons r q=>
  obtain⟨n1,n2,n3,n4,n5⟩:=qf9 h1
  rw[show qav l=(⟨l.cap,q,l.credits,l.back+1,l.sent,l.got+1⟩,r,true) by unfold qav;rw[zp h1];simp only[h2]]
  have e:Link.e ⟨l.cap,q,l.credits,l.back+1,l.sent,l.got+1⟩=[I l.cap,.sl 5 (((l.queue.map Record.e).drop 1).take ((l.queue.map Record.e).length-1)),I l.credits,I (l.back+1),I l.sent,I (l.got+1)]:=by rw[qdm h2];rfl
  dsimp only
  rw[e]
  exact qJG ⟨cp,k,rfl,len_t h2,by omega,qca h2,qcJ h2,cut_a,cut_b h2,cut_c,qf6 h2 hq,qf7 h2 hq,qf8 h2,⟨by omega,by omega⟩,⟨by omega,by omega⟩,trivial⟩
theorem qKi(l:Link)(hl:l.sz≤8388608):Rt 217 [.agg l.e] [.agg (qa2 l).1.e,.one (B (qa2 l).2)]:=by
 have cp:=qin l hl
 have k:=qiB l hl
 cases h1:qbl l with
 | false=>
  rw[h1]at k
  rw[show qa2 l=(l,false) by unfold qa2;simp[h1]]
  exact qJr ⟨cp,k,rfl,trivial⟩
 | true=>
 rw[h1]at k
 by_cases h3:l.back=0
 ·rw[show qa2 l=(l,false) by unfold qa2;simp[h3]]
  exact qJs ⟨cp,k,rfl,by rw[zE];exact h3,trivial⟩
 ·obtain⟨n1,n2,n3,n4,n5⟩:=qf9 h1
  rw[show qa2 l=(⟨l.cap,l.queue,l.credits+1,l.back-1,l.sent,l.got⟩,true) by unfold qa2;simp[h1,h3]]
  exact qJt ⟨cp,k,rfl,by rw[zQ,zcc,zE];exact h3,⟨by omega,by omega⟩,⟨by omega,by omega⟩,trivial⟩
theorem qKj(l:Link)(r:Record)(hl:l.sz≤8388608)(hg:l.got≤9223372036854775807):Rt 156 [.agg l.e,.agg r.e] [.agg (qaD l r).1.e,.one (B (qaD l r).2)]:=by
 have cp:=qim l hl
 have k:=qiA l hl hg
 have kr:=qdk r
 have hq:l.queue.length≤8388608:=hl
 cases h1:qbl l with
 | false=>
  rw[h1]at k
  rw[show qaD l r=(l,false) by unfold qaD;simp[h1]]
  exact qIT ⟨cp,k,rfl,trivial⟩
 | true=>
 rw[h1]at k
 cases h2:qaC r with
 | false=>
  rw[h2]at kr
  rw[show qaD l r=(l,false) by unfold qaD;simp[h2]]
  exact qIU ⟨cp,k,rfl,kr,rfl,trivial⟩
 | true=>
 rw[h2]at kr
 by_cases h3:l.credits=0
 ·rw[show qaD l r=(l,false) by unfold qaD;simp[h3]]
  exact qIV ⟨cp,k,rfl,kr,rfl,by rw[zE];exact h3,trivial⟩
 have h3':(l.credits==0)=false:=by rw[zQ,zcc,zE];exact h3
 obtain⟨n1,n2,n3,n4,n5⟩:=qf9 h1
 by_cases h4:l.sent<1000000000
 ·rw[show qaD l r=(⟨l.cap,l.queue++[r],l.credits-1,l.back,l.sent+1,l.got⟩,true) by unfold qaD;simp[h1,h2,h3,h4]]
  dsimp only
  rw[qqz]
  exact qIX ⟨cp,k,rfl,kr,rfl,h3',by rw[zQ,zcc,zE];omega,one_m hq,one_x hq,qap (Record.flat r),⟨by omega,by omega⟩,⟨by omega,by omega⟩,trivial⟩
 ·rw[show qaD l r=(l,false) by unfold qaD;simp[h4]]
  dsimp only
  exact qIW ⟨cp,k,rfl,kr,rfl,h3',by rw[zE];omega,trivial⟩
theorem qKk(l:Link)(hl:l.sz≤8388608)(hg:l.got≤9223372036854775807):Rt 159 [.agg l.e] [.agg (qav l).1.e,.agg (qav l).2.1.e,.one (B (qav l).2.2)]:=by
 have cp:=qim l hl
 have k:=qiA l hl hg
 have hq:l.queue.length≤8388608:=hl
 cases h1:qbl l with
 | false=>
  rw[h1]at k
  rw[show qav l=(l,rec0,false) by unfold qav;simp[h1]]
  exact qI7 ⟨cp,k,rfl,trivial⟩
 | true=>
 rw[h1]at k
 cases h2:l.queue with
 | nil=>
  rw[show qav l=(l,rec0,false) by unfold qav;rw[zp h1];simp only[h2]]
  exact qI8 ⟨cp,k,rfl,len_f h2,trivial⟩
 | cons r q=>
  obtain⟨n1,n2,n3,n4,n5⟩:=qf9 h1
  rw[show qav l=(⟨l.cap,q,l.credits,l.back+1,l.sent,l.got+1⟩,r,true) by unfold qav;rw[zp h1];simp only[h2]]
  have e:Link.e ⟨l.cap,q,l.credits,l.back+1,l.sent,l.got+1⟩=[I l.cap,.sl 5 (((l.queue.map Record.e).drop 1).take ((l.queue.map Record.e).length-1)),I l.credits,I (l.back+1),I l.sent,I (l.got+1)]:=by rw[qdm h2];rfl
  dsimp only
  rw[e]
  exact qI9 ⟨cp,k,rfl,len_t h2,cut_a,cut_b h2,cut_c,⟨by omega,by omega⟩,⟨by omega,by omega⟩,by omega,qca h2,qcJ h2,trivial⟩
theorem qKl(l:Link)(hl:l.sz≤8388608)(hg:l.got≤9223372036854775807):Rt 161 [.agg l.e] [.agg (qa2 l).1.e,.one (B (qa2 l).2)]:=by
 have cp:=qim l hl
 have k:=qiA l hl hg
 cases h1:qbl l with
 | false=>
  rw[h1]at k
  rw[show qa2 l=(l,false) by unfold qa2;simp[h1]]
  exact qIr ⟨cp,k,rfl,trivial⟩
 | true=>
 rw[h1]at k
 by_cases h3:l.back=0
 ·rw[show qa2 l=(l,false) by unfold qa2;simp[h3]]
  exact qIs ⟨cp,k,rfl,by rw[zE];exact h3,trivial⟩
 ·obtain⟨n1,n2,n3,n4,n5⟩:=qf9 h1
  rw[show qa2 l=(⟨l.cap,l.queue,l.credits+1,l.back-1,l.sent,l.got⟩,true) by unfold qa2;simp[h1,h3]]
  exact qIt ⟨cp,k,rfl,by rw[zQ,zcc,zE];exact h3,⟨by omega,by omega⟩,⟨by omega,by omega⟩,trivial⟩
theorem qqA{n a b:Int}(hn:1≤n∧n≤4)(ha:inR a 0 (n-1)=true)(hb:inR b 0 (n-1)=true):inInt .i64 (a*n)∧inInt .i64 (a*n+b):=by
 simp only[inR,zi]at ha hb
 have hn4:n=1∨n=2∨n=3∨n=4:=by omega
 rcases hn4 with rfl | rfl | rfl | rfl<;>exact⟨⟨by omega,by omega⟩,⟨by omega,by omega⟩⟩
theorem qlB{n:Int}(h:inInt .i64 n):IntKind.i64.wrap n=n:=by
 obtain⟨h1,h2⟩:=h
 simp only[IntKind.wrap_i64];omega
theorem qqB(g:Graph)(a b:Int):∃v,Rt 213 [.agg g.e,.one (I a),.one (I b)] [.one (I v)]:=by
 cases ha:inR a 0 (IntKind.i64.wrap (g.workers-1)) with
 | false=>exact⟨_,qqr ⟨qaG _ _ _ _ ha,rfl,trivial⟩⟩
 | true=>
 cases hb:inR b 0 (IntKind.i64.wrap (g.workers-1)) with
 | false=>exact⟨_,qqs ⟨qaG _ _ _ _ ha,rfl,qaG _ _ _ _ hb,rfl,trivial⟩⟩
 | true=>
 by_cases hn:g.workers<1
 ·exact⟨_,qJy ⟨qaG _ _ _ _ ha,rfl,qaG _ _ _ _ hb,rfl,dT hn,trivial⟩⟩
 ·exact⟨_,qqt ⟨qaG _ _ _ _ ha,rfl,qaG _ _ _ _ hb,rfl,dF hn,trivial⟩⟩
theorem qlC(g:Graph)(a b:Int)(hn:1≤g.workers∧g.workers≤4):Rt 213 [.agg g.e,.one (I a),.one (I b)] [.one (I (qaQ g a b))]:=by
 have i1:IntKind.i64.wrap (g.workers-1)=g.workers-1:=qlB ⟨by omega,by omega⟩
 have in1:∀(x:Int) (r:Bool),inR x 0 (g.workers-1)=r→Rt 137 [.one (I x),.one (I 0),.one (I (IntKind.i64.wrap (g.workers-1)))] [.one (B r)]:=fun x r h=>by
  rw[i1];exact qaG _ _ _ _ h
 cases ha:inR a 0 (g.workers-1) with
 | false=>
  rw[qee (by rw[ha];rfl)]
  exact qqr ⟨in1 _ _ ha,rfl,trivial⟩
 | true=>
 cases hb:inR b 0 (g.workers-1) with
 | false=>
  rw[qee (by rw[ha,hb];rfl)]
  exact qqs ⟨in1 _ _ ha,rfl,in1 _ _ hb,rfl,trivial⟩
 | true=>
  obtain⟨j1,j2⟩:=qqA hn ha hb
  have key:Rt 213 [.agg g.e,.one (I a),.one (I b)] [.one (I (IntKind.i64.wrap (IntKind.i64.wrap (a*g.workers)+b)))]:=qqt ⟨in1 a true ha,rfl,in1 b true hb,rfl,dF (by omega),trivial⟩
  rw[qlB j1,qlB j2]at key
  rw[(qiI hn ha hb).1]
  exact key
theorem qqC(g:Graph)(a b:Int)(hn:1≤g.workers∧g.workers≤4):Rt 155 [.agg g.e,.one (I a),.one (I b)] [.one (I (qaQ g a b))]:=by
 cases hh:(inR a 0 (g.workers-1)&&inR b 0 (g.workers-1)) with
 | true=>
  rw[zj]at hh
  obtain⟨j1,j2⟩:=qqA hn hh.1 hh.2
  rw[(qiI hn hh.1 hh.2).1]
  obtain⟨ha,hb⟩:=hh
  simp only[inR,zi]at ha hb
  exact qIF ⟨dF (by split<;>omega),dF (by split<;>omega),j1,j2,trivial⟩
 | false=>
  rw[qee hh]
  have hh':¬((0≤a∧a≤g.workers-1)∧(0≤b∧b≤g.workers-1)):=by
   intro k
   have:(inR a 0 (g.workers-1)&&inR b 0 (g.workers-1))=true:=by simp only[inR,zj,zi];exact k
   rw[this]at hh;cases hh
  by_cases hm:(if b<a then b else a)<0
  ·exact qID ⟨dT hm,trivial⟩
  ·exact qIE ⟨dF hm,dT (by split at hm<;>split<;>omega),trivial⟩
theorem qlD(w:Worker)(r:Record):(kept w r).e=[.sl 5 (w.queue.map Record.e++[r.e]),.sl 5 (w.staged.map Record.e),.sl 5 (w.inputs.map Record.e),.sl 4 (w.cells.map Cell.e),.sl 1 (w.sums.map eI),.sl 1 (w.black.map eB),.sl 1 (w.caps.map eB),.sl 2 (w.dones.map Done.e)]:=by
 simp only[kept,Worker.e,zU];rfl
theorem qKm(w:Worker)(r:Record):(received w r).e=[.sl 5 (w.queue.map Record.e++[r.e]),.sl 5 (w.staged.map Record.e),.sl 5 (w.inputs.map Record.e),.sl 4 (w.cells.map Cell.e),.sl 1 ((w.sums.map eI).set r.stamp.epoch.toNat [I (w.sums.getD r.stamp.epoch.toNat 0-1)]),.sl 1 ((w.black.map eB).set r.stamp.epoch.toNat [B true]),.sl 1 (w.caps.map eB),.sl 2 (w.dones.map Done.e)]:=by
 simp only[received,incAt,Worker.e,zU,zau];rfl
theorem qqD(w:Worker)(e:Int):(qcI w e).e=[.sl 5 (w.queue.map Record.e),.sl 5 (w.staged.map Record.e),.sl 5 (w.inputs.map Record.e),.sl 4 (w.cells.map Cell.e),.sl 1 ((w.sums.map eI).set e.toNat [I (w.sums.getD e.toNat 0+1)]),.sl 1 (w.black.map eB),.sl 1 (w.caps.map eB),.sl 2 (w.dones.map Done.e)]:=by
 simp only[qcI,incAt,Worker.e,zau];rfl
theorem qqE(w:Worker)(r:Record)(hw:w.sz≤8388608):Rt 154 [.agg w.e,.agg r.e] [.agg (kept w r).e]:=by
 have hq:w.queue.length≤8388608:=by simp only[Worker.sz]at hw;omega
 rw[qlD]
 exact qIC ⟨qfV w hw,one_m hq,one_x hq,qap (Record.flat r),trivial⟩
theorem qKn(w:Worker)(r:Record)(hw:w.sz≤8388608)(h4:w.sums.length=4)(hb:w.black.length=4)(he:0≤r.stamp.epoch∧r.stamp.epoch≤3)(hs:-1000000≤w.sums.getD r.stamp.epoch.toNat 0∧w.sums.getD r.stamp.epoch.toNat 0≤1000000):
  Rt 160 [.agg w.e,.agg r.e] [.agg (received w r).e]:=by
 have k:=qqE w r hw
 rw[qlD]at k
 rw[qKm]
 obtain⟨s1,s2⟩:=int4 h4 he
 obtain⟨b1,b2⟩:=bool4 hb he
 have hif:(if (↑(w.black.map eB).length:Int)<(↑(w.sums.map eI).length:Int) then (↑(w.black.map eB).length:Int) else (↑(w.sums.map eI).length:Int))-1=3:=by
  rw[zb,zb,h4,hb];rfl
 exact qIP _ _ _ _ _ _ _ _ _ _ _ _ _ _ _ _ _ _ _ _ _ _ _ _ _ ⟨k,⟨by rw[hif];omega,by rw[hif];omega⟩,qaT _ _ _ true (by rw[hif];simp only[inR,zi];omega),rfl,he.1,s1,s2,⟨by omega,by omega⟩,he.1,s1,s2,he.1,b1,b2,trivial⟩
theorem qKo(w:Worker)(e:Int)(hw:w.sz≤8388608)(h4:w.sums.length=4)(he:0≤e∧e≤3)(hs:-1000000≤w.sums.getD e.toNat 0∧w.sums.getD e.toNat 0≤1000000):
  Rt 157 [.agg w.e,.one (I e)] [.agg (qcI w e).e]:=by
 rw[qqD]
 obtain⟨s1,s2⟩:=int4 h4 he
 have hif:(↑(w.sums.map eI).length:Int)-1=3:=by rw[zb,h4];rfl
 exact qIY _ _ _ _ _ _ _ _ _ _ _ _ _ _ _ _ _ _ _ _ ⟨qfV w hw,⟨by rw[hif];omega,by rw[hif];omega⟩,qaT _ _ _ true (by rw[hif];simp only[inR,zi];omega),rfl,he.1,s1,s2,⟨by omega,by omega⟩,he.1,s1,s2,trivial⟩
theorem qKp(w:Worker)(r:Record)(t:List Record)(hw:w.sz≤8388608)(h:w.staged=r::t):Rt 152 [.agg w.e] [.agg (qbE w t).e,.agg r.e,.one (B true)]:=by
 have e:(qbE w t).e=[.sl 5 (w.queue.map Record.e),.sl 5 (((w.staged.map Record.e).drop 1).take ((w.staged.map Record.e).length-1)),.sl 5 (w.inputs.map Record.e),.sl 4 (w.cells.map Cell.e),.sl 1 (w.sums.map eI),.sl 1 (w.black.map eB),.sl 1 (w.caps.map eB),.sl 2 (w.dones.map Done.e)]:=by rw[qdm h];rfl
 rw[e]
 exact qJg ⟨qfV w hw,len_t h,cut_a,cut_b h,cut_c,by omega,qca h,qcJ h,trivial⟩
theorem qKq{g:Graph}{op:Int}{x:Node}(h:qaH g op=some x):0≤op∧op<(↑(g.nodes.map Node.e).length:Int)∧(g.nodes.map Node.e)[op.toNat]?=some x.e:=by
 unfold qaH at h
 split at h
 ·have:=lt_of h
  exact⟨‹_›,by rw[zb];omega,qad Node.e h⟩
 ·cases h
theorem qKr(g:Graph)(r:Record)(hg:g.sz≤8388608):Rt 219 [.agg g.e,.agg r.e] [.one (B (capped g r))]:=by
 have k:=qe6 g hg
 have kr:=qdk r
 have nt:=qlg r.stamp
 cases h1:qas g with
 | false=>
  rw[h1]at k
  rw[show capped g r=false by unfold capped;split<;>simp[qbp,h1]]
  exact qGJ ⟨k,rfl,trivial⟩
 | true=>
 rw[h1]at k
 cases h2:qaC r with
 | false=>
  rw[h2]at kr
  rw[show capped g r=false by unfold capped;split<;>simp[qbp,h2]]
  exact qGK ⟨k,rfl,kr,rfl,trivial⟩
 | true=>
 rw[h2]at kr
 cases h3:qaH g r.op with
 | none=>
  rw[show capped g r=false by unfold capped;rw[h3]]
  exact qGL ⟨k,rfl,kr,rfl,qdU g r.op false (by rw[h3];rfl) hg,rfl,trivial⟩
 | some x=>
  obtain⟨m1,m2,m3⟩:=qKq h3
  have ni:=qdU g r.op true (by rw[h3];rfl) hg
  rw[show capped g r=qbp g r x by unfold capped;rw[h3]]
  cases h4:(x.kind==7) with
  | false=>
   rw[show qbp g r x=false by simp[qbp,h4]]
   exact qGO ⟨k,rfl,kr,rfl,ni,rfl,m1,m2,m3,nt,h4,trivial⟩
  | true=>
  by_cases h5:0<x.outs.length
  ·rw[show qbp g r x=!(qaA r.stamp).2 by simp[qbp,h1,h2,h4,h5]]
   exact qGM ⟨k,rfl,kr,rfl,ni,rfl,m1,m2,m3,nt,h4,dT (by rw[zb];omega),trivial⟩
  ·rw[show qbp g r x=false by simp[qbp,h5]]
   exact qGN ⟨k,rfl,kr,rfl,ni,rfl,m1,m2,m3,nt,h4,dF (by rw[zb];omega),trivial⟩
theorem qKs(g:Graph)(w:Worker)(hg:g.sz≤8388608)(hw:w.sz≤8388608):Rt 150 [.agg g.e,.agg w.e] [.agg (qaW g w).1.e,.one (B (qaW g w).2)]:=by
 have cp:=qfV w hw
 have k:=qe6 g hg
 have kw:=qiE g w hg hw
 have hcl:w.cells.length≤8388608:=by simp only[Worker.sz]at hw;omega
 cases h1:qas g with
 | false=>
  rw[h1]at k
  rw[show qaW g w=(w,false) by unfold qaW;simp[h1]]
  exact qJh ⟨cp,k,rfl,trivial⟩
 | true=>
 rw[h1]at k
 cases h2:qaz g w with
 | false=>
  rw[h2]at kw
  rw[show qaW g w=(w,false) by unfold qaW;simp[h2]]
  exact qJi ⟨cp,k,rfl,kw,rfl,trivial⟩
 | true=>
 rw[h2]at kw
 have hu:qaW g w=match w.staged,w.queue with
  | [],r::q=>(⟨q,(qay g w.cells r).2.1,w.inputs,(qay g w.cells r).1,w.sums,w.black,(if capped g r then w.caps.set r.stamp.epoch.toNat true else w.caps),w.dones⟩,true)
  | _,_=>(w,false):=by unfold qaW;rw[h1,h2];rfl
 cases h3:w.staged with
 | cons r q=>
  rw[show qaW g w=(w,false) by rw[hu,h3]]
  exact qJj ⟨cp,k,rfl,kw,rfl,pos_t h3,trivial⟩
 | nil=>
 cases h4:w.queue with
 | nil=>
  rw[show qaW g w=(w,false) by rw[hu,h3,h4]]
  exact qJk ⟨cp,k,rfl,kw,rfl,pos_f h3,len_f h4,trivial⟩
 | cons r q=>
  have st:=qGW g w.cells r hg hcl
  have ca:=qKr g r hg
  obtain⟨k1,_,_,_,_,_,k7,_⟩:=qby.1 h2
  rw[h4,qea]at k1
  have he:=qeb k1.1
  obtain⟨c1,c2⟩:=bool4 k7 he
  cases h5:capped g r with
  | true=>
   rw[h5]at ca
   rw[show qaW g w=(⟨q,(qay g w.cells r).2.1,w.inputs,(qay g w.cells r).1,w.sums,w.black,w.caps.set r.stamp.epoch.toNat true,w.dones⟩,true) by rw[hu,h3,h4];simp only[h5,zbb]]
   have e:Worker.e ⟨q,(qay g w.cells r).2.1,w.inputs,(qay g w.cells r).1,w.sums,w.black,w.caps.set r.stamp.epoch.toNat true,w.dones⟩=[.sl 5 (((w.queue.map Record.e).drop 1).take ((w.queue.map Record.e).length-1)),.sl 5 ((qay g w.cells r).2.1.map Record.e),.sl 5 (w.inputs.map Record.e),.sl 4 ((qay g w.cells r).1.map Cell.e),.sl 1 (w.sums.map eI),.sl 1 (w.black.map eB),.sl 1 ((w.caps.map eB).set r.stamp.epoch.toNat [B true]),.sl 2 (w.dones.map Done.e)]:=by
    rw[qdm h4];simp only[Worker.e,zau];rfl
   dsimp only
   rw[e]
   exact qJl _ _ _ _ _ _ _ _ _ _ _ _ _ _ _ _ _ _ _ _ _ _ _ _ _ _ _ _ _ _ _ ⟨cp,k,rfl,kw,rfl,pos_f h3,len_t h4,by omega,qca h4,qcJ h4,cut_a,cut_b h4,cut_c,st,ca,rfl,he.1,c1,c2,trivial⟩
  | false=>
   rw[h5]at ca
   rw[show qaW g w=(⟨q,(qay g w.cells r).2.1,w.inputs,(qay g w.cells r).1,w.sums,w.black,w.caps,w.dones⟩,true) by rw[hu,h3,h4];simp only[h5];rfl]
   have e:Worker.e ⟨q,(qay g w.cells r).2.1,w.inputs,(qay g w.cells r).1,w.sums,w.black,w.caps,w.dones⟩=[.sl 5 (((w.queue.map Record.e).drop 1).take ((w.queue.map Record.e).length-1)),.sl 5 ((qay g w.cells r).2.1.map Record.e),.sl 5 (w.inputs.map Record.e),.sl 4 ((qay g w.cells r).1.map Cell.e),.sl 1 (w.sums.map eI),.sl 1 (w.black.map eB),.sl 1 (w.caps.map eB),.sl 2 (w.dones.map Done.e)]:=by
    rw[qdm h4];rfl
   dsimp only
   rw[e]
   exact qJm ⟨cp,k,rfl,kw,rfl,pos_f h3,len_t h4,by omega,qca h4,qcJ h4,cut_a,cut_b h4,cut_c,st,ca,rfl,trivial⟩
theorem qKt(g:Graph)(w:Worker)(hg:g.sz≤8388608)(hw:w.sz≤8388608):Rt 151 [.agg g.e,.agg w.e] [.agg (qaX g w).1.e,.one (B (qaX g w).2)]:=by
 have cp:=qfV w hw
 have k:=qe6 g hg
 have kw:=qiE g w hg hw
 have hq:w.queue.length≤8388608:=by simp only[Worker.sz]at hw;omega
 cases h1:qas g with
 | false=>
  rw[h1]at k
  rw[show qaX g w=(w,false) by unfold qaX;simp[h1]]
  exact qJa ⟨cp,k,rfl,trivial⟩
 | true=>
 rw[h1]at k
 cases h2:qaz g w with
 | false=>
  rw[h2]at kw
  rw[show qaX g w=(w,false) by unfold qaX;simp[h2]]
  exact qJb ⟨cp,k,rfl,kw,rfl,trivial⟩
 | true=>
 rw[h2]at kw
 have hu:qaX g w=match w.staged,w.queue,w.inputs with
  | [],[],r::t=>(⟨[r],[],t,w.cells,w.sums,w.black,w.caps,w.dones⟩,true)
  | _,_,_=>(w,false):=by unfold qaX;rw[h1,h2];rfl
 cases h3:w.staged with
 | cons r q=>
  rw[show qaX g w=(w,false) by rw[hu,h3]]
  exact qJc ⟨cp,k,rfl,kw,rfl,pos_t h3,trivial⟩
 | nil=>
 cases h4:w.queue with
 | cons r q=>
  rw[show qaX g w=(w,false) by rw[hu,h3,h4]]
  exact qJd ⟨cp,k,rfl,kw,rfl,pos_f h3,pos_t h4,trivial⟩
 | nil=>
 cases h5:w.inputs with
 | nil=>
  rw[show qaX g w=(w,false) by rw[hu,h3,h4,h5]]
  exact qJe ⟨cp,k,rfl,kw,rfl,pos_f h3,pos_f h4,len_f h5,trivial⟩
 | cons r t=>
  rw[show qaX g w=(⟨[r],[],t,w.cells,w.sums,w.black,w.caps,w.dones⟩,true) by rw[hu,h3,h4,h5]]
  have e:Worker.e ⟨[r],[],t,w.cells,w.sums,w.black,w.caps,w.dones⟩=[.sl 5 (w.queue.map Record.e++[r.e]),.sl 5 (w.staged.map Record.e),.sl 5 (((w.inputs.map Record.e).drop 1).take ((w.inputs.map Record.e).length-1)),.sl 4 (w.cells.map Cell.e),.sl 1 (w.sums.map eI),.sl 1 (w.black.map eB),.sl 1 (w.caps.map eB),.sl 2 (w.dones.map Done.e)]:=by
   rw[qdm h5,h4,h3];rfl
  dsimp only
  rw[e]
  exact qJf ⟨cp,k,rfl,kw,rfl,pos_f h3,pos_f h4,len_t h5,by omega,qca h5,qcJ h5,one_m hq,one_x hq,qap (Record.flat r),cut_a,cut_b h5,cut_c,trivial⟩
end Go.Proofs.YtdanpadojemjeaaGreat
namespace Go.Proofs.YtdanpadojemjeaaGreat
open Go.Sx Go.RowKit Go.Proofs.Tryz
theorem qqF{c:Cluster}{w:Int}(h:wAt c w=none):inR w 0 ((↑(c.workers.map Worker.e).length:Int)-1)=false:=by
 unfold wAt at h
 simp only[inR,zb,zf]
 split at h
 ·rw[List.getElem?_eq_none_iff]at h;omega
 ·omega
theorem qiN{c:Cluster}{w:Int}{x:Worker}(h:wAt c w=some x):inR w 0 ((↑(c.workers.map Worker.e).length:Int)-1)=true:=by
 obtain⟨h1,h2,_⟩:=qc0 h
 simp only[inR,zb,zi]
 omega
theorem qga{c:Cluster}{i:Int}{x:Link}(h:lAt c i=some x):0≤i∧i<(↑(c.links.map Link.e).length:Int)∧(c.links.map Link.e)[i.toNat]?=some x.e:=by
 obtain⟨h1,h2,h3⟩:=qd8 h
 exact⟨h1,by rw[zb];omega,qad Link.e h3⟩
theorem qgb{c:Cluster}{i:Int}{x:Link}(h:lAt c i=some x)(hc:c.sz≤8388608):x.sz≤8388608:=Cluster.link_sz1 hc (qar (qd8 h).2.2)
theorem qlE{c:Cluster}{i:Int}{x:Link}(h:lAt c i=some x)(hw:GotLe c):x.got≤9223372036854775807:=hw _ (qar (qd8 h).2.2)
theorem wlen1{c:Cluster}(hc:c.sz≤8388608):inInt .i64 ((↑(c.workers.map Worker.e).length:Int)-1):=by
 have:=Cluster.wlen_le hc
 exact⟨by rw[zb];omega,by rw[zb];omega⟩
theorem qlF(c:Cluster)(w:Int)(y:Worker):(setW c w y).e=[.sl 4 (c.graph.nodes.map Node.e),I c.graph.workers,I c.graph.cap,.sl 8 ((c.workers.map Worker.e).set w.toNat y.e),.sl 6 (c.links.map Link.e),.sl 5 (c.tokens.map Token.e),.sl 3 (c.news.map News.e)]:=by simp only[setW,Cluster.e,zau]
theorem qKu(c:Cluster)(i:Int)(y:Link):(setL c i y).e=[.sl 4 (c.graph.nodes.map Node.e),I c.graph.workers,I c.graph.cap,.sl 8 (c.workers.map Worker.e),.sl 6 ((c.links.map Link.e).set i.toNat y.e),.sl 5 (c.tokens.map Token.e),.sl 3 (c.news.map News.e)]:=by simp only[setL,Cluster.e,zau]
theorem qqG(c:Cluster)(w i:Int)(y:Worker)(z:Link):(setW (setL c i z) w y).e=[.sl 4 (c.graph.nodes.map Node.e),I c.graph.workers,I c.graph.cap,.sl 8 ((c.workers.map Worker.e).set w.toNat y.e),.sl 6 ((c.links.map Link.e).set i.toNat z.e),.sl 5 (c.tokens.map Token.e),.sl 3 (c.news.map News.e)]:=by simp only[setW,setL,Cluster.e,zau]
theorem qhf(c:Cluster)(w:Int)(y:Worker)(b:Bool):runD (setW c w y) b=[.sl 4 (c.graph.nodes.map Node.e),I c.graph.workers,I c.graph.cap,.sl 8 ((c.workers.map Worker.e).set w.toNat y.e),.sl 6 (c.links.map Link.e),.sl 5 (c.tokens.map Token.e),.sl 3 (c.news.map News.e),B b]:=by simp only[setW,runD,zau]
theorem qqH(c:Cluster)(i:Int)(y:Link)(b:Bool):runD (setL c i y) b=[.sl 4 (c.graph.nodes.map Node.e),I c.graph.workers,I c.graph.cap,.sl 8 (c.workers.map Worker.e),.sl 6 ((c.links.map Link.e).set i.toNat y.e),.sl 5 (c.tokens.map Token.e),.sl 3 (c.news.map News.e),B b]:=by simp only[setL,runD,zau]
theorem qlG(c:Cluster)(w i:Int)(y:Worker)(z:Link)(b:Bool):runD (setW (setL c i z) w y) b=[.sl 4 (c.graph.nodes.map Node.e),I c.graph.workers,I c.graph.cap,.sl 8 ((c.workers.map Worker.e).set w.toNat y.e),.sl 6 ((c.links.map Link.e).set i.toNat z.e),.sl 5 (c.tokens.map Token.e),.sl 3 (c.news.map News.e),B b]:=by simp only[setW,setL,runD,zau]
theorem qlH(c:Cluster)(w:Int)(hc:c.sz≤8388608)(hw:GotLe c):Rt 149 [.agg c.e,.one (I w)] [.one (B (qah c&&(wAt c w).isSome))]:=by
 have k:=qiF c hc hw
 cases ok:qah c with
 | false=>rw[ok]at k;exact qJn ⟨k,rfl,trivial⟩
 | true=>
  rw[ok]at k
  cases hx:wAt c w with
  | none=>exact qqp ⟨k,rfl,wlen1 hc,qaT _ _ _ _ (qqF hx),trivial⟩
  | some x=>exact qqp ⟨k,rfl,wlen1 hc,qaT _ _ _ _ (qiN hx),trivial⟩
theorem qqI(c:Cluster)(a b:Int)(hc:c.sz≤8388608)(hw:GotLe c):Rt 158 [.agg c.e,.one (I a),.one (I b)] [.one (I (if qah c&&a != b then qaQ c.graph a b else -1))]:=by
 have k:=qiF c hc hw
 cases ok:qah c with
 | false=>rw[ok]at k;exact qJo ⟨k,rfl,trivial⟩
 | true=>
  rw[ok]at k
  by_cases hab:a=b
  ·rw[show (true&&a != b)=false by simp[hab]]
   exact qJp ⟨k,rfl,by simp[hab],trivial⟩
  ·rw[show (true&&a != b)=true by simp[hab],zp rfl]
   exact qJq ⟨k,rfl,by simp[hab],qqC c.graph a b (qbK (qaY.1 ok).1),trivial⟩
theorem qKv(c:Cluster)(w:Int)(hc:c.sz≤8388608)(hw:GotLe c):Rt 88 [.agg c.e,.one (I w)] [.agg (qbf c w).1.e,.one (B (qbf c w).2)]:=by
 have cp:=qcX c hc
 have k:=qlH c w hc hw
 cases ok:qah c with
 | false=>
  rw[ok]at k
  rw[show qbf c w=(c,false) by unfold qbf;simp[ok]]
  exact qqn ⟨cp,k,rfl,trivial⟩
 | true=>
 cases hx:wAt c w with
 | none=>
  rw[ok,hx]at k
  rw[show qbf c w=(c,false) by unfold qbf;simp[hx]]
  exact qqn ⟨cp,k,rfl,trivial⟩
 | some x=>
  rw[ok,hx]at k
  obtain⟨wE0,wE1,wE2⟩:=qbL hx
  rw[show qbf c w=(setW c w (qaW c.graph x).1,(qaW c.graph x).2) by unfold qbf;simp[ok,hx]]
  dsimp only
  rw[qlF]
  exact qIO ⟨cp,k,rfl,wE0,wE1,wE2,qKs c.graph x (Cluster.graph_sz1 hc) (qb0 hx hc),wE0,wE1,wE2,trivial⟩
theorem qKw(c:Cluster)(w:Int)(hc:c.sz≤8388608)(hw:GotLe c):Rt 89 [.agg c.e,.one (I w)] [.agg (qbg c w).1.e,.one (B (qbg c w).2)]:=by
 have cp:=qcX c hc
 have k:=qlH c w hc hw
 cases ok:qah c with
 | false=>
  rw[ok]at k
  rw[show qbg c w=(c,false) by unfold qbg;simp[ok]]
  exact qqk ⟨cp,k,rfl,trivial⟩
 | true=>
 cases hx:wAt c w with
 | none=>
  rw[ok,hx]at k
  rw[show qbg c w=(c,false) by unfold qbg;simp[hx]]
  exact qqk ⟨cp,k,rfl,trivial⟩
 | some x=>
  rw[ok,hx]at k
  obtain⟨wE0,wE1,wE2⟩:=qbL hx
  rw[show qbg c w=(setW c w (qaX c.graph x).1,(qaX c.graph x).2) by unfold qbg;simp[ok,hx]]
  dsimp only
  rw[qlF]
  exact qIH _ _ _ _ _ _ _ _ _ _ _ _ _ _ _ _ _ _ _ _ _ _ _ _ _ _ _ _ _ _ _ _ _ _ _ _ _ _ _ _ _ ⟨cp,k,rfl,wE0,wE1,wE2,qKt c.graph x (Cluster.graph_sz1 hc) (qb0 hx hc),wE0,wE1,wE2,trivial⟩
theorem qiO{c:Cluster}{w:Int}{x:Worker}(ok:qah c=true)(hx:wAt c w=some x):x.sums.length=4∧x.black.length=4∧x.caps.length=4∧(∀e:Int,0≤e∧e≤3→-1000000≤x.sums.getD e.toNat 0∧x.sums.getD e.toNat 0≤1000000):=by
 obtain⟨_,_,_,_,k5,k6,k7,_,k9,_⟩:=qby.1 (qcw ok hx)
 refine⟨k5,k6,k7,fun e he=>?_⟩
 have hl:e.toNat<x.sums.length:=by omega
 rw[zP]at k9
 have:=k9 _ (zax hl)
 rw[zN,zu hl,zV]
 simpa only[qci,zS,zX,inR,zi,zbt,Bool.not_not,Bool.not_eq_eq_eq_not,zZ,zf,Classical.not_not]using this
theorem qqJ{c:Cluster}{w:Int}{x:Worker}{r:Record}{t:List Record}(ok:qah c=true)(hx:wAt c w=some x)(hs:x.staged=r::t):qbh c w=qff c w x r t (qbd r.key c.graph.workers):=by
 unfold qbh
 rw[zp ok,hx]
 dsimp only
 rw[hs]
theorem qqK{c:Cluster}{w:Int}{x:Worker}{r:Record}{t:List Record}{o:Int}(h:o=w):qff c w x r t o=(setW c w (kept (qbE x t) r),true):=zp h
theorem qqL{c:Cluster}{w:Int}{x:Worker}{r:Record}{t:List Record}{o:Int}{l:Link}(h:o≠w)(hl:lAt c (qaQ c.graph w o)=some l):qff c w x r t o=if (qaD l r).2 then (setW (setL c (qaQ c.graph w o) (qaD l r).1) w (qcI (qbE x t) r.stamp.epoch),true) else (c,false):=by
 unfold qff
 rw[zo h,hl]
theorem qKx(c:Cluster)(w:Int)(hc:c.sz≤8388608)(hw:GotLe c):Rt 90 [.agg c.e,.one (I w)] [.agg (qbh c w).1.e,.one (B (qbh c w).2)]:=by
 have cp:=qcX c hc
 have k:=qlH c w hc hw
 cases ok:qah c with
 | false=>
  rw[ok]at k
  rw[show qbh c w=(c,false) by unfold qbh;simp[ok]]
  exact qql ⟨cp,k,rfl,trivial⟩
 | true=>
 cases hx:wAt c w with
 | none=>
  rw[ok,hx]at k
  rw[show qbh c w=(c,false) by unfold qbh;simp[hx]]
  exact qql ⟨cp,k,rfl,trivial⟩
 | some x=>
 rw[ok,hx]at k
 obtain⟨wE0,wE1,wE2⟩:=qbL hx
 have hn:=qbK (qaY.1 ok).1
 cases hs:x.staged with
 | nil=>
  rw[show qbh c w=(c,false) by unfold qbh;rw[zp ok,hx];dsimp only;rw[hs]]
  exact qII ⟨cp,k,rfl,wE0,wE1,wE2,len_f hs,trivial⟩
 | cons r t=>
  have hsz:=qb0 hx hc
  have hun:(qbE x t).sz≤8388608:=by have:=qp2 hs;omega
  have un:=qKp x r t hsz hs
  have ow:=qpd r.key c.graph.workers (by omega)
  have hr:=(qiH (qcw ok hx) hs).2
  have he:=qeb hr
  obtain⟨f4,_,_,fs⟩:=qiO ok hx
  rw[qqJ ok hx hs]
  have oin:=qpW r.key hn.1
  generalize qbd r.key c.graph.workers=o at ow oin
  by_cases how:o=w
  ·rw[qqK how]
   dsimp only
   rw[qlF]
   exact qIJ ⟨cp,k,rfl,wE0,wE1,wE2,len_t hs,wE0,wE1,wE2,un,ow,by rw[zE];exact how,qqE (qbE x t) r hun,wE0,wE1,wE2,trivial⟩
  ·have hbo:(o==w)=false:=by rw[zQ,zcc,zE];exact how
   have win:inR w 0 (c.graph.workers-1)=true:=by
    have:=qiN hx
    rwa[zb,(qaY.1 ok).2.1]at this
   obtain⟨l,hl⟩:=qf5 ok win oin
   obtain⟨lE0,lE1,lE2⟩:=qga hl
   have lp:=qqC c.graph w o hn
   have so:=qKj l r (qgb hl hc) (qlE hl hw)
   rw[qqL how hl]
   cases h6:(qaD l r).2 with
   | false=>
    rw[h6]at so
    exact qIK ⟨cp,k,rfl,wE0,wE1,wE2,len_t hs,wE0,wE1,wE2,un,ow,hbo,lp,lE0,lE1,lE2,so,rfl,trivial⟩
   | true=>
    rw[h6]at so
    rw[zp rfl]
    dsimp only
    rw[qqG]
    exact qIL ⟨cp,k,rfl,wE0,wE1,wE2,len_t hs,wE0,wE1,wE2,un,ow,hbo,lp,lE0,lE1,lE2,so,rfl,lE0,lE1,lE2,qKo (qbE x t) r.stamp.epoch hun f4 he (fs _ he),wE0,wE1,wE2,trivial⟩
theorem qiP{c:Cluster}{a b:Int}(h:(inR a 0 (c.graph.workers-1)&&inR b 0 (c.graph.workers-1))=false):lAt c (qaQ c.graph a b)=none:=by
 rw[qee h];rfl
theorem qqM{c:Cluster}{a b:Int}{l:Link}{x:Worker}(ok:qah c=true)(hab:a≠b)(hl:lAt c (qaQ c.graph a b)=some l)(hx:wAt c b=some x):qbr c a b=if (qav l).2.2 then (setW (setL c (qaQ c.graph a b) (qav l).1) b (received x (qav l).2.1),true) else (c,false):=by
 unfold qbr
 rw[zp (by simp[ok,hab]),hl,hx]
theorem qqN{c:Cluster}{a b:Int}{l:Link}(ok:qah c=true)(hab:a≠b)(hl:lAt c (qaQ c.graph a b)=some l):qbi c a b=(setL c (qaQ c.graph a b) (qa2 l).1,(qa2 l).2):=by
 unfold qbi
 rw[zp (by simp[ok,hab]),hl]
theorem qKy(c:Cluster)(a b:Int)(hc:c.sz≤8388608)(hw:GotLe c):Rt 91 [.agg c.e,.one (I a),.one (I b)] [.agg (qbr c a b).1.e,.one (B (qbr c a b).2)]:=by
 have cp:=qcX c hc
 have k:=qqI c a b hc hw
 cases h1:(qah c&&a != b) with
 | false=>
  rw[h1,zo (by decide)]at k
  rw[show qbr c a b=(c,false) by unfold qbr;rw[h1];rfl]
  exact qqm ⟨cp,k,dT (by decide),trivial⟩
 | true=>
 rw[h1,zp rfl]at k
 rw[zj]at h1
 obtain⟨ok,hab⟩:=h1
 have hab:a≠b:=by simpa using hab
 have hn:=qbK (qaY.1 ok).1
 cases hh:(inR a 0 (c.graph.workers-1)&&inR b 0 (c.graph.workers-1)) with
 | false=>
  rw[qee hh]at k
  rw[show qbr c a b=(c,false) by unfold qbr;rw[qiP hh];split<;>rfl]
  exact qqm ⟨cp,k,dT (by decide),trivial⟩
 | true=>
 rw[zj]at hh
 obtain⟨l,hl⟩:=qf5 ok hh.1 hh.2
 obtain⟨x,hx⟩:∃x,wAt c b=some x:=by
  have hb:=hh.2
  have:=(qaY.1 ok).2.1
  simp only[inR,zi]at hb
  exact qg9 (by omega) (by omega)
 obtain⟨lE0,lE1,lE2⟩:=qga hl
 obtain⟨wE0,wE1,wE2⟩:=qbL hx
 have tf:=qKk l (qgb hl hc) (qlE hl hw)
 rw[qqM ok hab hl hx]
 cases h6:(qav l).2.2 with
 | false=>
  rw[h6]at tf
  exact qIM ⟨cp,k,dF (by omega),lE0,lE1,lE2,tf,rfl,trivial⟩
 | true=>
  rw[h6]at tf
  have he:=qeb (qlp (qg8 ok hl) h6).2
  obtain⟨f4,fb,_,fs⟩:=qiO ok hx
  rw[zp rfl]
  dsimp only
  rw[qqG]
  exact qIN ⟨cp,k,dF (by omega),lE0,lE1,lE2,tf,rfl,lE0,lE1,lE2,wE0,wE1,wE2,qKn x _ (qb0 hx hc) f4 fb he (fs _ he),wE0,wE1,wE2,trivial⟩
theorem qKz(c:Cluster)(a b:Int)(hc:c.sz≤8388608)(hw:GotLe c):Rt 92 [.agg c.e,.one (I a),.one (I b)] [.agg (qbi c a b).1.e,.one (B (qbi c a b).2)]:=by
 have cp:=qcX c hc
 have k:=qqI c a b hc hw
 cases h1:(qah c&&a != b) with
 | false=>
  rw[h1,zo (by decide)]at k
  rw[show qbi c a b=(c,false) by unfold qbi;rw[h1];rfl]
  exact qqj ⟨cp,k,dT (by decide),trivial⟩
 | true=>
 rw[h1,zp rfl]at k
 rw[zj]at h1
 obtain⟨ok,hab⟩:=h1
 have hab:a≠b:=by simpa using hab
 cases hh:(inR a 0 (c.graph.workers-1)&&inR b 0 (c.graph.workers-1)) with
 | false=>
  rw[qee hh]at k
  rw[show qbi c a b=(c,false) by unfold qbi;rw[qiP hh];split<;>rfl]
  exact qqj ⟨cp,k,dT (by decide),trivial⟩
 | true=>
 rw[zj]at hh
 obtain⟨l,hl⟩:=qf5 ok hh.1 hh.2
 obtain⟨lE0,lE1,lE2⟩:=qga hl
 rw[qqN ok hab hl]
 dsimp only
 rw[qKu]
 exact qIG _ _ _ _ _ _ _ _ _ _ _ _ _ _ _ _ _ _ _ _ _ _ _ _ _ _ _ _ _ _ _ _ _ _ _ _ ⟨cp,k,dF (by omega),lE0,lE1,lE2,qKl l (qgb hl hc) (qlE hl hw),lE0,lE1,lE2,trivial⟩
theorem qlI(c:Cluster)(w:Int)(hc:c.sz≤8388608):RetR prog 209 [.ref (runE c) (runE c),.ro (.one (I w))] (.vals [.one (B (qah c&&(wAt c w).isSome))]):=by
 unfold runE
 cases ok:qah c with
 | false=>exact qJP ⟨rfl,trivial⟩
 | true=>
  cases hx:wAt c w with
  | none=>exact qqv ⟨rfl,wlen1 hc,qaG _ _ _ _ (qqF hx),trivial⟩
  | some x=>exact qqv ⟨rfl,wlen1 hc,qaG _ _ _ _ (qiN hx),trivial⟩
def sumW(x:Worker)(e d:Int):Worker:=⟨x.queue,x.staged,x.inputs,x.cells,incAt x.sums e d,x.black,x.caps,x.dones⟩
theorem qqO(w:Worker)(e d:Int):(sumW w e d).e=[.sl 5 (w.queue.map Record.e),.sl 5 (w.staged.map Record.e),.sl 5 (w.inputs.map Record.e),.sl 4 (w.cells.map Cell.e),.sl 1 ((w.sums.map eI).set e.toNat [I (w.sums.getD e.toNat 0+d)]),.sl 1 (w.black.map eB),.sl 1 (w.caps.map eB),.sl 2 (w.dones.map Done.e)]:=by
 simp only[sumW,incAt,Worker.e,zau];rfl
theorem qqP(c:Cluster)(w e d:Int)(x:Worker)(hx:wAt c w=some x)(h4:x.sums.length=4)(he:0≤e∧e≤3)(hd:-1≤d∧d≤1)(hs:-1000000≤x.sums.getD e.toNat 0∧x.sums.getD e.toNat 0≤1000000):
  RetR prog 215 [.ref (runD c true) (runD (setW c w (sumW x e d)) (inR (x.sums.getD e.toNat 0+d) (-1000000) 1000000)),.ro (.one (I w)),.ro (.one (I e)),.ro (.one (I d))] (.vals []):=by
 obtain⟨wE0,wE1,wE2⟩:=qbL hx
 obtain⟨s1,s2⟩:=int4 h4 he
 rw[qhf,qqO]
 exact qJU ⟨wE0,wE1,wE2,wE0,wE1,wE2,he.1,s1,s2,⟨by omega,by omega⟩,he.1,s1,s2,wE2,rfl,rfl,rfl,rfl,rfl,wE0,by rw[zn];exact wE1,gs1 wE0 wE1,he.1,by rw[zn];exact s1,gs1 he.1 s1,qa9 _ _ _,trivial⟩
theorem qKA(c:Cluster)(w:Int)(hc:c.sz≤8388608):RetR prog 144 [.ref (runE c) (runE (qbf c w).1),.ro (.one (I w))] (.vals [.one (B (qbf c w).2)]):=by
 have post:=fun h=>qHM (c:=c) (w:=w) h
 have is:=qlI c w hc
 cases ok:qah c with
 | false=>
  rw[ok]at is
  rw[show qbf c w=(c,false) by unfold qbf;simp[ok]]
  exact qqx ⟨is,rfl,trivial⟩
 | true=>
 replace post:=post ok
 cases hx:wAt c w with
 | none=>
  rw[ok,hx]at is
  rw[show qbf c w=(c,false) by unfold qbf;simp[hx]]
  exact qqx ⟨is,rfl,trivial⟩
 | some x=>
 rw[ok,hx]at is
 obtain⟨wE0,wE1,wE2⟩:=qbL hx
 have hsz:=qb0 hx hc
 have gok:=(qaY.1 ok).1
 have wok:=qcw ok hx
 have hu:qaW c.graph x=match x.staged,x.queue with
  | [],r::q=>(⟨q,(qay c.graph x.cells r).2.1,x.inputs,(qay c.graph x.cells r).1,x.sums,x.black,(if capped c.graph r then x.caps.set r.stamp.epoch.toNat true else x.caps),x.dones⟩,true)
  | _,_=>(x,false):=by unfold qaW;rw[gok,wok];rfl
 have pe:qbf c w=(setW c w (qaW c.graph x).1,(qaW c.graph x).2):=by unfold qbf;simp[ok,hx]
 cases h3:x.staged with
 | cons r q=>
  rw[pe,show qaW c.graph x=(x,false) by rw[hu,h3]]
  dsimp only
  rw[qfg hx]
  exact qJ0 ⟨is,rfl,wE0,wE1,wE2,pos_t h3,trivial⟩
 | nil=>
 cases h4:x.queue with
 | nil=>
  rw[pe,show qaW c.graph x=(x,false) by rw[hu,h3,h4]]
  dsimp only
  rw[qfg hx]
  exact qJ1 ⟨is,rfl,wE0,wE1,wE2,pos_f h3,len_f h4,trivial⟩
 | cons r q=>
  have hcl:x.cells.length≤8388608:=by simp only[Worker.sz]at hsz;omega
  have hql:x.queue.length≤8388608:=by simp only[Worker.sz]at hsz;omega
  have hg:=Cluster.graph_sz1 hc
  have st:=qGV c.graph x.cells r hg hcl
  have ca:=qGY c.graph r hg
  obtain⟨k1,_,_,_,_,_,k7,_⟩:=qby.1 wok
  rw[h4,qea]at k1
  have he:=qeb k1.1
  obtain⟨c1,c2⟩:=bool4 k7 he
  unfold runE at is ⊢
  rw[post]
  rw[ok]at is ⊢
  cases h5:capped c.graph r with
  | true=>
   rw[h5]at ca
   rw[pe,show qaW c.graph x=(⟨q,(qay c.graph x.cells r).2.1,x.inputs,(qay c.graph x.cells r).1,x.sums,x.black,x.caps.set r.stamp.epoch.toNat true,x.dones⟩,true) by rw[hu,h3,h4];simp only[h5,zbb]]
   have e:Worker.e ⟨q,(qay c.graph x.cells r).2.1,x.inputs,(qay c.graph x.cells r).1,x.sums,x.black,x.caps.set r.stamp.epoch.toNat true,x.dones⟩=[.sl 5 ([]++((x.queue.map Record.e).drop 1).take ((x.queue.map Record.e).length-1)),.sl 5 ((qay c.graph x.cells r).2.1.map Record.e),.sl 5 (x.inputs.map Record.e),.sl 4 ((qay c.graph x.cells r).1.map Cell.e),.sl 1 (x.sums.map eI),.sl 1 (x.black.map eB),.sl 1 ((x.caps.map eB).set r.stamp.epoch.toNat [B true]),.sl 2 (x.dones.map Done.e)]:=by
    rw[qhe h4];simp only[Worker.e,zau];rfl
   dsimp only
   rw[qhf,e]
   have key:=qJ2 ⟨is,rfl,wE0,wE1,wE2,pos_f h3,len_t h4,by omega,qca h4,qcJ h4,st,cut_a,cut_b h4,cut_c,qf6 h4 hql,qf7 h4 hql,qf8 h4,ca,rfl,he.1,c1,c2,wE2,rfl,rfl,rfl,rfl,wE0,by rw[zn];exact wE1,gs1 wE0 wE1,rfl,rfl,rfl,rfl,rfl,trivial⟩
   simp only[zam]at key
   exact key
  | false=>
   rw[h5]at ca
   rw[pe,show qaW c.graph x=(⟨q,(qay c.graph x.cells r).2.1,x.inputs,(qay c.graph x.cells r).1,x.sums,x.black,x.caps,x.dones⟩,true) by rw[hu,h3,h4];simp only[h5];rfl]
   have e:Worker.e ⟨q,(qay c.graph x.cells r).2.1,x.inputs,(qay c.graph x.cells r).1,x.sums,x.black,x.caps,x.dones⟩=[.sl 5 ([]++((x.queue.map Record.e).drop 1).take ((x.queue.map Record.e).length-1)),.sl 5 ((qay c.graph x.cells r).2.1.map Record.e),.sl 5 (x.inputs.map Record.e),.sl 4 ((qay c.graph x.cells r).1.map Cell.e),.sl 1 (x.sums.map eI),.sl 1 (x.black.map eB),.sl 1 (x.caps.map eB),.sl 2 (x.dones.map Done.e)]:=by
    rw[qhe h4];rfl
   dsimp only
   rw[qhf,e]
   exact qJ3 ⟨is,rfl,wE0,wE1,wE2,pos_f h3,len_t h4,by omega,qca h4,qcJ h4,st,cut_a,cut_b h4,cut_c,qf6 h4 hql,qf7 h4 hql,qf8 h4,ca,rfl,wE0,wE1,wE2,rfl,rfl,rfl,rfl,rfl,trivial⟩
theorem qKB(c:Cluster)(w:Int)(hc:c.sz≤8388608):RetR prog 145 [.ref (runE c) (runE (qbg c w).1),.ro (.one (I w))] (.vals [.one (B (qbg c w).2)]):=by
 have post:=fun h=>qHN (c:=c) (w:=w) h
 have is:=qlI c w hc
 cases ok:qah c with
 | false=>
  rw[ok]at is
  rw[show qbg c w=(c,false) by unfold qbg;simp[ok]]
  exact qqu ⟨is,rfl,trivial⟩
 | true=>
 replace post:=post ok
 cases hx:wAt c w with
 | none=>
  rw[ok,hx]at is
  rw[show qbg c w=(c,false) by unfold qbg;simp[hx]]
  exact qqu ⟨is,rfl,trivial⟩
 | some x=>
 rw[ok,hx]at is
 obtain⟨wE0,wE1,wE2⟩:=qbL hx
 have hsz:=qb0 hx hc
 have gok:=(qaY.1 ok).1
 have wok:=qcw ok hx
 have hil:x.inputs.length≤8388608:=by simp only[Worker.sz]at hsz;omega
 have hu:qaX c.graph x=match x.staged,x.queue,x.inputs with
  | [],[],r::t=>(⟨[r],[],t,x.cells,x.sums,x.black,x.caps,x.dones⟩,true)
  | _,_,_=>(x,false):=by unfold qaX;rw[gok,wok];rfl
 have pe:qbg c w=(setW c w (qaX c.graph x).1,(qaX c.graph x).2):=by unfold qbg;simp[ok,hx]
 cases h3:x.staged with
 | cons r q=>
  rw[pe,show qaX c.graph x=(x,false) by rw[hu,h3]]
  dsimp only
  rw[qfg hx]
  exact qJL ⟨is,rfl,wE0,wE1,wE2,pos_t h3,trivial⟩
 | nil=>
 cases h4:x.queue with
 | cons r q=>
  rw[pe,show qaX c.graph x=(x,false) by rw[hu,h3,h4]]
  dsimp only
  rw[qfg hx]
  exact qJM ⟨is,rfl,wE0,wE1,wE2,pos_f h3,pos_t h4,trivial⟩
 | nil=>
 cases h5:x.inputs with
 | nil=>
  rw[pe,show qaX c.graph x=(x,false) by rw[hu,h3,h4,h5]]
  dsimp only
  rw[qfg hx]
  exact qJN ⟨is,rfl,wE0,wE1,wE2,pos_f h3,pos_f h4,len_f h5,trivial⟩
 | cons r t=>
  unfold runE at is ⊢
  rw[post]
  rw[ok]at is ⊢
  rw[pe,show qaX c.graph x=(⟨[r],[],t,x.cells,x.sums,x.black,x.caps,x.dones⟩,true) by rw[hu,h3,h4,h5]]
  have e:Worker.e ⟨[r],[],t,x.cells,x.sums,x.black,x.caps,x.dones⟩=[.sl 5 ([r.e]),.sl 5 (x.staged.map Record.e),.sl 5 ([]++((x.inputs.map Record.e).drop 1).take ((x.inputs.map Record.e).length-1)),.sl 4 (x.cells.map Cell.e),.sl 1 (x.sums.map eI),.sl 1 (x.black.map eB),.sl 1 (x.caps.map eB),.sl 2 (x.dones.map Done.e)]:=by
   rw[qhe h5,h3];rfl
  dsimp only
  rw[qhf,e]
  exact qJO ⟨is,rfl,wE0,wE1,wE2,pos_f h3,pos_f h4,len_t h5,by omega,qca h5,qcJ h5,cut_a,cut_b h5,cut_c,qf6 h5 hil,qf7 h5 hil,qf8 h5,wE0,wE1,wE2,rfl,rfl,rfl,rfl,rfl,rfl,trivial⟩
theorem qKC(c:Cluster)(w:Int)(hc:c.sz≤8388608):RetR prog 146 [.ref (runE c) (runE (qbh c w).1),.ro (.one (I w))] (.vals [.one (B (qbh c w).2)]):=by
 have is:=qlI c w hc
 cases ok:qah c with
 | false=>
  rw[ok]at is
  rw[show qbh c w=(c,false) by unfold qbh;simp[ok]]
  exact qqw ⟨is,rfl,trivial⟩
 | true=>
 cases hx:wAt c w with
 | none=>
  rw[ok,hx]at is
  rw[show qbh c w=(c,false) by unfold qbh;simp[hx]]
  exact qqw ⟨is,rfl,trivial⟩
 | some x=>
 rw[ok,hx]at is
 obtain⟨wE0,wE1,wE2⟩:=qbL hx
 have hsz:=qb0 hx hc
 have hn:=qbK (qaY.1 ok).1
 cases hs:x.staged with
 | nil=>
  rw[show qbh c w=(c,false) by unfold qbh;rw[zp ok,hx];dsimp only;rw[hs]]
  exact qJQ ⟨is,rfl,wE0,wE1,wE2,len_f hs,trivial⟩
 | cons r t=>
  have ow:=qpc r.key c.graph.workers (by omega)
  have hr:=(qiH (qcw ok hx) hs).2
  have he:=qeb hr
  have hql:x.queue.length≤8388608:=by simp only[Worker.sz]at hsz;omega
  have hsl:x.staged.length≤8388608:=by simp only[Worker.sz]at hsz;omega
  obtain⟨f4,_,_,fs⟩:=qiO ok hx
  rw[qqJ ok hx hs]
  have oin:=qpW r.key hn.1
  generalize qbd r.key c.graph.workers=o at ow oin
  by_cases how:o=w
  ·have hbo:(o != w)=false:=by simp[how]
   rw[qqK how]
   unfold runE at is ⊢
   dsimp only
   rw[qHK ok hx hs]
   rw[ok]at is ⊢
   have e:(kept (qbE x t) r).e=[.sl 5 (x.queue.map Record.e++[r.e]),.sl 5 ([]++((x.staged.map Record.e).drop 1).take ((x.staged.map Record.e).length-1)),.sl 5 (x.inputs.map Record.e),.sl 4 (x.cells.map Cell.e),.sl 1 (x.sums.map eI),.sl 1 (x.black.map eB),.sl 1 (x.caps.map eB),.sl 2 (x.dones.map Done.e)]:=by
    rw[qhe hs,qlD];rfl
   rw[qhf,e]
   have key:=qJT ⟨is,rfl,wE0,wE1,wE2,len_t hs,wE0,wE1,wE2,by omega,qca hs,qcJ hs,ow,hbo,wE0,wE1,wE2,one_m hql,one_x hql,wE2,rfl,qap (Record.flat r),rfl,rfl,rfl,rfl,rfl,rfl,rfl,rfl,rfl,rfl,rfl,rfl,rfl,wE0,wE1,wE2,rfl,wE0,by rw[zn];exact wE1,gs1 wE0 wE1,cut_a,cut_b hs,cut_c,qf6 hs hsl,qf7 hs hsl,qf8 hs,wE0,by rw[zn];exact wE1,gs1 wE0 wE1,trivial⟩
   simp only[zam]at key
   exact key
  ·have hbo:(o != w)=true:=by simp[how]
   have win:inR w 0 (c.graph.workers-1)=true:=by
    have:=qiN hx
    rwa[zb,(qaY.1 ok).2.1]at this
   obtain⟨l,hl⟩:=qf5 ok win oin
   obtain⟨lE0,lE1,lE2⟩:=qga hl
   have lp:=qlC c.graph w o hn
   have so:=qKg l r (qgb hl hc)
   have om:=fun h=>qHJ ok hx hs oin how hl h
   rw[qqL how hl]
   cases h6:(qaD l r).2 with
   | false=>
    rw[h6]at so
    exact qJR ⟨is,rfl,wE0,wE1,wE2,len_t hs,wE0,wE1,wE2,by omega,qca hs,qcJ hs,ow,hbo,lp,lE0,lE1,lE2,so,rfl,trivial⟩
   | true=>
    rw[h6]at so
    rw[zp rfl]
    unfold runE at is ⊢
    dsimp only
    rw[om h6]
    rw[ok]at is ⊢
    have su:=qqP (setL c (qaQ c.graph w o) (qaD l r).1) w r.stamp.epoch 1 x (qhb.trans hx) f4 he (by omega) (fs _ he)
    rw[qqH,qlG,qqO]at su
    have e:(qcI (qbE x t) r.stamp.epoch).e=[.sl 5 (x.queue.map Record.e),.sl 5 ([]++((x.staged.map Record.e).drop 1).take ((x.staged.map Record.e).length-1)),.sl 5 (x.inputs.map Record.e),.sl 4 (x.cells.map Cell.e),.sl 1 ((x.sums.map eI).set r.stamp.epoch.toNat [I (x.sums.getD r.stamp.epoch.toNat 0+1)]),.sl 1 (x.black.map eB),.sl 1 (x.caps.map eB),.sl 2 (x.dones.map Done.e)]:=by
     rw[qhe hs,qqD];rfl
    rw[qlG,e]
    have key:=qJS ⟨is,rfl,wE0,wE1,wE2,len_t hs,wE0,wE1,wE2,by omega,qca hs,qcJ hs,ow,hbo,lp,lE0,lE1,lE2,so,rfl,lE0,lE1,lE2,su,wE0,by rw[zn];exact wE1,gs1 wE0 wE1,cut_a,cut_b hs,cut_c,qf6 hs hsl,qf7 hs hsl,qf8 hs,wE0,by rw[zn];exact wE1,gs1 wE0 wE1,trivial⟩
    simp only[zam]at key
    exact key
theorem qKD(c:Cluster)(a b:Int)(hc:c.sz≤8388608):RetR prog 147 [.ref (runE c) (runE (qbr c a b).1),.ro (.one (I a)),.ro (.one (I b))] (.vals [.one (B (qbr c a b).2)]):=by
 cases ok:qah c with
 | false=>
  rw[show qbr c a b=(c,false) by unfold qbr;simp[ok]]
  obtain⟨v,lp⟩:=qqB c.graph a b
  unfold runE
  rw[ok]
  exact qJV ⟨lp,rfl,trivial⟩
 | true=>
 have hn:=qbK (qaY.1 ok).1
 have lp:=qlC c.graph a b hn
 cases hh:(inR a 0 (c.graph.workers-1)&&inR b 0 (c.graph.workers-1)) with
 | false=>
  rw[qee hh]at lp
  rw[show qbr c a b=(c,false) by unfold qbr;rw[qiP hh];split<;>rfl]
  unfold runE
  rw[ok]
  exact qJW ⟨lp,rfl,dT (by decide),trivial⟩
 | true=>
 rw[zj]at hh
 obtain⟨l,hl⟩:=qf5 ok hh.1 hh.2
 obtain⟨lE0,lE1,lE2⟩:=qga hl
 by_cases hab:a=b
 ·rw[show qbr c a b=(c,false) by unfold qbr;simp[hab]]
  unfold runE
  rw[ok]
  exact qJX ⟨lp,rfl,dF (by omega),by simp[hab],trivial⟩
 have hbo:(a==b)=false:=by simp[hab]
 obtain⟨x,hx⟩:∃x,wAt c b=some x:=by
  have hb:=hh.2
  have:=(qaY.1 ok).2.1
  simp only[inR,zi]at hb
  exact qg9 (by omega) (by omega)
 obtain⟨wE0,wE1,wE2⟩:=qbL hx
 have hsz:=qb0 hx hc
 have tf:=qKh l (qgb hl hc)
 have ot:=fun h=>qHL ok hl hx h
 rw[qqM ok hab hl hx]
 unfold runE
 cases h6:(qav l).2.2 with
 | false=>
  rw[h6]at tf
  rw[zo (by decide)]
  dsimp only
  rw[ok]
  exact qJY ⟨lp,rfl,dF (by omega),hbo,lE0,lE1,lE2,tf,rfl,trivial⟩
 | true=>
  rw[h6]at tf
  rw[zp rfl]
  dsimp only
  rw[ot h6,ok]
  have hr:=(qlp (qg8 ok hl) h6).2
  have he:=qeb hr
  generalize (qav l).2.1=r at tf hr he ⊢
  obtain⟨f4,fb,_,fs⟩:=qiO ok hx
  have hql:x.queue.length≤8388608:=by simp only[Worker.sz]at hsz;omega
  obtain⟨b1,b2⟩:=bool4 fb he
  have hx2:wAt (setW (setL c (qaQ c.graph a b) (qav l).1) b ⟨x.queue++[r],x.staged,x.inputs,x.cells,x.sums,x.black.set r.stamp.epoch.toNat true,x.caps,x.dones⟩) b=some ⟨x.queue++[r],x.staged,x.inputs,x.cells,x.sums,x.black.set r.stamp.epoch.toNat true,x.caps,x.dones⟩:=by
   obtain⟨q1,q2,_⟩:=qc0 hx
   unfold wAt setW setL
   rw[zp q1]
   exact List.getElem?_set_self q2
  have su:=qqP _ b r.stamp.epoch (-1) _ hx2 f4 he (by omega) (fs _ he)
  rw[qlG]at su
  have e2:Worker.e ⟨x.queue++[r],x.staged,x.inputs,x.cells,x.sums,x.black.set r.stamp.epoch.toNat true,x.caps,x.dones⟩=[.sl 5 (x.queue.map Record.e++[r.e]),.sl 5 (x.staged.map Record.e),.sl 5 (x.inputs.map Record.e),.sl 4 (x.cells.map Cell.e),.sl 1 (x.sums.map eI),.sl 1 ((x.black.map eB).set r.stamp.epoch.toNat [B true]),.sl 1 (x.caps.map eB),.sl 2 (x.dones.map Done.e)]:=by
   simp only[Worker.e,zU,zau];rfl
  rw[e2,←zam]at su
  rw[show setW (setW (setL c (qaQ c.graph a b) (qav l).1) b ⟨x.queue++[r],x.staged,x.inputs,x.cells,x.sums,x.black.set r.stamp.epoch.toNat true,x.caps,x.dones⟩) b (sumW ⟨x.queue++[r],x.staged,x.inputs,x.cells,x.sums,x.black.set r.stamp.epoch.toNat true,x.caps,x.dones⟩ r.stamp.epoch (-1))=setW (setL c (qaQ c.graph a b) (qav l).1) b (received x r) by unfold setW setL;simp only[zam];rfl]at su
  exact qJZ ⟨lp,rfl,dF (by omega),hbo,lE0,lE1,lE2,tf,rfl,lE0,lE1,lE2,wE0,wE1,wE2,one_m hql,one_x hql,wE2,rfl,qap (Record.flat r),rfl,rfl,rfl,rfl,rfl,rfl,rfl,wE0,wE1,wE2,rfl,wE0,by rw[zn];exact wE1,gs1 wE0 wE1,he.1,b1,b2,gs1 wE0 wE1,rfl,rfl,su,trivial⟩
theorem qKE(c:Cluster)(a b:Int)(hc:c.sz≤8388608):RetR prog 148 [.ref (runE c) (runE (qbi c a b).1),.ro (.one (I a)),.ro (.one (I b))] (.vals [.one (B (qbi c a b).2)]):=by
 have post:=fun h=>qHO (c:=c) (a:=a) (b:=b) h
 cases ok:qah c with
 | false=>
  rw[show qbi c a b=(c,false) by unfold qbi;simp[ok]]
  obtain⟨v,lp⟩:=qqB c.graph a b
  unfold runE
  rw[ok]
  exact qJH ⟨lp,rfl,trivial⟩
 | true=>
 replace post:=post ok
 have hn:=qbK (qaY.1 ok).1
 have lp:=qlC c.graph a b hn
 unfold runE
 rw[post,ok]
 cases hh:(inR a 0 (c.graph.workers-1)&&inR b 0 (c.graph.workers-1)) with
 | false=>
  rw[qee hh]at lp
  rw[show qbi c a b=(c,false) by unfold qbi;rw[qiP hh];split<;>rfl]
  exact qJI ⟨lp,rfl,dT (by decide),trivial⟩
 | true=>
 rw[zj]at hh
 obtain⟨l,hl⟩:=qf5 ok hh.1 hh.2
 obtain⟨lE0,lE1,lE2⟩:=qga hl
 by_cases hab:a=b
 ·rw[show qbi c a b=(c,false) by unfold qbi;simp[hab]]
  exact qJJ ⟨lp,rfl,dF (by omega),by simp[hab],trivial⟩
 rw[qqN ok hab hl]
 dsimp only
 rw[qqH]
 exact qJK ⟨lp,rfl,dF (by omega),by simp[hab],lE0,lE1,lE2,qKi l (qgb hl hc),lE0,lE1,lE2,trivial⟩
theorem qKF(c:Cluster)(p:Pick)(hc:c.sz≤8388608):RetR prog 87 [.ref (runE c) (runE (stepPick c p).1),.ro (.agg p.e)] (.vals [.one (B (stepPick c p).2)]):=by
 by_cases h1:p.kind=1
 ·rw[show stepPick c p=qbf c p.a by unfold stepPick;simp[h1]]
  exact qJ4 ⟨by rw[zE];exact h1,qKA c p.a hc,trivial⟩
 have n1:(p.kind==1)=false:=by rw[zQ,zcc,zE];exact h1
 by_cases h2:p.kind=2
 ·rw[show stepPick c p=qbg c p.a by unfold stepPick;simp[h2]]
  exact qJ5 ⟨n1,by rw[zE];exact h2,qKB c p.a hc,trivial⟩
 have n2:(p.kind==2)=false:=by rw[zQ,zcc,zE];exact h2
 by_cases h3:p.kind=3
 ·rw[show stepPick c p=qbh c p.a by unfold stepPick;simp[h3]]
  exact qJ6 ⟨n1,n2,by rw[zE];exact h3,qKC c p.a hc,trivial⟩
 have n3:(p.kind==3)=false:=by rw[zQ,zcc,zE];exact h3
 by_cases h4:p.kind=4
 ·rw[show stepPick c p=qbr c p.a p.b by unfold stepPick;simp[h4]]
  exact qJ7 ⟨n1,n2,n3,by rw[zE];exact h4,qKD c p.a p.b hc,trivial⟩
 have n4:(p.kind==4)=false:=by rw[zQ,zcc,zE];exact h4
 by_cases h5:p.kind=5
 ·rw[show stepPick c p=qbi c p.a p.b by unfold stepPick;simp[h5]]
  exact qJ8 ⟨n1,n2,n3,n4,by rw[zE];exact h5,qKE c p.a p.b hc,trivial⟩
 have n5:(p.kind==5)=false:=by rw[zQ,zcc,zE];exact h5
 by_cases h6:p.kind=6
 ·rw[show stepPick c p=qba c p.a by unfold stepPick;simp[h6]]
  exact qJ9 ⟨n1,n2,n3,n4,n5,by rw[zE];exact h6,qIn c p.a hc,trivial⟩
 have n6:(p.kind==6)=false:=by rw[zQ,zcc,zE];exact h6
 by_cases h7:p.kind=7
 ·rw[show stepPick c p=qbs c p.a by unfold stepPick;simp[h7]]
  exact qKa ⟨n1,n2,n3,n4,n5,n6,by rw[zE];exact h7,qId c p.a hc,trivial⟩
 have n7:(p.kind==7)=false:=by rw[zQ,zcc,zE];exact h7
 rw[show stepPick c p=(c,false) by unfold stepPick;simp[h1,h2,h3,h4,h5,h6,h7]]
 exact qKb ⟨n1,n2,n3,n4,n5,n6,n7,trivial⟩
theorem qKG(c:Cluster)(p:Pick)(hc:c.sz≤8388608)(hw:GotLe c):Rt 24 [.agg c.e,.agg p.e] [.agg (stepPick c p).1.e,.one (B (stepPick c p).2)]:=by
 by_cases h1:p.kind=1
 ·rw[show stepPick c p=qbf c p.a by unfold stepPick;simp[h1]]
  exact qIZ ⟨by rw[zE];exact h1,qKv c p.a hc hw,trivial⟩
 have n1:(p.kind==1)=false:=by rw[zQ,zcc,zE];exact h1
 by_cases h2:p.kind=2
 ·rw[show stepPick c p=qbg c p.a by unfold stepPick;simp[h2]]
  exact qI0 ⟨n1,by rw[zE];exact h2,qKw c p.a hc hw,trivial⟩
 have n2:(p.kind==2)=false:=by rw[zQ,zcc,zE];exact h2
 by_cases h3:p.kind=3
 ·rw[show stepPick c p=qbh c p.a by unfold stepPick;simp[h3]]
  exact qI1 ⟨n1,n2,by rw[zE];exact h3,qKx c p.a hc hw,trivial⟩
 have n3:(p.kind==3)=false:=by rw[zQ,zcc,zE];exact h3
 by_cases h4:p.kind=4
 ·rw[show stepPick c p=qbr c p.a p.b by unfold stepPick;simp[h4]]
  exact qI2 ⟨n1,n2,n3,by rw[zE];exact h4,qKy c p.a p.b hc hw,trivial⟩
 have n4:(p.kind==4)=false:=by rw[zQ,zcc,zE];exact h4
 by_cases h5:p.kind=5
 ·rw[show stepPick c p=qbi c p.a p.b by unfold stepPick;simp[h5]]
  exact qI3 ⟨n1,n2,n3,n4,by rw[zE];exact h5,qKz c p.a p.b hc hw,trivial⟩
 have n5:(p.kind==5)=false:=by rw[zQ,zcc,zE];exact h5
 by_cases h6:p.kind=6
 ·rw[show stepPick c p=qba c p.a by unfold stepPick;simp[h6]]
  exact qI4 ⟨n1,n2,n3,n4,n5,by rw[zE];exact h6,qIq c p.a hc hw,trivial⟩
 have n6:(p.kind==6)=false:=by rw[zQ,zcc,zE];exact h6
 by_cases h7:p.kind=7
 ·rw[show stepPick c p=qbs c p.a by unfold stepPick;simp[h7]]
  exact qI5 ⟨n1,n2,n3,n4,n5,n6,by rw[zE];exact h7,qIe c p.a hc hw,trivial⟩
 have n7:(p.kind==7)=false:=by rw[zQ,zcc,zE];exact h7
 rw[show stepPick c p=(c,false) by unfold stepPick;simp[h1,h2,h3,h4,h5,h6,h7]]
 exact qI6 ⟨n1,n2,n3,n4,n5,n6,n7,qcX c hc,trivial⟩
end Go.Proofs.YtdanpadojemjeaaGreat
