import Derived.Test.YtdkobdhckkjmeaaGreatP43
set_option linter.unusedVariables false
set_option linter.unusedSimpArgs false
namespace Go.Proofs.YtdkobdhckkjmeaaGreat
open Go.Sx Go.RowKit Go.Proofs.Tryz
theorem qs2{c:Cluster}{i:Int}{t:Token}(h:tAt c i=some t):0≤i∧i<(↑(c.tokens.map Token.e).length:Int)∧(c.tokens.map Token.e)[i.toNat]?=some t.e:=by
 obtain⟨h1,h2,h3⟩:=qfC h;exact⟨h1,by rw[zb];omega,qad Token.e h3⟩
theorem int4{xs:List Int}{e:Int}(h4:xs.length=4)(he:0≤e∧e≤3):e<(↑(xs.map eI).length:Int)∧(xs.map eI)[e.toNat]?=some [I (xs.getD e.toNat 0)]:=by
 have hl:e.toNat<xs.length:=by omega
 refine⟨by rw[zb];omega,?_⟩;rw[zr,zu hl,zN,zu hl];rfl
theorem bool4{xs:List Bool}{e:Int}(h4:xs.length=4)(he:0≤e∧e≤3):e<(↑(xs.map eB).length:Int)∧(xs.map eB)[e.toNat]?=some [B (xs.getD e.toNat false)]:=by
 have hl:e.toNat<xs.length:=by omega
 refine⟨by rw[zb];omega,?_⟩;rw[zr,zu hl,zN,zu hl];rfl
theorem gs1{l:List (List D)}{i:Int}{a:List D}(h0:0≤i)(h:i<(↑l.length:Int)):(l.set i.toNat a)[i.toNat]?=some a:=List.getElem?_set_self (by omega)
theorem gs2{l:List (List D)}{i:Int}{a b:List D}(h0:0≤i)(h:i<(↑l.length:Int)):((l.set i.toNat a).set i.toNat b)[i.toNat]?=some b:=by rw[zam];exact gs1 h0 h
theorem gs3{l:List (List D)}{i:Int}{a b d:List D}(h0:0≤i)(h:i<(↑l.length:Int)):(((l.set i.toNat a).set i.toNat b).set i.toNat d)[i.toNat]?=some d:=by rw[zam,zam];exact gs1 h0 h
theorem qkf(x:Worker)(e:Int):(qaA x e).e=[.sl 5 (x.queue.map Record.e),.sl 5 (x.staged.map Record.e),.sl 5 (x.inputs.map Record.e),.sl 4 (x.cells.map Cell.e),.sl 1 (x.sums.map eI),.sl 1 ((x.black.map eB).set e.toNat [B false]),.sl 1 (x.caps.map eB),.sl 2 (x.dones.map Done.e)]:=by
 simp only[qaA,Worker.e,zau];rfl
theorem qs3(x:Worker)(e:Int)(b:Bool):(told x e b).e=[.sl 5 (x.queue.map Record.e),.sl 5 (x.staged.map Record.e),.sl 5 (x.inputs.map Record.e),.sl 4 (x.cells.map Cell.e),.sl 1 (x.sums.map eI),.sl 1 (x.black.map eB),.sl 1 (x.caps.map eB),.sl 2 (x.dones.map Done.e++[[I e,B b]])]:=by
 simp only[told,Worker.e,zU];rfl
theorem qs4(c:Cluster)(e p:Int)(t:Token)(y:Worker):(setW (setT c e t) p y).e=[.sl 4 (c.graph.nodes.map Node.e),I c.graph.workers,I c.graph.cap,.sl 8 ((c.workers.map Worker.e).set p.toNat y.e),.sl 6 (c.links.map Link.e),.sl 5 ((c.tokens.map Token.e).set e.toNat t.e),.sl 3 (c.news.map News.e)]:=by
 simp only[setW,setT,Cluster.e,zau]
theorem qnt(c:Cluster)(e:Int)(t:Token):(setT c e t).e=[.sl 4 (c.graph.nodes.map Node.e),I c.graph.workers,I c.graph.cap,.sl 8 (c.workers.map Worker.e),.sl 6 (c.links.map Link.e),.sl 5 ((c.tokens.map Token.e).set e.toNat t.e),.sl 3 (c.news.map News.e)]:=by
 simp only[setT,Cluster.e,zau]
theorem qs5(c:Cluster)(e p:Int)(t:Token)(y:Worker)(b:Bool):runD (setW (setT c e t) p y) b=[.sl 4 (c.graph.nodes.map Node.e),I c.graph.workers,I c.graph.cap,.sl 8 ((c.workers.map Worker.e).set p.toNat y.e),.sl 6 (c.links.map Link.e),.sl 5 ((c.tokens.map Token.e).set e.toNat t.e),.sl 3 (c.news.map News.e),B b]:=by
 simp only[setW,setT,runD,zau]
theorem qMm(c:Cluster)(e:Int)(t:Token)(b:Bool):runD (setT c e t) b=[.sl 4 (c.graph.nodes.map Node.e),I c.graph.workers,I c.graph.cap,.sl 8 (c.workers.map Worker.e),.sl 6 (c.links.map Link.e),.sl 5 ((c.tokens.map Token.e).set e.toNat t.e),.sl 3 (c.news.map News.e),B b]:=by
 simp only[setT,runD,zau]
theorem qnu(n:Nat)(e:Int)(b:Bool):qaR (n+1) e b=qaR n e b++[⟨(n:Int)+1,e,b⟩]:=by simp[qaR,List.range_succ]
theorem qnv(n:Nat)(e:Int)(b:Bool):(qaR n e b).length=n:=by simp[qaR]
theorem qs6{c:Cluster}{e:Int}{x0 x:Worker}{t:Token}(ok:qai c=true)(he:inR e 0 3=true)(h0:wAt c 0=some x0)(ht:tAt c e=some t)(hd:qaz x0 e=false)(hx:wAt c t.place=some x):qbc c e=tokenAt c e t x:=by
 unfold qbc;simp only[ok,he,Bool.and_self,zbb,h0,ht,hd,zao,zci,hx]
theorem qs7{c:Cluster}{e:Int}(ok:qai c=true)(he:inR e 0 3=true):∃x0 t x,wAt c 0=some x0∧tAt c e=some t∧wAt c t.place=some x∧0<c.workers.length∧c.workers.length≤4∧
  (0≤t.place∧t.place≤3)∧(t.going=false→t.place=0)∧(-1000000≤t.sum∧t.sum≤1000000)∧x.sums.length=4∧x.black.length=4∧x.caps.length=4∧(-1000000≤x.sums.getD e.toNat 0∧x.sums.getD e.toNat 0≤1000000):=by
 obtain⟨h1,h2,h3,h4,h5,h6,h7,h8⟩:=qaH.1 ok;have hn:=qa7 h1;obtain⟨x0,h0⟩:=qcA (c:=c) (i:=0) (by omega) (by omega);obtain⟨t,ht⟩:=qr8 ok he;obtain⟨t1,t2,t3⟩:=qdD.1 (qgB ok ht);obtain⟨x,hx⟩:=qcA (c:=c) (i:=t.place) (by omega) (by omega);obtain⟨_,_,_,_,k5,k6,k7,_,k9,_⟩:=qbd.1 (qbu ok hx);refine⟨x0,t,x,h0,ht,hx,by omega,by omega,by omega,t2,t3,k5,k6,k7,?_⟩;simp only[inR,zi]at he;have hl:e.toNat<x.sums.length:=by omega
 rw[zP]at k9;have:=k9 _ (zax hl);rw[zN,zu hl,zV];simpa only[qcy,zS,zX,inR,zi,zbt,Bool.not_not,Bool.not_eq_eq_eq_not,zZ,zf,Classical.not_not]using this
theorem qs8(c:Cluster)(e:Int)(x:Worker)(r:Bool)(h0:wAt c 0=some x)(hd:qaz x e=r)(hc:c.sz≤8388608):Rt 44 [.agg c.e,.one (I e)] [.one (B r)]:=by
 obtain⟨w0,w1,w2⟩:=qb1 h0;exact qKV ⟨dT (by omega),w0,w1,w2,qmJ x e r hd (qcc h0 hc),trivial⟩
theorem qMn(c:Cluster)(b:Bool)(x:Worker)(e:Int)(cap:Bool)(h0:wAt c 0=some x)(h4:c.workers.length≤4)(hc:c.sz≤8388608):
  RetR prog 274 [.ref (runD c b) (runD (setN (setW c 0 (told x e cap)) (c.news++qaR (c.workers.length-1) e cap)) b),.ro (.one (I e)),.ro (.one (B cap))] (.vals []):=by
 obtain⟨w0,w1,w2⟩:=qb1 h0;have hn:=qfz hc;have hs:=qcc h0 hc;have hdl:x.dones.length≤8388608:=by simp only[Worker.sz]at hs;omega
 have hlen:=(qaC h0).2.1;have hW:((setW c 0 (told x e cap)).workers.map Worker.e).length=c.workers.length:=by simp[setW]
 have l:=qao (P:=prog) (c:=(qaa f274 0)) (qaf 0) (c.workers.length-1) (fun i:Nat=>qh2 e cap ((i:Int)+1) (c.graph.nodes.map Node.e) c.graph.workers c.graph.cap ((setW c 0 (told x e cap)).workers.map Worker.e) (c.links.map Link.e) (c.tokens.map Token.e) ((c.news++qaR i e cap).map News.e) b) (fun i hi=>by
  have hm:=qnv i e cap;rw[qnu,←zba,zU (l₂:=[_])];exact qKk ⟨dT (by rw[hW];omega),by simp;omega,by simp;omega,qat (News.flat ⟨(i:Int)+1,e,cap⟩),⟨by omega,by omega⟩,trivial⟩) (qKl ⟨dF (by rw[hW];omega),trivial⟩)
 have e2:(setW c 0 (told x e cap)).workers.map Worker.e=(c.workers.map Worker.e).set 0 [.sl 5 (x.queue.map Record.e),.sl 5 (x.staged.map Record.e),.sl 5 (x.inputs.map Record.e),.sl 4 (x.cells.map Cell.e),.sl 1 (x.sums.map eI),.sl 1 (x.black.map eB),.sl 1 (x.caps.map eB),.sl 2 (x.dones.map Done.e++[[I e,B cap]])]:=by
  rw[←qs3];exact qnr.symm
 have e0:qaR 0 e cap=[]:=rfl;rw[e2,e0,zaa]at l;have e5:runD (setN (setW c 0 (told x e cap)) (c.news++qaR (c.workers.length-1) e cap)) b=[.sl 4 (c.graph.nodes.map Node.e),I c.graph.workers,I c.graph.cap,.sl 8 ((setW c 0 (told x e cap)).workers.map Worker.e),.sl 6 (c.links.map Link.e),.sl 5 (c.tokens.map Token.e),.sl 3 ((c.news++qaR (c.workers.length-1) e cap).map News.e),B b]:=rfl;rw[e5,e2];exact qKm ⟨by omega,w1,w2,by simp;omega,by simp;omega,w2,rfl,qat (Done.flat ⟨e,cap⟩),rfl,rfl,rfl,rfl,rfl,rfl,rfl,by omega,w1,w2,rfl,l,trivial⟩
theorem qMo(c:Cluster)(e:Int)(hc:c.sz≤8388608):RetR prog 165 [.ref (runE c) (runE (qbc c e).1),.ro (.one (I e))] (.vals [.one (B (qbc c e).2)]):=by
 have post:=fun h=>qsi (c:=c) (e:=e) h
 cases ok:qai c with
 | false=>
  rw[show qbc c e=(c,false) by unfold qbc;simp[ok]];simp only[runE,ok];exact qKn ⟨rfl,trivial⟩
 | true=>
 replace post:=post ok;cases he:inR e 0 3 with
 | false=>
  rw[show qbc c e=(c,false) by unfold qbc;simp[he]];simp only[runE,ok];exact qKo ⟨rfl,qaK _ _ _ _ he,rfl,trivial⟩
 | true=>
 have he:=he;obtain⟨x0,t,x,h0,ht,hx,hl0,hl4,hpl,hgp,hsum,hs4,hb4,hc4,hxs⟩:=qs7 ok he;have he':0≤e∧e≤3:=by simpa only[inR,zi]using he
 obtain⟨tE0,tE1,tE2⟩:=qs2 ht;obtain⟨wE0,wE1,wE2⟩:=qb1 hx;obtain⟨zE0,zE1,zE2⟩:=qb1 h0;obtain⟨sE1,sE2⟩:=int4 hs4 he';obtain⟨kE1,kE2⟩:=bool4 hb4 he';obtain⟨cE1,cE2⟩:=bool4 hc4 he';have hsz:=qcc hx hc;have hdl:x.dones.length≤8388608:=by simp only[Worker.sz]at hsz;omega
 have hll:(↑(c.workers.map Worker.e).length:Int)=(c.workers.length:Int):=by rw[zb]
 cases hd:qaz x0 e with
 | true=>
  rw[show qbc c e=(c,false) by unfold qbc;simp only[ok,he,Bool.and_self,zbb,h0,ht,hd]];simp only[runE,ok];exact qKp ⟨rfl,qaK _ _ _ _ he,rfl,qs8 c e x0 true h0 hd hc,rfl,trivial⟩
 | false=>
 rw[qs6 ok he h0 ht hd hx]at post ⊢;have rd:=qs8 c e x0 false h0 hd hc;have wi:=qaK _ _ _ _ he;cases hp:qbF x e with
 | false=>
  rw[show tokenAt c e t x=(c,false) by unfold tokenAt;simp[hp]];simp only[runE,ok];exact qKq ⟨rfl,wi,rfl,rd,rfl,tE0,tE1,tE2,wE0,wE1,wE2,qs0 x e _ hp hsz,rfl,trivial⟩
 | true=>
 have pa:=qs0 x e _ hp hsz;have ei:inInt .i64 (t.sum+x.sums.getD e.toNat 0):=⟨by omega,by omega⟩
 simp only[runE,ok,post];clear post;obtain⟨tg,tp,ts,tb,tc⟩:=t;dsimp only at*;cases tg with
 | false=>
  obtain rfl:tp=0:=hgp rfl;rw[show tokenAt c e ⟨false,0,ts,tb,tc⟩ x=(setW (setT c e ⟨true,(c.workers.length:Int)-1,0,false,x.caps.getD e.toNat false⟩) 0 (qaA x e),true) by simp only[tokenAt,hp,zbb,zbc]];dsimp only;rw[qs5,qkf,←hll];exact qKr ⟨rfl,wi,rfl,rd,rfl,tE0,tE1,tE2,wE0,wE1,wE2,pa,rfl,tE0,sE1,sE2,ei,rfl,⟨by omega,by omega⟩,tE0,cE1,cE2,tE0,tE1,tE2,by omega,wE1,wE2,tE0,kE1,kE2,wE2,rfl,rfl,rfl,rfl,rfl,trivial⟩
 | true=>
 by_cases hp0:0<tp
 case pos=>
  have dp:decide (tp>0)=true:=dT hp0;cases hr:inR (ts+x.sums.getD e.toNat 0) (-1000000) 1000000 with
  | false=>
   rw[show tokenAt c e ⟨true,tp,ts,tb,tc⟩ x=(c,false) by simp only[tokenAt,hp,zbb,zZ,zao,zci,hp0,hr]];exact qKs ⟨rfl,wi,rfl,rd,rfl,tE0,tE1,tE2,wE0,wE1,wE2,pa,rfl,tE0,sE1,sE2,ei,rfl,dp,qaK _ _ _ _ hr,rfl,trivial⟩
  | true=>
   have e1:tokenAt c e ⟨true,tp,ts,tb,tc⟩ x=(setW (setT c e ⟨true,tp-1,ts+x.sums.getD e.toNat 0,tb||x.black.getD e.toNat false,tc||x.caps.getD e.toNat false⟩) tp (qaA x e),true):=by
    simp only[tokenAt,hp,zbb,zZ,zao,zci,hp0,hr]
   rw[e1];dsimp only;rw[qs5,qkf];have wr:=qaK _ _ _ _ hr;cases tb with
   | true=>
    cases tc with
    | true=>exact qKt ⟨rfl,wi,rfl,rd,rfl,tE0,tE1,tE2,wE0,wE1,wE2,pa,rfl,tE0,sE1,sE2,ei,rfl,dp,wr,rfl,⟨by omega,by omega⟩,rfl,rfl,tE0,tE1,tE2,wE0,wE1,wE2,tE0,kE1,kE2,wE2,rfl,rfl,rfl,rfl,rfl,trivial⟩
    | false=>exact qKu ⟨rfl,wi,rfl,rd,rfl,tE0,tE1,tE2,wE0,wE1,wE2,pa,rfl,tE0,sE1,sE2,ei,rfl,dp,wr,rfl,⟨by omega,by omega⟩,rfl,rfl,tE0,cE1,cE2,tE0,tE1,tE2,wE0,wE1,wE2,tE0,kE1,kE2,wE2,rfl,rfl,rfl,rfl,rfl,trivial⟩
   | false=>
    cases tc with
    | true=>exact qKv ⟨rfl,wi,rfl,rd,rfl,tE0,tE1,tE2,wE0,wE1,wE2,pa,rfl,tE0,sE1,sE2,ei,rfl,dp,wr,rfl,⟨by omega,by omega⟩,rfl,tE0,kE1,kE2,rfl,tE0,tE1,tE2,wE0,wE1,wE2,tE0,kE1,kE2,wE2,rfl,rfl,rfl,rfl,rfl,rfl,rfl,trivial⟩
    | false=>exact qKw ⟨rfl,wi,rfl,rd,rfl,tE0,tE1,tE2,wE0,wE1,wE2,pa,rfl,tE0,sE1,sE2,ei,rfl,dp,wr,rfl,⟨by omega,by omega⟩,rfl,tE0,kE1,kE2,rfl,tE0,cE1,cE2,tE0,tE1,tE2,wE0,wE1,wE2,tE0,kE1,kE2,wE2,rfl,rfl,rfl,rfl,rfl,rfl,rfl,trivial⟩
 case neg=>
  obtain rfl:tp=0:=by omega
  have dp:decide ((0:Int)>0)=false:=rfl;have e1:=fun b=>qMm c e ⟨false,0,ts,tb,tc⟩ b
  have ends:=fun cap=>qMn (setT c e ⟨false,0,ts,tb,tc⟩) true x e cap (qhT.trans hx) hl4 (by rw[qj4];exact hc)
  rw[e1]at ends;cases tb with
  | true=>
   rw[show tokenAt c e ⟨true,0,ts,true,tc⟩ x=(setT c e ⟨false,0,ts,true,tc⟩,true) by simp[tokenAt,hp]];dsimp only;rw[e1];exact qKB ⟨rfl,wi,rfl,rd,rfl,tE0,tE1,tE2,wE0,wE1,wE2,pa,rfl,tE0,sE1,sE2,ei,rfl,dp,tE0,tE1,tE2,rfl,trivial⟩
  | false=>
  cases hk:x.black.getD e.toNat false with
  | true=>
   rw[hk]at kE2;rw[show tokenAt c e ⟨true,0,ts,false,tc⟩ x=(setT c e ⟨false,0,ts,false,tc⟩,true) by unfold tokenAt;simp only[hp,hk];rfl];dsimp only;rw[e1];exact qKA ⟨rfl,wi,rfl,rd,rfl,tE0,tE1,tE2,wE0,wE1,wE2,pa,rfl,tE0,sE1,sE2,ei,rfl,dp,tE0,tE1,tE2,rfl,tE0,kE1,kE2,rfl,trivial⟩
  | false=>
  rw[hk]at kE2;cases hz:(ts+x.sums.getD e.toNat 0==0) with
  | false=>
   rw[show tokenAt c e ⟨true,0,ts,false,tc⟩ x=(setT c e ⟨false,0,ts,false,tc⟩,true) by unfold tokenAt;simp only[hp,hk,hz];rfl];dsimp only;rw[e1];exact qKz ⟨rfl,wi,rfl,rd,rfl,tE0,tE1,tE2,wE0,wE1,wE2,pa,rfl,tE0,sE1,sE2,ei,rfl,dp,tE0,tE1,tE2,rfl,tE0,kE1,kE2,rfl,hz,trivial⟩
  | true=>
  rw[show tokenAt c e ⟨true,0,ts,false,tc⟩ x=(setN (setW (setT c e ⟨false,0,ts,false,tc⟩) 0 (told x e (tc||x.caps.getD e.toNat false))) (c.news++qaR (c.workers.length-1) e (tc||x.caps.getD e.toNat false)),true) by unfold tokenAt;simp only[hp,hk,hz];rfl];cases tc with
  | true=>exact qKx ⟨rfl,wi,rfl,rd,rfl,tE0,tE1,tE2,wE0,wE1,wE2,pa,rfl,tE0,sE1,sE2,ei,rfl,dp,tE0,tE1,tE2,rfl,tE0,kE1,kE2,rfl,hz,rfl,ends true,trivial⟩
  | false=>exact qKy ⟨rfl,wi,rfl,rd,rfl,tE0,tE1,tE2,wE0,wE1,wE2,pa,rfl,tE0,sE1,sE2,ei,rfl,dp,tE0,tE1,tE2,rfl,tE0,kE1,kE2,rfl,hz,rfl,tE0,cE1,cE2,ends _,trivial⟩
theorem spec_TokenStep_ret(c:Cluster)(e:Int)(hc:c.sz≤8388608)(hw:GotLe c):Rt 42 [.agg c.e,.one (I e)] [.agg (qbc c e).1.e,.one (B (qbc c e).2)]:=
 spec_TokenStep_p0 ⟨qnq c hc hw,qMo c e hc,trivial⟩
theorem qMp(c:Cluster)(e:Int)(W T:List (List D))(hlen:0<c.workers.length)(h4:c.workers.length≤4)(hc:c.sz≤8388608):qam prog (qaa f41 0) (qgF e 1 (c.graph.nodes.map Node.e) c.graph.workers c.graph.cap W (c.links.map Link.e) T (c.news.map News.e) 0 0 (c.graph.nodes.map Node.e) c.graph.workers c.graph.cap (c.workers.map Worker.e) (c.links.map Link.e) (c.tokens.map Token.e) (c.news.map News.e)) (.exit 1) (qgG (c.graph.nodes.map Node.e) c.graph.workers c.graph.cap W (c.links.map Link.e) T ((c.news++qaR (c.workers.length-1) e true).map News.e) 0 0):=by
 have hn:=qfz hc;have l:=qao (P:=prog) (c:=(qaa f41 0)) (qaf 1) (c.workers.length-1) (fun i:Nat=>qgF e ((i:Int)+1) (c.graph.nodes.map Node.e) c.graph.workers c.graph.cap W (c.links.map Link.e) T ((c.news++qaR i e true).map News.e) 0 0 (c.graph.nodes.map Node.e) c.graph.workers c.graph.cap (c.workers.map Worker.e) (c.links.map Link.e) (c.tokens.map Token.e) (c.news.map News.e)) (fun i hi=>by
  have hm:=qnv i e true;rw[qnu,←zba,zU (l₂:=[_])];exact qKM ⟨dT (by simp;omega),by simp;omega,by simp;omega,qat (News.flat ⟨(i:Int)+1,e,true⟩),⟨by omega,by omega⟩,trivial⟩) (qKN ⟨dF (by simp;omega),trivial⟩)
 have e0:qaR 0 e true=[]:=rfl;rw[e0,zaa]at l;exact l
theorem qMq(c:Cluster)(e:Int)(cap:Bool)(W T:List (List D))(hlen:0<c.workers.length)(h4:c.workers.length≤4)(hc:c.sz≤8388608):qam prog (qaa f41 0) (qgH e cap 1 (c.graph.nodes.map Node.e) c.graph.workers c.graph.cap W (c.links.map Link.e) T (c.news.map News.e) 0 0 (c.graph.nodes.map Node.e) c.graph.workers c.graph.cap (c.workers.map Worker.e) (c.links.map Link.e) (c.tokens.map Token.e) (c.news.map News.e)) (.exit 1) (qgG (c.graph.nodes.map Node.e) c.graph.workers c.graph.cap W (c.links.map Link.e) T ((c.news++qaR (c.workers.length-1) e cap).map News.e) 0 0):=by
 have hn:=qfz hc;have l:=qao (P:=prog) (c:=(qaa f41 0)) (qaf 1) (c.workers.length-1) (fun i:Nat=>qgH e cap ((i:Int)+1) (c.graph.nodes.map Node.e) c.graph.workers c.graph.cap W (c.links.map Link.e) T ((c.news++qaR i e cap).map News.e) 0 0 (c.graph.nodes.map Node.e) c.graph.workers c.graph.cap (c.workers.map Worker.e) (c.links.map Link.e) (c.tokens.map Token.e) (c.news.map News.e)) (fun i hi=>by
  have hm:=qnv i e cap;rw[qnu,←zba,zU (l₂:=[_])];exact qKP ⟨dT (by simp;omega),by simp;omega,by simp;omega,qat (News.flat ⟨(i:Int)+1,e,cap⟩),⟨by omega,by omega⟩,trivial⟩) (qKQ ⟨dF (by simp;omega),trivial⟩)
 have e0:qaR 0 e cap=[]:=rfl;rw[e0,zaa]at l;exact l
theorem qMr(c:Cluster)(e:Int)(hc:c.sz≤8388608)(hw:GotLe c):Rt 41 [.agg c.e,.one (I e)] [.agg (qbc c e).1.e,.one (B (qbc c e).2)]:=by
 have cp:=qdd c hc;have okr:=qhO c hc hw;cases ok:qai c with
 | false=>
  rw[ok]at okr;rw[show qbc c e=(c,false) by unfold qbc;simp[ok]];exact qKC ⟨cp,okr,rfl,trivial⟩
 | true=>
 rw[ok]at okr;cases he:inR e 0 3 with
 | false=>
  rw[show qbc c e=(c,false) by unfold qbc;simp[he]];exact qKD ⟨cp,okr,rfl,qaO _ _ _ _ he,rfl,trivial⟩
 | true=>
 have he:=he;obtain⟨x0,t,x,h0,ht,hx,hl0,hl4,hpl,hgp,hsum,hs4,hb4,hc4,hxs⟩:=qs7 ok he;have he':0≤e∧e≤3:=by simpa only[inR,zi]using he
 obtain⟨tE0,tE1,tE2⟩:=qs2 ht;obtain⟨wE0,wE1,wE2⟩:=qb1 hx;obtain⟨zE0,zE1,zE2⟩:=qb1 h0;obtain⟨sE1,sE2⟩:=int4 hs4 he';obtain⟨kE1,kE2⟩:=bool4 hb4 he';obtain⟨cE1,cE2⟩:=bool4 hc4 he';have hsz:=qcc hx hc;have hdl:x.dones.length≤8388608:=by simp only[Worker.sz]at hsz;omega
 have hll:(↑(c.workers.map Worker.e).length:Int)=(c.workers.length:Int):=by rw[zb]
 have wi:=qaO _ _ _ _ he;cases hd:qaz x0 e with
 | true=>
  rw[show qbc c e=(c,false) by unfold qbc;simp only[ok,he,Bool.and_self,zbb,h0,ht,hd]];exact qKE ⟨cp,okr,rfl,wi,rfl,by omega,zE1,zE2,qkd x0 e true hd (qcc h0 hc),rfl,trivial⟩
 | false=>
 have dn:=qkd x0 e false hd (qcc h0 hc);rw[qs6 ok he h0 ht hd hx];cases hp:qbF x e with
 | false=>
  rw[show tokenAt c e t x=(c,false) by unfold tokenAt;simp[hp]];exact qKF ⟨cp,okr,rfl,wi,rfl,by omega,zE1,zE2,dn,rfl,tE0,tE1,tE2,wE0,wE1,wE2,qs1 x e _ hp hsz,rfl,trivial⟩
 | true=>
 have pa:=qs1 x e _ hp hsz;have ei:inInt .i64 (t.sum+x.sums.getD e.toNat 0):=⟨by omega,by omega⟩
 obtain⟨tg,tp,ts,tb,tc⟩:=t;dsimp only at*;cases tg with
 | false=>
  obtain rfl:tp=0:=hgp rfl;rw[show tokenAt c e ⟨false,0,ts,tb,tc⟩ x=(setW (setT c e ⟨true,(c.workers.length:Int)-1,0,false,x.caps.getD e.toNat false⟩) 0 (qaA x e),true) by simp only[tokenAt,hp,zbb,zbc]];dsimp only;rw[qs4,qkf,←hll];exact qKG ⟨cp,okr,rfl,wi,rfl,by omega,zE1,zE2,dn,rfl,tE0,tE1,tE2,wE0,wE1,wE2,pa,rfl,tE2,rfl,wE2,tE0,cE1,cE2,⟨by omega,by omega⟩,tE2,wE2,tE0,kE1,kE2,wE2,rfl,rfl,rfl,trivial⟩
 | true=>
 by_cases hp0:0<tp
 case pos=>
  have dp:decide (tp>0)=true:=dT hp0;cases hr:inR (ts+x.sums.getD e.toNat 0) (-1000000) 1000000 with
  | false=>
   rw[show tokenAt c e ⟨true,tp,ts,tb,tc⟩ x=(c,false) by simp only[tokenAt,hp,zbb,zZ,zao,zci,hp0,hr]];exact qKH ⟨cp,okr,rfl,wi,rfl,by omega,zE1,zE2,dn,rfl,tE0,tE1,tE2,wE0,wE1,wE2,pa,rfl,tE2,rfl,tE2,dp,tE2,wE2,tE0,sE1,sE2,ei,qaO _ _ _ _ hr,rfl,trivial⟩
  | true=>
   have e1:tokenAt c e ⟨true,tp,ts,tb,tc⟩ x=(setW (setT c e ⟨true,tp-1,ts+x.sums.getD e.toNat 0,tb||x.black.getD e.toNat false,tc||x.caps.getD e.toNat false⟩) tp (qaA x e),true):=by
    simp only[tokenAt,hp,zbb,zZ,zao,zci,hp0,hr]
   rw[e1];dsimp only;rw[qs4,qkf];have wr:=qaO _ _ _ _ hr;have k1:inInt .i64 (tp-1):=⟨by omega,by omega⟩
   cases tb with
   | true=>
    cases tc with
    | true=>
     have key:=qKI ⟨cp,okr,rfl,wi,rfl,by omega,zE1,zE2,dn,rfl,tE0,tE1,tE2,wE0,wE1,wE2,pa,rfl,tE2,rfl,tE2,dp,tE2,wE2,tE0,sE1,sE2,ei,wr,rfl,tE2,wE2,tE0,sE1,sE2,ei,tE2,gs1 tE0 tE1,rfl,gs1 tE0 tE1,gs2 tE0 tE1,rfl,gs2 tE0 tE1,wE2,tE0,kE1,kE2,wE2,rfl,rfl,rfl,gs3 tE0 tE1,k1,gs3 tE0 tE1,trivial⟩;simp only[zam]at key;exact key
    | false=>
     have key:=qKJ ⟨cp,okr,rfl,wi,rfl,by omega,zE1,zE2,dn,rfl,tE0,tE1,tE2,wE0,wE1,wE2,pa,rfl,tE2,rfl,tE2,dp,tE2,wE2,tE0,sE1,sE2,ei,wr,rfl,tE2,wE2,tE0,sE1,sE2,ei,tE2,gs1 tE0 tE1,rfl,gs1 tE0 tE1,gs2 tE0 tE1,rfl,wE2,tE0,cE1,cE2,gs2 tE0 tE1,wE2,tE0,kE1,kE2,wE2,rfl,rfl,rfl,gs3 tE0 tE1,k1,gs3 tE0 tE1,trivial⟩;simp only[zam]at key;exact key
   | false=>
    cases tc with
    | true=>
     have key:=qKK ⟨cp,okr,rfl,wi,rfl,by omega,zE1,zE2,dn,rfl,tE0,tE1,tE2,wE0,wE1,wE2,pa,rfl,tE2,rfl,tE2,dp,tE2,wE2,tE0,sE1,sE2,ei,wr,rfl,tE2,wE2,tE0,sE1,sE2,ei,tE2,gs1 tE0 tE1,rfl,wE2,tE0,kE1,kE2,gs1 tE0 tE1,gs2 tE0 tE1,rfl,gs2 tE0 tE1,wE2,tE0,kE1,kE2,wE2,rfl,rfl,rfl,rfl,rfl,gs3 tE0 tE1,k1,gs3 tE0 tE1,trivial⟩;simp only[zam]at key;exact key
    | false=>
     have key:=qKL ⟨cp,okr,rfl,wi,rfl,by omega,zE1,zE2,dn,rfl,tE0,tE1,tE2,wE0,wE1,wE2,pa,rfl,tE2,rfl,tE2,dp,tE2,wE2,tE0,sE1,sE2,ei,wr,rfl,tE2,wE2,tE0,sE1,sE2,ei,tE2,gs1 tE0 tE1,rfl,wE2,tE0,kE1,kE2,gs1 tE0 tE1,gs2 tE0 tE1,rfl,wE2,tE0,cE1,cE2,gs2 tE0 tE1,wE2,tE0,kE1,kE2,wE2,rfl,rfl,rfl,rfl,rfl,gs3 tE0 tE1,k1,gs3 tE0 tE1,trivial⟩;simp only[zam]at key;exact key
 case neg=>
  obtain rfl:tp=0:=by omega
  have dp:decide ((0:Int)>0)=false:=rfl;cases tb with
  | true=>
   rw[show tokenAt c e ⟨true,0,ts,true,tc⟩ x=(setT c e ⟨false,0,ts,true,tc⟩,true) by simp[tokenAt,hp]];dsimp only;rw[qnt];exact qKU ⟨cp,okr,rfl,wi,rfl,by omega,zE1,zE2,dn,rfl,tE0,tE1,tE2,wE0,wE1,wE2,pa,rfl,tE2,rfl,tE2,dp,tE2,gs1 tE0 tE1,rfl,trivial⟩
  | false=>
  cases hk:x.black.getD e.toNat false with
  | true=>
   rw[hk]at kE2;rw[show tokenAt c e ⟨true,0,ts,false,tc⟩ x=(setT c e ⟨false,0,ts,false,tc⟩,true) by unfold tokenAt;simp only[hp,hk];rfl];dsimp only;rw[qnt];exact qKT ⟨cp,okr,rfl,wi,rfl,by omega,zE1,zE2,dn,rfl,tE0,tE1,tE2,wE0,wE1,wE2,pa,rfl,tE2,rfl,tE2,dp,tE2,gs1 tE0 tE1,rfl,wE2,tE0,kE1,kE2,rfl,trivial⟩
  | false=>
  rw[hk]at kE2;cases hz:(ts+x.sums.getD e.toNat 0==0) with
  | false=>
   rw[show tokenAt c e ⟨true,0,ts,false,tc⟩ x=(setT c e ⟨false,0,ts,false,tc⟩,true) by unfold tokenAt;simp only[hp,hk,hz];rfl];dsimp only;rw[qnt];exact qKS ⟨cp,okr,rfl,wi,rfl,by omega,zE1,zE2,dn,rfl,tE0,tE1,tE2,wE0,wE1,wE2,pa,rfl,tE2,rfl,tE2,dp,tE2,gs1 tE0 tE1,rfl,wE2,tE0,kE1,kE2,rfl,gs1 tE0 tE1,wE2,tE0,sE1,sE2,ei,hz,trivial⟩
  | true=>
  rw[show tokenAt c e ⟨true,0,ts,false,tc⟩ x=(setN (setW (setT c e ⟨false,0,ts,false,tc⟩) 0 (told x e (tc||x.caps.getD e.toNat false))) (c.news++qaR (c.workers.length-1) e (tc||x.caps.getD e.toNat false)),true) by unfold tokenAt;simp only[hp,hk,hz];rfl];have e4:∀cap,(setN (setW (setT c e ⟨false,0,ts,false,tc⟩) 0 (told x e cap)) (c.news++qaR (c.workers.length-1) e cap)).e=[.sl 4 (c.graph.nodes.map Node.e),I c.graph.workers,I c.graph.cap,.sl 8 ((c.workers.map Worker.e).set 0 [.sl 5 (x.queue.map Record.e),.sl 5 (x.staged.map Record.e),.sl 5 (x.inputs.map Record.e),.sl 4 (x.cells.map Cell.e),.sl 1 (x.sums.map eI),.sl 1 (x.black.map eB),.sl 1 (x.caps.map eB),.sl 2 (x.dones.map Done.e++[[I e,B cap]])]),.sl 6 (c.links.map Link.e),.sl 5 ((c.tokens.map Token.e).set e.toNat (Token.e ⟨false,0,ts,false,tc⟩)),.sl 3 ((c.news++qaR (c.workers.length-1) e cap).map News.e)]:=fun cap=>by
   rw[←qs3];simp only[setN,setW,setT,Cluster.e,zau];rfl
  cases tc with
  | true=>
   dsimp only[Bool.true_or];rw[e4];exact qKO ⟨cp,okr,rfl,wi,rfl,by omega,zE1,zE2,dn,rfl,tE0,tE1,tE2,wE0,wE1,wE2,pa,rfl,tE2,rfl,tE2,dp,tE2,gs1 tE0 tE1,rfl,wE2,tE0,kE1,kE2,rfl,gs1 tE0 tE1,wE2,tE0,sE1,sE2,ei,hz,gs1 tE0 tE1,rfl,wE2,by simp;omega,by simp;omega,wE2,rfl,rfl,rfl,qat (Done.flat ⟨e,true⟩),wE2,rfl,qMp c e _ _ hl0 hl4 hc,trivial⟩
  | false=>
   dsimp only[zal];rw[e4];exact qKR ⟨cp,okr,rfl,wi,rfl,by omega,zE1,zE2,dn,rfl,tE0,tE1,tE2,wE0,wE1,wE2,pa,rfl,tE2,rfl,tE2,dp,tE2,gs1 tE0 tE1,rfl,wE2,tE0,kE1,kE2,rfl,gs1 tE0 tE1,wE2,tE0,sE1,sE2,ei,hz,gs1 tE0 tE1,rfl,wE2,tE0,cE1,cE2,wE2,by simp;omega,by simp;omega,wE2,rfl,rfl,rfl,qat (Done.flat ⟨e,_⟩),wE2,rfl,qMq c e _ _ _ hl0 hl4 hc,trivial⟩
