/- ClusterOk, SafeCluster: what program and reference compute; the law SafeCluster answers true. -/
import Derived.Test.YtdanpadojemjeaaGreatP9
import Derived.Test.YtdanpadojemjeaaGreatP16
set_option linter.unusedVariables false
set_option linter.unusedSimpArgs false
namespace Go.Proofs.YtdanpadojemjeaaGreat
open Go.Sx Go.RowKit Go.Proofs.Tryz
def qiz(p:Cell×Cell):Bool:=decide (qa3 p.1 p.2≥0)
def qbq(xs:List Cell):Bool:=!((xs.zip (xs.drop 1)).any qiz)
theorem qg7{xs:List Cell}{i:Nat}{p:Cell×Cell}(h:(xs.zip (xs.drop 1))[i]?=some p):xs[i]?=some p.1∧xs[i+1]?=some p.2:=by
 rw[List.getElem?_zip_eq_some]at h
 obtain⟨h1,h2⟩:=h
 rw[zA,Nat.add_comm]at h2
 exact⟨h1,h2⟩
theorem qG2(xs:List Cell)(hl:xs.length≤8388608):Rt 227 [.one (.sl 4 (xs.map Cell.e))] [.one (B (qbq xs))]:=by
 have e0:∀i:Nat,(((i:Int)+1)-1).toNat=i:=fun i=>by omega
 have e1:∀i:Nat,(((i:Int)+1)).toNat=i+1:=fun i=>by omega
 have hz:(xs.zip (xs.drop 1)).length=xs.length-1:=by simp
 have l:=qaL (P:=prog) (c:=(qaa f227 0)) (xs.zip (xs.drop 1)) qiz (fun i=>qdW (xs.map Cell.e) ((i:Int)+1)) (X:=fun _ _=>qkW false) qat (qaf 0)
  (fun i a ha h=>by
   obtain⟨h1,h2⟩:=qg7 ha
   have hi:=lt_of h2
   refine tr_to (qdW (xs.map Cell.e)) (qzE ⟨dT (by simp only[zb];omega),⟨by omega,by omega⟩,by omega,by simp only[zb];omega,by rw[e0,zr,h1];rfl,by omega,by simp only[zb];omega,by rw[e1,zr,h2];rfl,qii a.1 a.2,h,⟨by omega,by omega⟩,trivial⟩) (by omega))
  (fun i a ha h=>by
   obtain⟨h1,h2⟩:=qg7 ha
   have hi:=lt_of h2
   exact qzD ⟨dT (by simp only[zb];omega),⟨by omega,by omega⟩,by omega,by simp only[zb];omega,by rw[e0,zr,h1];rfl,by omega,by simp only[zb];omega,by rw[e1,zr,h2];rfl,qii a.1 a.2,h,trivial⟩)
  (qzF ⟨dF (by rw[hz];simp only[zb];omega),trivial⟩)
 unfold qbq
 rcases l with⟨_,_,h1,h2⟩ | ⟨i,a,_,_,_,_,h1,h2⟩
 ·rw[h1];exact qzH ⟨h2,trivial⟩
 ·rw[h1];exact qzG ⟨h2,trivial⟩
theorem qpD(xs:List Cell)(r:Bool)(h:qbq xs=r)(hl:xs.length≤8388608):Rt 227 [.one (.sl 4 (xs.map Cell.e))] [.one (B r)]:=h▸qG2 xs hl
theorem qG3(xs:List Cell)(hl:xs.length≤8388608):Rt 198 [.one (.sl 4 (xs.map Cell.e))] [.one (B (qbq xs))]:=by
 have e0:∀i:Nat,(((i:Int)+1)-1).toNat=i:=fun i=>by omega
 have e1:∀i:Nat,(((i:Int)+1)).toNat=i+1:=fun i=>by omega
 have hz:(xs.zip (xs.drop 1)).length=xs.length-1:=by simp
 have l:=qaL (P:=prog) (c:=(qaa f198 0)) (xs.zip (xs.drop 1)) qiz (fun i=>qdX (xs.map Cell.e) ((i:Int)+1)) (X:=fun _ _=>qkX false) qat (qaf 0)
  (fun i a ha h=>by
   obtain⟨h1,h2⟩:=qg7 ha
   have hi:=lt_of h2
   refine tr_to (qdX (xs.map Cell.e)) (qzJ ⟨dT (by simp only[zb];omega),⟨by omega,by omega⟩,by omega,by simp only[zb];omega,by rw[e0,zr,h1];rfl,by omega,by simp only[zb];omega,by rw[e1,zr,h2];rfl,qih a.1 a.2,h,⟨by omega,by omega⟩,trivial⟩) (by omega))
  (fun i a ha h=>by
   obtain⟨h1,h2⟩:=qg7 ha
   have hi:=lt_of h2
   exact qzI ⟨dT (by simp only[zb];omega),⟨by omega,by omega⟩,by omega,by simp only[zb];omega,by rw[e0,zr,h1];rfl,by omega,by simp only[zb];omega,by rw[e1,zr,h2];rfl,qih a.1 a.2,h,trivial⟩)
  (qzK ⟨dF (by rw[hz];simp only[zb];omega),trivial⟩)
 unfold qbq
 rcases l with⟨_,_,h1,h2⟩ | ⟨i,a,_,_,_,_,h1,h2⟩
 ·rw[h1];exact qzM ⟨h2,trivial⟩
 ·rw[h1];exact qzL ⟨h2,trivial⟩
theorem qpE(xs:List Cell)(r:Bool)(h:qbq xs=r)(hl:xs.length≤8388608):Rt 198 [.one (.sl 4 (xs.map Cell.e))] [.one (B r)]:=h▸qG3 xs hl
def qbJ(g:Graph)(r:Record):Bool:=!qaC r||decide (r.op≥(g.nodes.length:Int))
def qaN(g:Graph)(xs:List Record):Bool:=!(xs.any (qbJ g))
theorem qG4{r:Record}(h:qaC r=true):0≤r.op:=by
 simp only[qaC,zj,inR,zi]at h
 omega
theorem qG5(g:Graph)(xs:List Record)(hl:xs.length≤8388608):Rt 189 [.agg g.e,.one (.sl 5 (xs.map Record.e))] [.one (B (qaN g xs))]:=by
 have l:=qaL (P:=prog) (c:=(qaa f189 0)) xs (qbJ g) (fun i=>qdY (g.nodes.map Node.e) g.workers g.cap (xs.map Record.e) i) (X:=fun _ _=>qio false) qat (qaf 0)
  (fun i a ha h=>by
   simp only[qbJ,zy,zX]at h
   have c:=qdy a
   rw[h.1]at c
   exact qzP ⟨lt1 (lt_of ha),lt0,lt2 (lt_of ha),qac Record.e ha,c,rfl,lt0,lt2 (lt_of ha),qac Record.e ha,by rw[zb];exact h.2,up1 (lt_of ha) hl,trivial⟩)
  (fun i a ha h=>by
   have c:=qdy a
   cases hr:qaC a with
   | false=>
    rw[hr]at c
    exact qzN ⟨lt1 (lt_of ha),lt0,lt2 (lt_of ha),qac Record.e ha,c,rfl,trivial⟩
   | true=>
    rw[hr]at c
    simp only[qbJ,hr,zZ,zal]at h
    exact qzO ⟨lt1 (lt_of ha),lt0,lt2 (lt_of ha),qac Record.e ha,c,rfl,lt0,lt2 (lt_of ha),qac Record.e ha,by rw[zb];exact h,trivial⟩)
  (qzQ ⟨ge1,trivial⟩)
 unfold qaN
 rcases l with⟨_,_,h1,h2⟩ | ⟨i,a,_,_,_,_,h1,h2⟩
 ·rw[h1];exact qzS ⟨h2,trivial⟩
 ·rw[h1];exact qzR ⟨h2,trivial⟩
theorem qpF{g:Graph}{r:Record}(h:qaC r=true):(qaH g r.op).isSome=!(decide (r.op≥(g.nodes.length:Int))):=by
 have h0:=qG4 h
 unfold qaH
 rw[zp h0]
 by_cases hc:r.op≥(g.nodes.length:Int)
 ·rw[dT hc,List.getElem?_eq_none (by omega)];rfl
 ·rw[dF hc,zu (by omega)];rfl
theorem qG6(g:Graph)(xs:List Record)(hg:g.sz≤8388608)(hl:xs.length≤8388608):Rt 125 [.agg g.e,.one (.sl 5 (xs.map Record.e))] [.one (B (qaN g xs))]:=by
 have l:=qaL (P:=prog) (c:=(qaa f125 0)) xs (qbJ g) (fun i=>qdZ (xs.map Record.e) i (g.nodes.map Node.e) g.workers g.cap) (X:=fun _ _=>qip false) qat (qaf 0)
  (fun i a ha h=>by
   simp only[qbJ,zy,zX]at h
   have c:=qdk a
   rw[h.1]at c
   exact qzV ⟨lt1 (lt_of ha),lt0,lt2 (lt_of ha),qac Record.e ha,c,rfl,qdU g a.op true (by rw[qpF h.1,h.2];rfl) hg,rfl,up1 (lt_of ha) hl,trivial⟩)
  (fun i a ha h=>by
   have c:=qdk a
   cases hr:qaC a with
   | false=>
    rw[hr]at c
    exact qzT ⟨lt1 (lt_of ha),lt0,lt2 (lt_of ha),qac Record.e ha,c,rfl,trivial⟩
   | true=>
    rw[hr]at c
    simp only[qbJ,hr,zZ,zal]at h
    exact qzU ⟨lt1 (lt_of ha),lt0,lt2 (lt_of ha),qac Record.e ha,c,rfl,qdU g a.op false (by rw[qpF hr,h];rfl) hg,rfl,trivial⟩)
  (qzW ⟨ge1,trivial⟩)
 unfold qaN
 rcases l with⟨_,_,h1,h2⟩ | ⟨i,a,_,_,_,_,h1,h2⟩
 ·rw[h1];exact qzY ⟨h2,trivial⟩
 ·rw[h1];exact qzX ⟨h2,trivial⟩
theorem qfc(g:Graph)(xs:List Record)(r:Bool)(h:qaN g xs=r)(_:g.sz≤8388608)(hl:xs.length≤8388608):Rt 189 [.agg g.e,.one (.sl 5 (xs.map Record.e))] [.one (B r)]:=h▸qG5 g xs hl
theorem qfd(g:Graph)(xs:List Record)(r:Bool)(h:qaN g xs=r)(hg:g.sz≤8388608)(hl:xs.length≤8388608):Rt 125 [.agg g.e,.one (.sl 5 (xs.map Record.e))] [.one (B r)]:=h▸qG6 g xs hg hl
def qbl(l:Link):Bool:=
 inR l.cap 1 4&&inR l.credits 0 l.cap&&inR l.back 0 l.cap&&(l.credits+l.back+l.queue.length==l.cap)&&inR l.sent 0 1000000000&&decide (0≤l.got)&&(l.got==l.sent-l.queue.length)&&!(l.queue.any fun r=>!qaC r)
theorem qG7(xs:List Record)(hl:xs.length≤8388608):Rt 199 [.one (.sl 5 (xs.map Record.e))] [.one (B (!(xs.any fun r=>!qaC r)))]:=by
 have l:=qaL (P:=prog) (c:=(qaa f199 0)) xs (fun r=>!qaC r) (fun i=>qe1 (xs.map Record.e) i) (X:=fun _ _=>qk6 false) qat (qaf 0)
  (fun i a ha h=>qA8 ⟨lt1 (lt_of ha),lt0,lt2 (lt_of ha),qac Record.e ha,qdk a,h,up1 (lt_of ha) hl,trivial⟩)
  (fun i a ha h=>qA7 ⟨lt1 (lt_of ha),lt0,lt2 (lt_of ha),qac Record.e ha,qdk a,h,trivial⟩)
  (qA9 ⟨ge1,trivial⟩)
 rcases l with⟨_,_,h1,h2⟩ | ⟨i,a,_,_,_,_,h1,h2⟩
 ·rw[h1];exact qBb ⟨h2,trivial⟩
 ·rw[h1];exact qBa ⟨h2,trivial⟩
theorem qiA(l:Link)(hl:l.sz≤8388608)(hgot:l.got≤9223372036854775807):Rt 124 [.agg l.e] [.one (B (qbl l))]:=by
 have hq:l.queue.length≤8388608:=hl
 have c1:=qbx l.cap 1 4
 have c2:=qbx l.credits 0 l.cap
 have c3:=qbx l.back 0 l.cap
 have c4:=qbx l.sent 0 1000000000
 have c5:=qG7 l.queue hq
 unfold qbl
 cases h1:inR l.cap 1 4 with
 | false=>rw[h1]at c1;exact qAZ ⟨c1,rfl,trivial⟩
 | true=>
 cases h2:inR l.credits 0 l.cap with
 | false=>rw[h1]at c1;rw[h2]at c2;exact qA0 ⟨c1,rfl,c2,rfl,trivial⟩
 | true=>
 cases h3:inR l.back 0 l.cap with
 | false=>rw[h1]at c1;rw[h2]at c2;rw[h3]at c3;exact qA1 ⟨c1,rfl,c2,rfl,c3,rfl,trivial⟩
 | true=>
 have k1:=h1
 have k2:=h2
 have k3:=h3
 simp only[inR,zi]at k1 k2 k3
 rw[h1]at c1;rw[h2]at c2;rw[h3]at c3
 have u1:inInt .i64 (l.credits+l.back):=⟨by omega,by omega⟩
 have u2:inInt .i64 (l.credits+l.back+(↑(l.queue.map Record.e).length:Int)):=⟨by simp only[zb];omega,by simp only[zb];omega⟩
 cases h4:(l.credits+l.back+(l.queue.length:Int)==l.cap) with
 | false=>exact qA2 ⟨c1,rfl,c2,rfl,c3,rfl,u1,u2,by rw[zb];simpa using h4,trivial⟩
 | true=>
 have v4:(l.credits+l.back+(↑(l.queue.map Record.e).length:Int) != l.cap)=false:=by rw[zb];simpa using h4
 cases h5:inR l.sent 0 1000000000 with
 | false=>rw[h5]at c4;exact qA3 ⟨c1,rfl,c2,rfl,c3,rfl,u1,u2,v4,c4,rfl,trivial⟩
 | true=>
 have k5:=h5
 simp only[inR,zi]at k5
 rw[h5]at c4
 by_cases h6:l.got<0
 ·rw[dF (show ¬0≤l.got by omega)]
  exact qA4 ⟨c1,rfl,c2,rfl,c3,rfl,u1,u2,v4,c4,rfl,dT h6,trivial⟩
 ·rw[dT (show 0≤l.got by omega)]
  have u3:inInt .i64 (l.sent-l.got):=⟨by omega,by omega⟩
  ·by_cases h7:l.got=l.sent-(l.queue.length:Int)
   ·rw[show (l.got==l.sent-(l.queue.length:Int))=true from by simpa using h7]
    exact qA6 ⟨c1,rfl,c2,rfl,c3,rfl,u1,u2,v4,c4,rfl,dF h6,u3,by rw[zb];simp;omega,c5,trivial⟩
   ·rw[show (l.got==l.sent-(l.queue.length:Int))=false from by simpa using h7]
    exact qA5 ⟨c1,rfl,c2,rfl,c3,rfl,u1,u2,v4,c4,rfl,dF h6,u3,by rw[zb];simp;omega,trivial⟩
theorem qiB(l:Link)(hl:l.sz≤8388608):Rt 188 [.agg l.e] [.one (B (qbl l))]:=by
 have hq:l.queue.length≤8388608:=hl
 have lp:=qaL (P:=prog) (c:=(qaa f188 0)) l.queue (fun r=>!qaC r) (fun i=>qct l.cap (l.queue.map Record.e) l.credits l.back l.sent l.got i) (X:=fun _ _=>qk5 false) qat (qaf 0)
  (fun i a ha h=>qAP ⟨lt1 (lt_of ha),lt0,lt2 (lt_of ha),qac Record.e ha,qdy a,h,up1 (lt_of ha) hq,trivial⟩)
  (fun i a ha h=>qAO ⟨lt1 (lt_of ha),lt0,lt2 (lt_of ha),qac Record.e ha,qdy a,h,trivial⟩)
  (qAQ ⟨ge1,trivial⟩)
 unfold qbl
 rcases lp with⟨_,_,h0,lp⟩ | ⟨i,a,_,_,_,_,h0,lp⟩
 case inr=>
  rw[h0,zZ,Bool.and_false]
  exact qAR ⟨lp,trivial⟩
 rw[h0,zbc,zcs]
 have c1:=qa9 l.cap 1 4
 have c2:=qa9 l.credits 0 l.cap
 have c3:=qa9 l.back 0 l.cap
 have c4:=qa9 l.sent 0 1000000000
 cases h1:inR l.cap 1 4 with
 | false=>rw[h1]at c1;exact qAY ⟨lp,c1,rfl,trivial⟩
 | true=>
 cases h2:inR l.credits 0 l.cap with
 | false=>rw[h1]at c1;rw[h2]at c2;exact qAX ⟨lp,c1,rfl,c2,rfl,trivial⟩
 | true=>
 cases h3:inR l.back 0 l.cap with
 | false=>rw[h1]at c1;rw[h2]at c2;rw[h3]at c3;exact qAW ⟨lp,c1,rfl,c2,rfl,c3,rfl,trivial⟩
 | true=>
 have k1:=h1
 have k2:=h2
 have k3:=h3
 simp only[inR,zi]at k1 k2 k3
 rw[h1]at c1;rw[h2]at c2;rw[h3]at c3
 have u1:inInt .i64 (l.credits+l.back):=⟨by omega,by omega⟩
 have u2:inInt .i64 (l.credits+l.back+(↑(l.queue.map Record.e).length:Int)):=⟨by simp only[zb];omega,by simp only[zb];omega⟩
 cases h4:(l.credits+l.back+(l.queue.length:Int)==l.cap) with
 | false=>exact qAV ⟨lp,c1,rfl,c2,rfl,c3,rfl,u1,u2,by rw[zb];exact h4,trivial⟩
 | true=>
 have v4:(l.credits+l.back+(↑(l.queue.map Record.e).length:Int)==l.cap)=true:=by rw[zb];exact h4
 cases h5:inR l.sent 0 1000000000 with
 | false=>rw[h5]at c4;exact qAU ⟨lp,c1,rfl,c2,rfl,c3,rfl,u1,u2,v4,c4,rfl,trivial⟩
 | true=>
 have k5:=h5
 simp only[inR,zi]at k5
 rw[h5]at c4
 have u3:inInt .i64 (l.sent-(↑(l.queue.map Record.e).length:Int)):=⟨by simp only[zb];omega,by simp only[zb];omega⟩
 cases h7:(l.got==l.sent-(l.queue.length:Int)) with
 | false=>
  rw[Bool.and_false]
  exact qAT ⟨lp,c1,rfl,c2,rfl,c3,rfl,u1,u2,v4,c4,rfl,u3,by rw[zb];exact h7,trivial⟩
 | true=>
  rw[zcs]
  exact qAS ⟨lp,c1,rfl,c2,rfl,c3,rfl,u1,u2,v4,c4,rfl,u3,by rw[zb];exact h7,trivial⟩
end Go.Proofs.YtdanpadojemjeaaGreat
namespace Go.Proofs.YtdanpadojemjeaaGreat
open Go.Sx Go.RowKit Go.Proofs.Tryz
def inBad(xs:List Record)(i:Nat)(r:Record):Bool:=
 r.op != 0||r.stamp.turn != 0||(match i with | 0=>false | j+1=>match xs[j]? with | some q=>decide (q.stamp.epoch>r.stamp.epoch) | none=>false)
theorem qpG{xs:List Record}{i:Nat}{a:Record}(ha:xs[i]?=some a)(h:inBad xs i a=true):
  (a.op != 0)=true∨((a.op != 0)=false∧(a.stamp.turn != 0)=true)∨((a.op != 0)=false∧(a.stamp.turn != 0)=false∧∃j b,i=j+1∧xs[j]?=some b∧decide (b.stamp.epoch>a.stamp.epoch)=true):=by
 unfold inBad at h
 cases h1:(a.op != 0) with
 | true=>exact .inl rfl
 | false=>
 cases h2:(a.stamp.turn != 0) with
 | true=>exact .inr (.inl ⟨rfl,rfl⟩)
 | false=>
 rw[h1,h2,zal,zal]at h
 cases i with
 | zero=>cases h
 | succ j=>
  have hj:j<xs.length:=by have:=lt_of ha;omega
  obtain⟨b,hb⟩:=qai hj
  simp only[hb]at h
  exact .inr (.inr ⟨rfl,rfl,j,b,rfl,hb,h⟩)
theorem qpH{xs:List Record}{i:Nat}{a:Record}(ha:xs[i]?=some a)(h:inBad xs i a=false):
  (a.op != 0)=false∧(a.stamp.turn != 0)=false∧(i=0∨∃j b,i=j+1∧xs[j]?=some b∧decide (b.stamp.epoch>a.stamp.epoch)=false):=by
 unfold inBad at h
 rw[zy,zy]at h
 obtain⟨⟨h1,h2⟩,h⟩:=h
 refine⟨h1,h2,?_⟩
 cases i with
 | zero=>exact .inl rfl
 | succ j=>
  have hj:j<xs.length:=by have:=lt_of ha;omega
  obtain⟨b,hb⟩:=qai hj
  simp only[hb]at h
  exact .inr ⟨j,b,rfl,hb,h⟩
theorem qiC{α:Type}(f:α→List D){xs:List α}{j:Nat}{b:α}(h:xs[j]?=some b):(xs.map f)[(((j+1:Nat):Int)-1).toNat]?=some (f b):=by
 rw[show (((j+1:Nat):Int)-1)=(j:Int) by omega]
 exact qac f h
theorem qiD{α β:Type}{f:α→β}{xs:List α}{j:Nat}{b:α}(h:xs[j]?=some b):(((j+1:Nat):Int)-1)<(↑(xs.map f).length:Int):=by
 have:=lt_of h
 rw[zb];omega
def qci(n:Int):Bool:=!inR n (-1000000) 1000000
def qbY(xs:List Done)(i:Nat)(d:Done):Bool:=!inR d.epoch 0 3||(xs.take i).any (fun q=>q.epoch==d.epoch)
theorem len4{α β:Type}{f:α→β}{xs:List α}(h:(xs.length==4)=true):((↑(xs.map f).length:Int) != 4)=false:=by
 rw[zb,eq_of_beq h];rfl
theorem len4'{α β:Type}{f:α→β}{xs:List α}(h:(xs.length==4)=false):((↑(xs.map f).length:Int) != 4)=true:=by
 rw[zb]
 have:=ne_of_beq_false h
 simp only[bne_iff_ne,zcc];omega
def qaz(g:Graph)(w:Worker):Bool:=
 qaN g w.queue&&(qaN g w.staged&&(qaN g w.inputs&&(qbq w.cells&&((w.sums.length==4)&&((w.black.length==4)&&((w.caps.length==4)&&(!anyI (inBad w.inputs) 0 w.inputs&&(!(w.sums.any qci)&&!anyI (qbY w.dones) 0 w.dones))))))))
theorem Worker.staged_le{w:Worker}(h:w.sz≤8388608):w.staged.length≤8388608:=by simp only[Worker.sz]at h;omega
theorem Worker.cells_le'{w:Worker}(h:w.sz≤8388608):w.cells.length≤8388608:=by simp only[Worker.sz]at h;omega
theorem Worker.sums_le{w:Worker}(h:w.sz≤8388608):w.sums.length≤8388608:=by simp only[Worker.sz]at h;omega
theorem Worker.dones_le'{w:Worker}(h:w.sz≤8388608):w.dones.length≤8388608:=by simp only[Worker.sz]at h;omega
theorem qG8(w:Worker)(hl:w.inputs.length≤8388608):
  (anyI (inBad w.inputs) 0 w.inputs=false∧qaj prog (qaa f187 0) (qb7 (w.queue.map Record.e) (w.staged.map Record.e) (w.inputs.map Record.e) (w.cells.map Cell.e) (w.sums.map eI) (w.black.map eB) (w.caps.map eB) (w.dones.map Done.e) 0) (.exit 0) (qg1 (w.queue.map Record.e) (w.staged.map Record.e) (w.inputs.map Record.e) (w.cells.map Cell.e) (w.sums.map eI) (w.black.map eB) (w.caps.map eB) (w.dones.map Done.e)))∨
  (anyI (inBad w.inputs) 0 w.inputs=true∧qaj prog (qaa f187 0) (qb7 (w.queue.map Record.e) (w.staged.map Record.e) (w.inputs.map Record.e) (w.cells.map Cell.e) (w.sums.map eI) (w.black.map eB) (w.caps.map eB) (w.dones.map Done.e) 0) .ret (qg0 false)):=
 qdO (P:=prog) (c:=(qaa f187 0)) w.inputs (inBad w.inputs) (fun i=>qb7 (w.queue.map Record.e) (w.staged.map Record.e) (w.inputs.map Record.e) (w.cells.map Cell.e) (w.sums.map eI) (w.black.map eB) (w.caps.map eB) (w.dones.map Done.e) i) qat (qaf 0)
  (fun i a ha h=>by
   have hi:=lt_of ha
   obtain⟨h1,h2,rfl | ⟨j,b,rfl,hb,h3⟩⟩:=qpH ha h
   ·exact qAa ⟨lt1 (lt_of ha),lt0,lt2 (lt_of ha),qac Record.e ha,h1,lt0,lt2 (lt_of ha),qac Record.e ha,h2,dF (by omega),up1 (lt_of ha) hl,trivial⟩
   ·exact qz9 ⟨lt1 (lt_of ha),lt0,lt2 (lt_of ha),qac Record.e ha,h1,lt0,lt2 (lt_of ha),qac Record.e ha,h2,dT (by omega),⟨by omega,by omega⟩,by omega,qiD hb,qiC Record.e hb,lt0,lt2 (lt_of ha),qac Record.e ha,h3,up1 (lt_of ha) hl,trivial⟩)
  (fun i a ha h=>by
   have hi:=lt_of ha
   rcases qpG ha h with h1 | ⟨h1,h2⟩ | ⟨h1,h2,j,b,rfl,hb,h3⟩
   ·exact qz6 ⟨lt1 (lt_of ha),lt0,lt2 (lt_of ha),qac Record.e ha,h1,trivial⟩
   ·exact qz7 ⟨lt1 (lt_of ha),lt0,lt2 (lt_of ha),qac Record.e ha,h1,lt0,lt2 (lt_of ha),qac Record.e ha,h2,trivial⟩
   ·exact qz8 ⟨lt1 (lt_of ha),lt0,lt2 (lt_of ha),qac Record.e ha,h1,lt0,lt2 (lt_of ha),qac Record.e ha,h2,dT (by omega),⟨by omega,by omega⟩,by omega,qiD hb,qiC Record.e hb,lt0,lt2 (lt_of ha),qac Record.e ha,h3,trivial⟩)
  (qAb ⟨ge1,trivial⟩)
theorem qG9(w:Worker)(hl:w.dones.length≤8388608):
  (anyI (qbY w.dones) 0 w.dones=false∧qaj prog (qaa f187 2) (qdd (w.queue.map Record.e) (w.staged.map Record.e) (w.inputs.map Record.e) (w.cells.map Cell.e) (w.sums.map eI) (w.black.map eB) (w.caps.map eB) (w.dones.map Done.e) 0) (.exit 4) qk1)∨
  (anyI (qbY w.dones) 0 w.dones=true∧qaj prog (qaa f187 2) (qdd (w.queue.map Record.e) (w.staged.map Record.e) (w.inputs.map Record.e) (w.cells.map Cell.e) (w.sums.map eI) (w.black.map eB) (w.caps.map eB) (w.dones.map Done.e) 0) .ret (qiq false)):=by
 have inner:∀(i:Nat) (a:Done),w.dones[i]?=some a→
   (((w.dones.take i).any (fun q=>q.epoch==a.epoch))=false∧qaj prog (qaa f187 3) (qdx (w.queue.map Record.e) (w.staged.map Record.e) (w.inputs.map Record.e) (w.cells.map Cell.e) (w.sums.map eI) (w.black.map eB) (w.caps.map eB) (w.dones.map Done.e) i 0) (.exit 6) (qk0 (w.queue.map Record.e) (w.staged.map Record.e) (w.inputs.map Record.e) (w.cells.map Cell.e) (w.sums.map eI) (w.black.map eB) (w.caps.map eB) (w.dones.map Done.e) i))∨
   (((w.dones.take i).any (fun q=>q.epoch==a.epoch))=true∧qaj prog (qaa f187 3) (qdx (w.queue.map Record.e) (w.staged.map Record.e) (w.inputs.map Record.e) (w.cells.map Cell.e) (w.sums.map eI) (w.black.map eB) (w.caps.map eB) (w.dones.map Done.e) i 0) .ret (qir false)):=by
  intro i a ha
  have hi:=lt_of ha
  have hlen:(w.dones.take i).length=i:=by rw[zay];omega
  have tk:∀{k:Nat} {b:Done},(w.dones.take i)[k]?=some b→k<i∧w.dones[k]?=some b:=fun {k b} h=>by
   have hk:=lt_of h
   rw[hlen]at hk
   rw[zF,zp hk]at h
   exact⟨hk,h⟩
  have l:=qaL (P:=prog) (c:=(qaa f187 3)) (w.dones.take i) (fun q=>q.epoch==a.epoch) (fun k=>qdx (w.queue.map Record.e) (w.staged.map Record.e) (w.inputs.map Record.e) (w.cells.map Cell.e) (w.sums.map eI) (w.black.map eB) (w.caps.map eB) (w.dones.map Done.e) i k) (X:=fun _ _=>qir false) qat (qaf 6)
   (fun k b hb h=>by
    obtain⟨hk,hb⟩:=tk hb
    exact qAj ⟨dT (by omega),lt0,lt2 (lt_of hb),qac Done.e hb,lt0,lt2 (lt_of ha),qac Done.e ha,h,up1 (lt_of hb) hl,trivial⟩)
   (fun k b hb h=>by
    obtain⟨hk,hb⟩:=tk hb
    exact qAi ⟨dT (by omega),lt0,lt2 (lt_of hb),qac Done.e hb,lt0,lt2 (lt_of ha),qac Done.e ha,h,trivial⟩)
   (qAk ⟨dF (by rw[hlen];omega),trivial⟩)
  rcases l with⟨_,_,h1,h2⟩ | ⟨_,_,_,_,_,_,h1,h2⟩
  ·exact .inl ⟨h1,h2⟩
  ·exact .inr ⟨h1,h2⟩
 exact qdO (P:=prog) (c:=(qaa f187 2)) w.dones (qbY w.dones) (fun i=>qdd (w.queue.map Record.e) (w.staged.map Record.e) (w.inputs.map Record.e) (w.cells.map Cell.e) (w.sums.map eI) (w.black.map eB) (w.caps.map eB) (w.dones.map Done.e) i) qat (qaf 4)
  (fun i a ha h=>by
   simp only[qbY,zy,zX]at h
   rcases inner i a ha with⟨e,l⟩ | ⟨e,l⟩
   ·exact qAm ⟨lt1 (lt_of ha),lt0,lt2 (lt_of ha),qac Done.e ha,qaG _ _ _ true h.1,rfl,l,up1 (lt_of ha) hl,trivial⟩
   ·rw[h.2]at e;cases e)
  (fun i a ha h=>by
   cases h1:inR a.epoch 0 3 with
   | false=>exact qAh ⟨lt1 (lt_of ha),lt0,lt2 (lt_of ha),qac Done.e ha,qaG _ _ _ false h1,rfl,trivial⟩
   | true=>
    simp only[qbY,h1,zZ,zal]at h
    rcases inner i a ha with⟨e,l⟩ | ⟨e,l⟩
    ·rw[h]at e;cases e
    ·exact qAl ⟨lt1 (lt_of ha),lt0,lt2 (lt_of ha),qac Done.e ha,qaG _ _ _ true h1,rfl,l,trivial⟩)
  (qAn ⟨ge1,trivial⟩)
theorem qpI(g:Graph)(w:Worker)(hg:g.sz≤8388608)(hw:w.sz≤8388608):Rt 187 [.agg g.e,.agg w.e] [.one (B (qaz g w))]:=by
 unfold qaz
 cases h1:qaN g w.queue with
 | false=>exact qzZ ⟨qfc g _ _ h1 hg (Worker.queue_le hw),rfl,trivial⟩
 | true=>
 have c1:=qfc g _ _ h1 hg (Worker.queue_le hw)
 cases h2:qaN g w.staged with
 | false=>exact qz0 ⟨c1,rfl,qfc g _ _ h2 hg (Worker.staged_le hw),rfl,trivial⟩
 | true=>
 have c2:=qfc g _ _ h2 hg (Worker.staged_le hw)
 cases h3:qaN g w.inputs with
 | false=>exact qz1 ⟨c1,rfl,c2,rfl,qfc g _ _ h3 hg (Worker.inputs_le hw),rfl,trivial⟩
 | true=>
 have c3:=qfc g _ _ h3 hg (Worker.inputs_le hw)
 cases h4:qbq w.cells with
 | false=>exact qz2 ⟨c1,rfl,c2,rfl,c3,rfl,qpD _ _ h4 (Worker.cells_le' hw),rfl,trivial⟩
 | true=>
 have c4:=qpD _ _ h4 (Worker.cells_le' hw)
 cases h5:(w.sums.length==4) with
 | false=>exact qz3 ⟨c1,rfl,c2,rfl,c3,rfl,c4,rfl,len4' h5,trivial⟩
 | true=>
 cases h6:(w.black.length==4) with
 | false=>exact qz4 ⟨c1,rfl,c2,rfl,c3,rfl,c4,rfl,len4 h5,len4' h6,trivial⟩
 | true=>
 cases h7:(w.caps.length==4) with
 | false=>exact qz5 ⟨c1,rfl,c2,rfl,c3,rfl,c4,rfl,len4 h5,len4 h6,len4' h7,trivial⟩
 | true=>
 have hs4:w.sums.length=4:=eq_of_beq h5
 rcases qG8 w (Worker.inputs_le hw) with⟨h8,l8⟩ | ⟨h8,l8⟩
 case inr=>rw[h8];exact qAc ⟨c1,rfl,c2,rfl,c3,rfl,c4,rfl,len4 h5,len4 h6,len4 h7,l8,trivial⟩
 have l9:=qaL (P:=prog) (c:=(qaa f187 1)) w.sums qci (fun i=>qd0 (w.queue.map Record.e) (w.staged.map Record.e) (w.inputs.map Record.e) (w.cells.map Cell.e) (w.sums.map eI) (w.black.map eB) (w.caps.map eB) (w.dones.map Done.e) i) (X:=fun _ _=>qkY false) qat (qaf 2)
  (fun i a ha h=>qAe ⟨dT (by have:=lt_of ha;omega),lt0,lt2 (lt_of ha),qac eI ha,qaG _ _ _ true (by simpa[qci]using h),rfl,up1 (lt_of ha) (Worker.sums_le hw),trivial⟩)
  (fun i a ha h=>qAd ⟨dT (by have:=lt_of ha;omega),lt0,lt2 (lt_of ha),qac eI ha,qaG _ _ _ false (by simpa[qci]using h),rfl,trivial⟩)
  (qAf ⟨dF (by omega),trivial⟩)
 rw[h8]
 rcases l9 with⟨_,_,h9,l9⟩ | ⟨_,_,_,_,_,_,h9,l9⟩
 case inr=>rw[h9];exact qAg ⟨c1,rfl,c2,rfl,c3,rfl,c4,rfl,len4 h5,len4 h6,len4 h7,l8,l9,trivial⟩
 rw[h9]
 rcases qG9 w (Worker.dones_le' hw) with⟨h10,l10⟩ | ⟨h10,l10⟩
 ·rw[h10];exact qAp ⟨c1,rfl,c2,rfl,c3,rfl,c4,rfl,len4 h5,len4 h6,len4 h7,l8,l9,l10,trivial⟩
 ·rw[h10];exact qAo ⟨c1,rfl,c2,rfl,c3,rfl,c4,rfl,len4 h5,len4 h6,len4 h7,l8,l9,l10,trivial⟩
end Go.Proofs.YtdanpadojemjeaaGreat
namespace Go.Proofs.YtdanpadojemjeaaGreat
open Go.Sx Go.RowKit Go.Proofs.Tryz
theorem qHa(w:Worker)(hl:w.inputs.length≤8388608):
  (anyI (inBad w.inputs) 0 w.inputs=false∧qaj prog (qaa f123 0) (qbB (w.inputs.map Record.e) 0 (w.queue.map Record.e) (w.staged.map Record.e) (w.inputs.map Record.e) (w.cells.map Cell.e) (w.sums.map eI) (w.black.map eB) (w.caps.map eB) (w.dones.map Done.e)) (.exit 0) (qd1 (w.queue.map Record.e) (w.staged.map Record.e) (w.inputs.map Record.e) (w.cells.map Cell.e) (w.sums.map eI) (w.black.map eB) (w.caps.map eB) (w.dones.map Done.e)))∨
  (anyI (inBad w.inputs) 0 w.inputs=true∧qaj prog (qaa f123 0) (qbB (w.inputs.map Record.e) 0 (w.queue.map Record.e) (w.staged.map Record.e) (w.inputs.map Record.e) (w.cells.map Cell.e) (w.sums.map eI) (w.black.map eB) (w.caps.map eB) (w.dones.map Done.e)) .ret (qg2 false)):=
 qdO (P:=prog) (c:=(qaa f123 0)) w.inputs (inBad w.inputs) (fun i=>qbB (w.inputs.map Record.e) i (w.queue.map Record.e) (w.staged.map Record.e) (w.inputs.map Record.e) (w.cells.map Cell.e) (w.sums.map eI) (w.black.map eB) (w.caps.map eB) (w.dones.map Done.e)) qat (qaf 0)
  (fun i a ha h=>by
   have hi:=lt_of ha
   obtain⟨h1,h2,rfl | ⟨j,b,rfl,hb,h3⟩⟩:=qpH ha h
   ·exact qAy ⟨lt1 (lt_of ha),lt0,lt2 (lt_of ha),qac Record.e ha,h1,h2,dF (by omega),up1 (lt_of ha) hl,trivial⟩
   ·exact qAx ⟨lt1 (lt_of ha),lt0,lt2 (lt_of ha),qac Record.e ha,h1,h2,dT (by omega),⟨by omega,by omega⟩,by omega,qiD hb,qiC Record.e hb,h3,up1 (lt_of ha) hl,trivial⟩)
  (fun i a ha h=>by
   have hi:=lt_of ha
   rcases qpG ha h with h1 | ⟨h1,h2⟩ | ⟨h1,h2,j,b,rfl,hb,h3⟩
   ·exact qAu ⟨lt1 (lt_of ha),lt0,lt2 (lt_of ha),qac Record.e ha,h1,trivial⟩
   ·exact qAv ⟨lt1 (lt_of ha),lt0,lt2 (lt_of ha),qac Record.e ha,h1,h2,trivial⟩
   ·exact qAw ⟨lt1 (lt_of ha),lt0,lt2 (lt_of ha),qac Record.e ha,h1,h2,dT (by omega),⟨by omega,by omega⟩,by omega,qiD hb,qiC Record.e hb,h3,trivial⟩)
  (qAz ⟨ge1,trivial⟩)
theorem qpJ(xs:List Done)(i:Nat)(e:Int)(r:Bool)(h:(xs.take i).any (fun q=>q.epoch==e)=r)(hl:xs.length≤8388608):Rt 126 [.one (.sl 2 ((xs.map Done.e).take i)),.one (I e)] [.one (B r)]:=by
 have c:=qo6 (xs.take i) e (by rw[zay];omega)
 rw[zcr,h]at c
 exact c
theorem qHb(w:Worker)(hl:w.dones.length≤8388608):
  (anyI (qbY w.dones) 0 w.dones=false∧qaj prog (qaa f123 2) (qde (w.dones.map Done.e) 0 (w.queue.map Record.e) (w.staged.map Record.e) (w.inputs.map Record.e) (w.cells.map Cell.e) (w.sums.map eI) (w.black.map eB) (w.caps.map eB) (w.dones.map Done.e)) (.exit 4) qk4)∨
  (anyI (qbY w.dones) 0 w.dones=true∧qaj prog (qaa f123 2) (qde (w.dones.map Done.e) 0 (w.queue.map Record.e) (w.staged.map Record.e) (w.inputs.map Record.e) (w.cells.map Cell.e) (w.sums.map eI) (w.black.map eB) (w.caps.map eB) (w.dones.map Done.e)) .ret (qis false)):=
 qdO (P:=prog) (c:=(qaa f123 2)) w.dones (qbY w.dones) (fun i=>qde (w.dones.map Done.e) i (w.queue.map Record.e) (w.staged.map Record.e) (w.inputs.map Record.e) (w.cells.map Cell.e) (w.sums.map eI) (w.black.map eB) (w.caps.map eB) (w.dones.map Done.e)) qat (qaf 4)
  (fun i a ha h=>by
   have hi:=lt_of ha
   simp only[qbY,zy,zX]at h
   exact qAK ⟨lt1 (lt_of ha),lt0,lt2 (lt_of ha),qac Done.e ha,qaT _ _ _ true h.1,rfl,Int.le_refl 0,(lt0:(0:Int)≤(i:Int)),(show (i:Int)≤_ by rw[zb];omega),qpJ w.dones i a.epoch false h.2 hl,rfl,up1 (lt_of ha) hl,trivial⟩)
  (fun i a ha h=>by
   have hi:=lt_of ha
   cases h1:inR a.epoch 0 3 with
   | false=>exact qAI ⟨lt1 (lt_of ha),lt0,lt2 (lt_of ha),qac Done.e ha,qaT _ _ _ false h1,rfl,trivial⟩
   | true=>
    simp only[qbY,h1,zZ,zal]at h
    exact qAJ ⟨lt1 (lt_of ha),lt0,lt2 (lt_of ha),qac Done.e ha,qaT _ _ _ true h1,rfl,Int.le_refl 0,(lt0:(0:Int)≤(i:Int)),(show (i:Int)≤_ by rw[zb];omega),qpJ w.dones i a.epoch true h hl,rfl,trivial⟩)
  (qAL ⟨ge1,trivial⟩)
theorem qiE(g:Graph)(w:Worker)(hg:g.sz≤8388608)(hw:w.sz≤8388608):Rt 123 [.agg g.e,.agg w.e] [.one (B (qaz g w))]:=by
 unfold qaz
 cases h1:qaN g w.queue with
 | false=>exact qAq ⟨qfd g _ _ h1 hg (Worker.queue_le hw),rfl,trivial⟩
 | true=>
 have c1:=qfd g _ _ h1 hg (Worker.queue_le hw)
 cases h2:qaN g w.staged with
 | false=>exact qAr ⟨c1,rfl,qfd g _ _ h2 hg (Worker.staged_le hw),rfl,trivial⟩
 | true=>
 have c2:=qfd g _ _ h2 hg (Worker.staged_le hw)
 cases h3:qaN g w.inputs with
 | false=>exact qAs ⟨c1,rfl,c2,rfl,qfd g _ _ h3 hg (Worker.inputs_le hw),rfl,trivial⟩
 | true=>
 have c3:=qfd g _ _ h3 hg (Worker.inputs_le hw)
 cases h4:qbq w.cells with
 | false=>exact qAt ⟨c1,rfl,c2,rfl,c3,rfl,qpE _ _ h4 (Worker.cells_le' hw),rfl,trivial⟩
 | true=>
 have c4:=qpE _ _ h4 (Worker.cells_le' hw)
 rcases qHa w (Worker.inputs_le hw) with⟨h8,l8⟩ | ⟨h8,l8⟩
 case inr=>
  rw[h8]
  simp only[zZ,Bool.false_and,Bool.and_false]
  exact qAA ⟨c1,rfl,c2,rfl,c3,rfl,c4,rfl,l8,trivial⟩
 cases h5:(w.sums.length==4) with
 | false=>exact qAB ⟨c1,rfl,c2,rfl,c3,rfl,c4,rfl,l8,len4' h5,trivial⟩
 | true=>
 cases h6:(w.black.length==4) with
 | false=>exact qAC ⟨c1,rfl,c2,rfl,c3,rfl,c4,rfl,l8,len4 h5,len4' h6,trivial⟩
 | true=>
 cases h7:(w.caps.length==4) with
 | false=>exact qAD ⟨c1,rfl,c2,rfl,c3,rfl,c4,rfl,l8,len4 h5,len4 h6,len4' h7,trivial⟩
 | true=>
 have l9:=qaL (P:=prog) (c:=(qaa f123 1)) w.sums qci (fun i=>qd2 (w.queue.map Record.e) (w.staged.map Record.e) (w.inputs.map Record.e) (w.cells.map Cell.e) (w.sums.map eI) (w.black.map eB) (w.caps.map eB) (w.dones.map Done.e) i) (X:=fun _ _=>qk2 false) qat (qaf 2)
  (fun i a ha h=>qAF ⟨lt1 (lt_of ha),lt0,lt2 (lt_of ha),qac eI ha,qaT _ _ _ true (by simpa[qci]using h),rfl,up1 (lt_of ha) (Worker.sums_le hw),trivial⟩)
  (fun i a ha h=>qAE ⟨lt1 (lt_of ha),lt0,lt2 (lt_of ha),qac eI ha,qaT _ _ _ false (by simpa[qci]using h),rfl,trivial⟩)
  (qAG ⟨ge1,trivial⟩)
 rw[h8]
 rcases l9 with⟨_,_,h9,l9⟩ | ⟨_,_,_,_,_,_,h9,l9⟩
 case inr=>rw[h9];exact qAH ⟨c1,rfl,c2,rfl,c3,rfl,c4,rfl,l8,len4 h5,len4 h6,len4 h7,l9,trivial⟩
 rw[h9]
 rcases qHb w (Worker.dones_le' hw) with⟨h10,l10⟩ | ⟨h10,l10⟩
 ·rw[h10];exact qAN ⟨c1,rfl,c2,rfl,c3,rfl,c4,rfl,l8,len4 h5,len4 h6,len4 h7,l9,l10,trivial⟩
 ·rw[h10];exact qAM ⟨c1,rfl,c2,rfl,c3,rfl,c4,rfl,l8,len4 h5,len4 h6,len4 h7,l9,l10,trivial⟩
end Go.Proofs.YtdanpadojemjeaaGreat
namespace Go.Proofs.YtdanpadojemjeaaGreat
open Go.Sx Go.RowKit Go.Proofs.Tryz
theorem graph_sz1{c:Cluster}(h:c.sz≤8388608):c.graph.sz≤8388608:=by simp only[Cluster.sz]at h;omega
theorem qpK{c:Cluster}(h:c.sz≤8388608):c.tokens.length≤8388608:=by simp only[Cluster.sz,szS]at h;omega
theorem qfe{c:Cluster}(h:c.sz≤8388608):c.news.length≤8388608:=by simp only[Cluster.sz,szS]at h;omega
def qbm(g:Graph)(i:Nat)(l:Link):Bool:=
 !qbl l||((l.cap != g.cap)||(!qaN g l.queue||((i:Int).tdiv g.workers==(i:Int).tmod g.workers&&decide ((l.queue.length:Int)>0))))
def qbC(n:Int)(t:Token):Bool:=!inR t.place 0 (n-1)||((!t.going&&t.place != 0)||!inR t.sum (-1000000) 1000000)
def qbD(n:Int)(x:News):Bool:=!inR x.dest 0 (n-1)||!inR x.epoch 0 3
def qah(c:Cluster):Bool:=
 qas c.graph&&(((c.workers.length:Int)==c.graph.workers)&&(((c.links.length:Int)==c.graph.workers*c.graph.workers)&&((c.tokens.length==4)&&(!(c.workers.any fun w=>!qaz c.graph w)&&(!(anyI (qbm c.graph) 0 c.links)&&(!(c.tokens.any (qbC c.graph.workers))&&!(c.news.any (qbD c.graph.workers))))))))
theorem qbK{g:Graph}(h:qas g=true):1≤g.workers∧g.workers≤4:=by
 simp only[qas,zj,inR,zi]at h
 omega
theorem qf2(i:Nat)(n:Int)(hi:i≤8388608)(hn:1≤n):inInt .i64 ((i:Int).tdiv n):=by
 have h1:0≤(i:Int).tdiv n:=Int.tdiv_nonneg (by omega) (by omega)
 have h2:(i:Int).tdiv n≤(i:Int):=Int.tdiv_le_self _ (by omega)
 exact⟨by omega,by omega⟩
theorem qHc{c:Cluster}(h:c.wf){l:Link}(hl:l∈c.links):l.got≤9223372036854775807:=by
 have:=(Cluster.link_wf h hl).got_ok
 simp only[inInt]at this
 exact this.2
def GotLe(c:Cluster):Prop:=∀l∈c.links,l.got≤9223372036854775807
theorem GotLe.of{c:Cluster}(h:c.wf):GotLe c:=fun _ hl=>qHc h hl
theorem qHd(c:Cluster)(hc:c.sz≤8388608)(hn:(c.workers.length:Int)=c.graph.workers):
  ((c.workers.any fun w=>!qaz c.graph w)=false∧qaj prog (qaa f113 0) (qcG (c.graph.nodes.map Node.e) c.graph.workers c.graph.cap (c.workers.map Worker.e) (c.links.map Link.e) (c.tokens.map Token.e) (c.news.map News.e) 0) (.exit 0) (qfW (c.graph.nodes.map Node.e) c.graph.workers c.graph.cap (c.workers.map Worker.e) (c.links.map Link.e) (c.tokens.map Token.e) (c.news.map News.e)))∨
  ((c.workers.any fun w=>!qaz c.graph w)=true∧qaj prog (qaa f113 0) (qcG (c.graph.nodes.map Node.e) c.graph.workers c.graph.cap (c.workers.map Worker.e) (c.links.map Link.e) (c.tokens.map Token.e) (c.news.map News.e) 0) .ret (qit false)):=by
 have hl:=Cluster.wlen_le hc
 have l:=qaL (P:=prog) (c:=(qaa f113 0)) c.workers (fun w=>!qaz c.graph w) (fun i=>qcG (c.graph.nodes.map Node.e) c.graph.workers c.graph.cap (c.workers.map Worker.e) (c.links.map Link.e) (c.tokens.map Token.e) (c.news.map News.e) i) (X:=fun _ _=>qit false) qat (qaf 0)
  (fun i a ha h=>by
   have k:=qpI c.graph a (graph_sz1 hc) (Cluster.worker_sz hc (qar ha))
   rw[show qaz c.graph a=true by simpa using h]at k
   exact qBh ⟨dT (by have:=lt_of ha;omega),lt0,lt2 (lt_of ha),qac Worker.e ha,k,rfl,up1 (lt_of ha) hl,trivial⟩)
  (fun i a ha h=>by
   have k:=qpI c.graph a (graph_sz1 hc) (Cluster.worker_sz hc (qar ha))
   rw[show qaz c.graph a=false by simpa using h]at k
   exact qBg ⟨dT (by have:=lt_of ha;omega),lt0,lt2 (lt_of ha),qac Worker.e ha,k,rfl,trivial⟩)
  (qBi ⟨dF (by omega),trivial⟩)
 rcases l with⟨_,_,h1,h2⟩ | ⟨_,_,_,_,_,_,h1,h2⟩
 ·exact .inl ⟨h1,h2⟩
 ·exact .inr ⟨h1,h2⟩
theorem qHe(c:Cluster)(hc:c.sz≤8388608)(hw:GotLe c)(hn:1≤c.graph.workers):
  (anyI (qbm c.graph) 0 c.links=false∧qaj prog (qaa f113 1) (qbW c.graph.workers 0 (c.graph.nodes.map Node.e) c.graph.workers c.graph.cap (c.workers.map Worker.e) (c.links.map Link.e) (c.tokens.map Token.e) (c.news.map News.e)) (.exit 2) (qg3 c.graph.workers (c.graph.nodes.map Node.e) c.graph.workers c.graph.cap (c.workers.map Worker.e) (c.links.map Link.e) (c.tokens.map Token.e) (c.news.map News.e)))∨
  (anyI (qbm c.graph) 0 c.links=true∧qaj prog (qaa f113 1) (qbW c.graph.workers 0 (c.graph.nodes.map Node.e) c.graph.workers c.graph.cap (c.workers.map Worker.e) (c.links.map Link.e) (c.tokens.map Token.e) (c.news.map News.e)) .ret (qfX false)):=by
 have hl:=Cluster.llen_le hc
 have kl:∀(i:Nat) (a:Link),c.links[i]?=some a→∀r,qbl a=r→Rt 188 [.agg a.e] [.one (B r)]:=fun i a ha r h=>h▸qiB a (Cluster.link_sz hc (qar ha))
 have kr:∀(i:Nat) (a:Link),c.links[i]?=some a→∀r,qaN c.graph a.queue=r→Rt 189 [.agg c.graph.e,.one (.sl 5 (a.queue.map Record.e))] [.one (B r)]:=fun i a ha r h=>qfc c.graph _ r h (graph_sz1 hc) (Cluster.link_sz hc (qar ha))
 exact qdO (P:=prog) (c:=(qaa f113 1)) c.links (qbm c.graph) (fun i=>qbW c.graph.workers i (c.graph.nodes.map Node.e) c.graph.workers c.graph.cap (c.workers.map Worker.e) (c.links.map Link.e) (c.tokens.map Token.e) (c.news.map News.e)) qat (qaf 2)
  (fun i a ha h=>by
   have hi:=lt_of ha
   simp only[qbm,zy,zX]at h
   obtain⟨h1,h2,h3,h4⟩:=h
   cases h5:((i:Int).tdiv c.graph.workers==(i:Int).tmod c.graph.workers) with
   | true=>
    rw[h5,zbl]at h4
    exact qBo ⟨lt1 (lt_of ha),lt0,lt2 (lt_of ha),qac Link.e ha,kl i a ha _ h1,rfl,h2,kr i a ha _ h3,rfl,by omega,qf2 i _ (by omega) hn,by omega,h5,by rw[zb];exact h4,up1 hi hl,trivial⟩
   | false=>exact qBp ⟨lt1 (lt_of ha),lt0,lt2 (lt_of ha),qac Link.e ha,kl i a ha _ h1,rfl,h2,kr i a ha _ h3,rfl,by omega,qf2 i _ (by omega) hn,by omega,h5,up1 hi hl,trivial⟩)
  (fun i a ha h=>by
   have hi:=lt_of ha
   cases h1:qbl a with
   | false=>exact qBk ⟨lt1 (lt_of ha),lt0,lt2 (lt_of ha),qac Link.e ha,kl i a ha _ h1,rfl,trivial⟩
   | true=>
   cases h2:(a.cap != c.graph.cap) with
   | true=>exact qBl ⟨lt1 (lt_of ha),lt0,lt2 (lt_of ha),qac Link.e ha,kl i a ha _ h1,rfl,h2,trivial⟩
   | false=>
   cases h3:qaN c.graph a.queue with
   | false=>exact qBm ⟨lt1 (lt_of ha),lt0,lt2 (lt_of ha),qac Link.e ha,kl i a ha _ h1,rfl,h2,kr i a ha _ h3,rfl,trivial⟩
   | true=>
   simp only[qbm,h1,h2,h3,zZ,zal,zj]at h
   exact qBn ⟨lt1 (lt_of ha),lt0,lt2 (lt_of ha),qac Link.e ha,kl i a ha _ h1,rfl,h2,kr i a ha _ h3,rfl,by omega,qf2 i _ (by omega) hn,by omega,h.1,by rw[zb];exact h.2,trivial⟩)
  (qBq ⟨ge1,trivial⟩)
theorem qHf(c:Cluster)(hc:c.sz≤8388608)(hn:1≤c.graph.workers∧c.graph.workers≤4):
  ((c.tokens.any (qbC c.graph.workers))=false∧qaj prog (qaa f113 2) (qb8 c.graph.workers (c.graph.nodes.map Node.e) c.graph.workers c.graph.cap (c.workers.map Worker.e) (c.links.map Link.e) (c.tokens.map Token.e) (c.news.map News.e) 0) (.exit 4) (qiu c.graph.workers (c.graph.nodes.map Node.e) c.graph.workers c.graph.cap (c.workers.map Worker.e) (c.links.map Link.e) (c.tokens.map Token.e) (c.news.map News.e)))∨
  ((c.tokens.any (qbC c.graph.workers))=true∧qaj prog (qaa f113 2) (qb8 c.graph.workers (c.graph.nodes.map Node.e) c.graph.workers c.graph.cap (c.workers.map Worker.e) (c.links.map Link.e) (c.tokens.map Token.e) (c.news.map News.e) 0) .ret (qe2 false)):=by
 have hl:=qpK hc
 have l:=qaL (P:=prog) (c:=(qaa f113 2)) c.tokens (qbC c.graph.workers) (fun i=>qb8 c.graph.workers (c.graph.nodes.map Node.e) c.graph.workers c.graph.cap (c.workers.map Worker.e) (c.links.map Link.e) (c.tokens.map Token.e) (c.news.map News.e) i) (X:=fun _ _=>qe2 false) qat (qaf 4)
  (fun i a ha h=>by
   have hi:=lt_of ha
   simp only[qbC,zy,zX]at h
   obtain⟨h1,h2,h3⟩:=h
   cases hg:a.going with
   | false=>
    rw[hg,zbc,zbl]at h2
    exact qBv ⟨lt1 (lt_of ha),lt0,lt2 (lt_of ha),qac Token.e ha,⟨by omega,by omega⟩,qaG _ _ _ true h1,rfl,lt0,lt2 (lt_of ha),qac Token.e ha,by rw[hg];rfl,lt0,lt2 (lt_of ha),qac Token.e ha,h2,lt0,lt2 (lt_of ha),qac Token.e ha,qaG _ _ _ true h3,rfl,up1 hi hl,trivial⟩
   | true=>exact qBx ⟨lt1 (lt_of ha),lt0,lt2 (lt_of ha),qac Token.e ha,⟨by omega,by omega⟩,qaG _ _ _ true h1,rfl,lt0,lt2 (lt_of ha),qac Token.e ha,by rw[hg];rfl,lt0,lt2 (lt_of ha),qac Token.e ha,qaG _ _ _ true h3,rfl,up1 hi hl,trivial⟩)
  (fun i a ha h=>by
   have hi:=lt_of ha
   cases h1:inR a.place 0 (c.graph.workers-1) with
   | false=>exact qBs ⟨lt1 (lt_of ha),lt0,lt2 (lt_of ha),qac Token.e ha,⟨by omega,by omega⟩,qaG _ _ _ false h1,rfl,trivial⟩
   | true=>
   simp only[qbC,h1,zZ,zal]at h
   cases hg:a.going with
   | false=>
    rw[hg,zbc,zbl]at h
    cases h2:(a.place != 0) with
    | true=>exact qBt ⟨lt1 (lt_of ha),lt0,lt2 (lt_of ha),qac Token.e ha,⟨by omega,by omega⟩,qaG _ _ _ true h1,rfl,lt0,lt2 (lt_of ha),qac Token.e ha,by rw[hg];rfl,lt0,lt2 (lt_of ha),qac Token.e ha,h2,trivial⟩
    | false=>
     rw[h2,zal]at h
     exact qBu ⟨lt1 (lt_of ha),lt0,lt2 (lt_of ha),qac Token.e ha,⟨by omega,by omega⟩,qaG _ _ _ true h1,rfl,lt0,lt2 (lt_of ha),qac Token.e ha,by rw[hg];rfl,lt0,lt2 (lt_of ha),qac Token.e ha,h2,lt0,lt2 (lt_of ha),qac Token.e ha,qaG _ _ _ false (by simpa using h),rfl,trivial⟩
   | true=>
    rw[hg,zZ,Bool.false_and,zal]at h
    exact qBw ⟨lt1 (lt_of ha),lt0,lt2 (lt_of ha),qac Token.e ha,⟨by omega,by omega⟩,qaG _ _ _ true h1,rfl,lt0,lt2 (lt_of ha),qac Token.e ha,by rw[hg];rfl,lt0,lt2 (lt_of ha),qac Token.e ha,qaG _ _ _ false (by simpa using h),rfl,trivial⟩)
  (qBy ⟨ge1,trivial⟩)
 rcases l with⟨_,_,h1,h2⟩ | ⟨_,_,_,_,_,_,h1,h2⟩
 ·exact .inl ⟨h1,h2⟩
 ·exact .inr ⟨h1,h2⟩
theorem qHg(c:Cluster)(hc:c.sz≤8388608)(hn:1≤c.graph.workers∧c.graph.workers≤4):
  ((c.news.any (qbD c.graph.workers))=false∧qaj prog (qaa f113 3) (qdf c.graph.workers (c.graph.nodes.map Node.e) c.graph.workers c.graph.cap (c.workers.map Worker.e) (c.links.map Link.e) (c.tokens.map Token.e) (c.news.map News.e) 0) (.exit 6) qk7)∨
  ((c.news.any (qbD c.graph.workers))=true∧qaj prog (qaa f113 3) (qdf c.graph.workers (c.graph.nodes.map Node.e) c.graph.workers c.graph.cap (c.workers.map Worker.e) (c.links.map Link.e) (c.tokens.map Token.e) (c.news.map News.e) 0) .ret (qg4 false)):=by
 have hl:=qfe hc
 have l:=qaL (P:=prog) (c:=(qaa f113 3)) c.news (qbD c.graph.workers) (fun i=>qdf c.graph.workers (c.graph.nodes.map Node.e) c.graph.workers c.graph.cap (c.workers.map Worker.e) (c.links.map Link.e) (c.tokens.map Token.e) (c.news.map News.e) i) (X:=fun _ _=>qg4 false) qat (qaf 6)
  (fun i a ha h=>by
   have hi:=lt_of ha
   simp only[qbD,zy,zX]at h
   exact qBC ⟨lt1 (lt_of ha),lt0,lt2 (lt_of ha),qac News.e ha,⟨by omega,by omega⟩,qaG _ _ _ true h.1,rfl,lt0,lt2 (lt_of ha),qac News.e ha,qaG _ _ _ true h.2,rfl,up1 hi hl,trivial⟩)
  (fun i a ha h=>by
   have hi:=lt_of ha
   cases h1:inR a.dest 0 (c.graph.workers-1) with
   | false=>exact qBA ⟨lt1 (lt_of ha),lt0,lt2 (lt_of ha),qac News.e ha,⟨by omega,by omega⟩,qaG _ _ _ false h1,rfl,trivial⟩
   | true=>
    simp only[qbD,h1,zZ,zal]at h
    exact qBB ⟨lt1 (lt_of ha),lt0,lt2 (lt_of ha),qac News.e ha,⟨by omega,by omega⟩,qaG _ _ _ true h1,rfl,lt0,lt2 (lt_of ha),qac News.e ha,qaG _ _ _ false (by simpa using h),rfl,trivial⟩)
  (qBD ⟨ge1,trivial⟩)
 rcases l with⟨_,_,h1,h2⟩ | ⟨_,_,_,_,_,_,h1,h2⟩
 ·exact .inl ⟨h1,h2⟩
 ·exact .inr ⟨h1,h2⟩
theorem qHh(c:Cluster)(hc:c.sz≤8388608)(hw:GotLe c):Rt 113 [.agg c.e] [.one (B (qah c))]:=by
 have hg:=qix c.graph (graph_sz1 hc)
 unfold qah
 cases h1:qas c.graph with
 | false=>rw[h1]at hg;exact qBc ⟨hg,rfl,trivial⟩
 | true=>
 rw[h1]at hg
 have hn:=qbK h1
 have hq:inInt .i64 (c.graph.workers*c.graph.workers):=by
  have h3:c.graph.workers=1∨c.graph.workers=2∨c.graph.workers=3∨c.graph.workers=4:=by omega
  rcases h3 with h3 | h3 | h3 | h3<;>(rw[h3];exact⟨by decide,by decide⟩)
 cases h2:((c.workers.length:Int)==c.graph.workers) with
 | false=>exact qBd ⟨hg,rfl,by rw[zb];simpa using h2,trivial⟩
 | true=>
 have v2:((↑(c.workers.map Worker.e).length:Int) != c.graph.workers)=false:=by rw[zb];simpa using h2
 cases h3:((c.links.length:Int)==c.graph.workers*c.graph.workers) with
 | false=>exact qBe ⟨hg,rfl,v2,hq,by rw[zb];simpa using h3,trivial⟩
 | true=>
 have v3:((↑(c.links.map Link.e).length:Int) != c.graph.workers*c.graph.workers)=false:=by rw[zb];simpa using h3
 cases h4:(c.tokens.length==4) with
 | false=>exact qBf ⟨hg,rfl,v2,hq,v3,len4' h4,trivial⟩
 | true=>
 rcases qHd c hc (eq_of_beq h2) with⟨h5,l5⟩ | ⟨h5,l5⟩
 case inr=>rw[h5];exact qBj ⟨hg,rfl,v2,hq,v3,len4 h4,l5,trivial⟩
 rw[h5]
 rcases qHe c hc hw hn.1 with⟨h6,l6⟩ | ⟨h6,l6⟩
 case inr=>rw[h6];exact qBr ⟨hg,rfl,v2,hq,v3,len4 h4,l5,l6,trivial⟩
 rw[h6]
 rcases qHf c hc hn with⟨h7,l7⟩ | ⟨h7,l7⟩
 case inr=>rw[h7];exact qBz ⟨hg,rfl,v2,hq,v3,len4 h4,l5,l6,l7,trivial⟩
 rw[h7]
 rcases qHg c hc hn with⟨h8,l8⟩ | ⟨h8,l8⟩
 ·rw[h8];exact qBF ⟨hg,rfl,v2,hq,v3,len4 h4,l5,l6,l7,l8,trivial⟩
 ·rw[h8];exact qBE ⟨hg,rfl,v2,hq,v3,len4 h4,l5,l6,l7,l8,trivial⟩
theorem qHi(c:Cluster)(hc:c.sz≤8388608)(hn:(c.workers.length:Int)=c.graph.workers):
  ((c.workers.any fun w=>!qaz c.graph w)=false∧qaj prog (qaa f64 0) (qcH c.graph.workers (c.workers.map Worker.e) 0 (c.graph.nodes.map Node.e) c.graph.workers c.graph.cap (c.workers.map Worker.e) (c.links.map Link.e) (c.tokens.map Token.e) (c.news.map News.e)) (.exit 0) (qfY c.graph.workers (c.graph.nodes.map Node.e) c.graph.workers c.graph.cap (c.workers.map Worker.e) (c.links.map Link.e) (c.tokens.map Token.e) (c.news.map News.e)))∨
  ((c.workers.any fun w=>!qaz c.graph w)=true∧qaj prog (qaa f64 0) (qcH c.graph.workers (c.workers.map Worker.e) 0 (c.graph.nodes.map Node.e) c.graph.workers c.graph.cap (c.workers.map Worker.e) (c.links.map Link.e) (c.tokens.map Token.e) (c.news.map News.e)) .ret (qiv false)):=by
 have hl:=Cluster.wlen_le hc
 have l:=qaL (P:=prog) (c:=(qaa f64 0)) c.workers (fun w=>!qaz c.graph w) (fun i=>qcH c.graph.workers (c.workers.map Worker.e) i (c.graph.nodes.map Node.e) c.graph.workers c.graph.cap (c.workers.map Worker.e) (c.links.map Link.e) (c.tokens.map Token.e) (c.news.map News.e)) (X:=fun _ _=>qiv false) qat (qaf 0)
  (fun i a ha h=>by
   have k:=qiE c.graph a (graph_sz1 hc) (Cluster.worker_sz hc (qar ha))
   rw[show qaz c.graph a=true by simpa using h]at k
   exact qBL ⟨lt1 (lt_of ha),lt0,lt2 (lt_of ha),qac Worker.e ha,k,rfl,up1 (lt_of ha) hl,trivial⟩)
  (fun i a ha h=>by
   have k:=qiE c.graph a (graph_sz1 hc) (Cluster.worker_sz hc (qar ha))
   rw[show qaz c.graph a=false by simpa using h]at k
   exact qBK ⟨lt1 (lt_of ha),lt0,lt2 (lt_of ha),qac Worker.e ha,k,rfl,trivial⟩)
  (qBM ⟨ge1,trivial⟩)
 rcases l with⟨_,_,h1,h2⟩ | ⟨_,_,_,_,_,_,h1,h2⟩
 ·exact .inl ⟨h1,h2⟩
 ·exact .inr ⟨h1,h2⟩
theorem qHj(c:Cluster)(hc:c.sz≤8388608)(hw:GotLe c)(hn:1≤c.graph.workers):
  (anyI (qbm c.graph) 0 c.links=false∧qaj prog (qaa f64 1) (qbX c.graph.workers (c.links.map Link.e) 0 (c.graph.nodes.map Node.e) c.graph.workers c.graph.cap (c.workers.map Worker.e) (c.links.map Link.e) (c.tokens.map Token.e) (c.news.map News.e)) (.exit 2) (qg5 c.graph.workers (c.graph.nodes.map Node.e) c.graph.workers c.graph.cap (c.workers.map Worker.e) (c.links.map Link.e) (c.tokens.map Token.e) (c.news.map News.e)))∨
  (anyI (qbm c.graph) 0 c.links=true∧qaj prog (qaa f64 1) (qbX c.graph.workers (c.links.map Link.e) 0 (c.graph.nodes.map Node.e) c.graph.workers c.graph.cap (c.workers.map Worker.e) (c.links.map Link.e) (c.tokens.map Token.e) (c.news.map News.e)) .ret (qfZ false)):=by
 have hl:=Cluster.llen_le hc
 have kl:∀(i:Nat) (a:Link),c.links[i]?=some a→∀r,qbl a=r→Rt 124 [.agg a.e] [.one (B r)]:=fun i a ha r h=>h▸qiA a (Cluster.link_sz hc (qar ha)) (hw _ (qar ha))
 have kr:∀(i:Nat) (a:Link),c.links[i]?=some a→∀r,qaN c.graph a.queue=r→Rt 125 [.agg c.graph.e,.one (.sl 5 (a.queue.map Record.e))] [.one (B r)]:=fun i a ha r h=>qfd c.graph _ r h (graph_sz1 hc) (Cluster.link_sz hc (qar ha))
 exact qdO (P:=prog) (c:=(qaa f64 1)) c.links (qbm c.graph) (fun i=>qbX c.graph.workers (c.links.map Link.e) i (c.graph.nodes.map Node.e) c.graph.workers c.graph.cap (c.workers.map Worker.e) (c.links.map Link.e) (c.tokens.map Token.e) (c.news.map News.e)) qat (qaf 2)
  (fun i a ha h=>by
   have hi:=lt_of ha
   simp only[qbm,zy,zX]at h
   obtain⟨h1,h2,h3,h4⟩:=h
   cases h5:((i:Int).tdiv c.graph.workers==(i:Int).tmod c.graph.workers) with
   | true=>
    rw[h5,zbl]at h4
    exact qBS ⟨lt1 (lt_of ha),lt0,lt2 (lt_of ha),qac Link.e ha,kl i a ha _ h1,rfl,h2,kr i a ha _ h3,rfl,by omega,qf2 i _ (by omega) hn,by omega,h5,by rw[zb];exact h4,up1 hi hl,trivial⟩
   | false=>exact qBT ⟨lt1 (lt_of ha),lt0,lt2 (lt_of ha),qac Link.e ha,kl i a ha _ h1,rfl,h2,kr i a ha _ h3,rfl,by omega,qf2 i _ (by omega) hn,by omega,h5,up1 hi hl,trivial⟩)
  (fun i a ha h=>by
   have hi:=lt_of ha
   cases h1:qbl a with
   | false=>exact qBO ⟨lt1 (lt_of ha),lt0,lt2 (lt_of ha),qac Link.e ha,kl i a ha _ h1,rfl,trivial⟩
   | true=>
   cases h2:(a.cap != c.graph.cap) with
   | true=>exact qBP ⟨lt1 (lt_of ha),lt0,lt2 (lt_of ha),qac Link.e ha,kl i a ha _ h1,rfl,h2,trivial⟩
   | false=>
   cases h3:qaN c.graph a.queue with
   | false=>exact qBQ ⟨lt1 (lt_of ha),lt0,lt2 (lt_of ha),qac Link.e ha,kl i a ha _ h1,rfl,h2,kr i a ha _ h3,rfl,trivial⟩
   | true=>
   simp only[qbm,h1,h2,h3,zZ,zal,zj]at h
   exact qBR ⟨lt1 (lt_of ha),lt0,lt2 (lt_of ha),qac Link.e ha,kl i a ha _ h1,rfl,h2,kr i a ha _ h3,rfl,by omega,qf2 i _ (by omega) hn,by omega,h.1,by rw[zb];exact h.2,trivial⟩)
  (qBU ⟨ge1,trivial⟩)
theorem qHk(c:Cluster)(hc:c.sz≤8388608)(hn:1≤c.graph.workers∧c.graph.workers≤4):
  ((c.tokens.any (qbC c.graph.workers))=false∧qaj prog (qaa f64 2) (qb9 c.graph.workers (c.tokens.map Token.e) 0 (c.graph.nodes.map Node.e) c.graph.workers c.graph.cap (c.workers.map Worker.e) (c.links.map Link.e) (c.tokens.map Token.e) (c.news.map News.e)) (.exit 4) (qiw c.graph.workers (c.graph.nodes.map Node.e) c.graph.workers c.graph.cap (c.workers.map Worker.e) (c.links.map Link.e) (c.tokens.map Token.e) (c.news.map News.e)))∨
  ((c.tokens.any (qbC c.graph.workers))=true∧qaj prog (qaa f64 2) (qb9 c.graph.workers (c.tokens.map Token.e) 0 (c.graph.nodes.map Node.e) c.graph.workers c.graph.cap (c.workers.map Worker.e) (c.links.map Link.e) (c.tokens.map Token.e) (c.news.map News.e)) .ret (qe3 false)):=by
 have hl:=qpK hc
 have l:=qaL (P:=prog) (c:=(qaa f64 2)) c.tokens (qbC c.graph.workers) (fun i=>qb9 c.graph.workers (c.tokens.map Token.e) i (c.graph.nodes.map Node.e) c.graph.workers c.graph.cap (c.workers.map Worker.e) (c.links.map Link.e) (c.tokens.map Token.e) (c.news.map News.e)) (X:=fun _ _=>qe3 false) qat (qaf 4)
  (fun i a ha h=>by
   have hi:=lt_of ha
   simp only[qbC,zy,zX]at h
   obtain⟨h1,h2,h3⟩:=h
   cases hg:a.going with
   | false=>
    rw[hg,zbc,zbl]at h2
    exact qBZ ⟨lt1 (lt_of ha),lt0,lt2 (lt_of ha),qac Token.e ha,⟨by omega,by omega⟩,qaT _ _ _ true h1,rfl,by rw[hg];rfl,h2,qaT _ _ _ true h3,rfl,up1 hi hl,trivial⟩
   | true=>exact qB1 ⟨lt1 (lt_of ha),lt0,lt2 (lt_of ha),qac Token.e ha,⟨by omega,by omega⟩,qaT _ _ _ true h1,rfl,by rw[hg];rfl,qaT _ _ _ true h3,rfl,up1 hi hl,trivial⟩)
  (fun i a ha h=>by
   have hi:=lt_of ha
   cases h1:inR a.place 0 (c.graph.workers-1) with
   | false=>exact qBW ⟨lt1 (lt_of ha),lt0,lt2 (lt_of ha),qac Token.e ha,⟨by omega,by omega⟩,qaT _ _ _ false h1,rfl,trivial⟩
   | true=>
   simp only[qbC,h1,zZ,zal]at h
   cases hg:a.going with
   | false=>
    rw[hg,zbc,zbl]at h
    cases h2:(a.place != 0) with
    | true=>exact qBX ⟨lt1 (lt_of ha),lt0,lt2 (lt_of ha),qac Token.e ha,⟨by omega,by omega⟩,qaT _ _ _ true h1,rfl,by rw[hg];rfl,h2,trivial⟩
    | false=>
     rw[h2,zal]at h
     exact qBY ⟨lt1 (lt_of ha),lt0,lt2 (lt_of ha),qac Token.e ha,⟨by omega,by omega⟩,qaT _ _ _ true h1,rfl,by rw[hg];rfl,h2,qaT _ _ _ false (by simpa using h),rfl,trivial⟩
   | true=>
    rw[hg,zZ,Bool.false_and,zal]at h
    exact qB0 ⟨lt1 (lt_of ha),lt0,lt2 (lt_of ha),qac Token.e ha,⟨by omega,by omega⟩,qaT _ _ _ true h1,rfl,by rw[hg];rfl,qaT _ _ _ false (by simpa using h),rfl,trivial⟩)
  (qB2 ⟨ge1,trivial⟩)
 rcases l with⟨_,_,h1,h2⟩ | ⟨_,_,_,_,_,_,h1,h2⟩
 ·exact .inl ⟨h1,h2⟩
 ·exact .inr ⟨h1,h2⟩
theorem qHl(c:Cluster)(hc:c.sz≤8388608)(hn:1≤c.graph.workers∧c.graph.workers≤4):
  ((c.news.any (qbD c.graph.workers))=false∧qaj prog (qaa f64 3) (qdg c.graph.workers (c.news.map News.e) 0) (.exit 6) qk8)∨
  ((c.news.any (qbD c.graph.workers))=true∧qaj prog (qaa f64 3) (qdg c.graph.workers (c.news.map News.e) 0) .ret (qg6 false)):=by
 have hl:=qfe hc
 have l:=qaL (P:=prog) (c:=(qaa f64 3)) c.news (qbD c.graph.workers) (fun i=>qdg c.graph.workers (c.news.map News.e) i) (X:=fun _ _=>qg6 false) qat (qaf 6)
  (fun i a ha h=>by
   have hi:=lt_of ha
   simp only[qbD,zy,zX]at h
   exact qB6 ⟨lt1 (lt_of ha),lt0,lt2 (lt_of ha),qac News.e ha,⟨by omega,by omega⟩,qaT _ _ _ true h.1,rfl,qaT _ _ _ true h.2,rfl,up1 hi hl,trivial⟩)
  (fun i a ha h=>by
   have hi:=lt_of ha
   cases h1:inR a.dest 0 (c.graph.workers-1) with
   | false=>exact qB4 ⟨lt1 (lt_of ha),lt0,lt2 (lt_of ha),qac News.e ha,⟨by omega,by omega⟩,qaT _ _ _ false h1,rfl,trivial⟩
   | true=>
    simp only[qbD,h1,zZ,zal]at h
    exact qB5 ⟨lt1 (lt_of ha),lt0,lt2 (lt_of ha),qac News.e ha,⟨by omega,by omega⟩,qaT _ _ _ true h1,rfl,qaT _ _ _ false (by simpa using h),rfl,trivial⟩)
  (qB7 ⟨ge1,trivial⟩)
 rcases l with⟨_,_,h1,h2⟩ | ⟨_,_,_,_,_,_,h1,h2⟩
 ·exact .inl ⟨h1,h2⟩
 ·exact .inr ⟨h1,h2⟩
theorem qiF(c:Cluster)(hc:c.sz≤8388608)(hw:GotLe c):Rt 64 [.agg c.e] [.one (B (qah c))]:=by
 have hg:=qe6 c.graph (graph_sz1 hc)
 unfold qah
 cases h1:qas c.graph with
 | false=>rw[h1]at hg;exact qBG ⟨hg,rfl,trivial⟩
 | true=>
 rw[h1]at hg
 have hn:=qbK h1
 have hq:inInt .i64 (c.graph.workers*c.graph.workers):=by
  have h3:c.graph.workers=1∨c.graph.workers=2∨c.graph.workers=3∨c.graph.workers=4:=by omega
  rcases h3 with h3 | h3 | h3 | h3<;>(rw[h3];exact⟨by decide,by decide⟩)
 cases h2:((c.workers.length:Int)==c.graph.workers) with
 | false=>exact qBH ⟨hg,rfl,by rw[zb];simpa using h2,trivial⟩
 | true=>
 have v2:((↑(c.workers.map Worker.e).length:Int) != c.graph.workers)=false:=by rw[zb];simpa using h2
 cases h3:((c.links.length:Int)==c.graph.workers*c.graph.workers) with
 | false=>exact qBI ⟨hg,rfl,v2,hq,by rw[zb];simpa using h3,trivial⟩
 | true=>
 have v3:((↑(c.links.map Link.e).length:Int) != c.graph.workers*c.graph.workers)=false:=by rw[zb];simpa using h3
 cases h4:(c.tokens.length==4) with
 | false=>exact qBJ ⟨hg,rfl,v2,hq,v3,len4' h4,trivial⟩
 | true=>
 rcases qHi c hc (eq_of_beq h2) with⟨h5,l5⟩ | ⟨h5,l5⟩
 case inr=>rw[h5];exact qBN ⟨hg,rfl,v2,hq,v3,len4 h4,l5,trivial⟩
 rw[h5]
 rcases qHj c hc hw hn.1 with⟨h6,l6⟩ | ⟨h6,l6⟩
 case inr=>rw[h6];exact qBV ⟨hg,rfl,v2,hq,v3,len4 h4,l5,l6,trivial⟩
 rw[h6]
 rcases qHk c hc hn with⟨h7,l7⟩ | ⟨h7,l7⟩
 case inr=>rw[h7];exact qB3 ⟨hg,rfl,v2,hq,v3,len4 h4,l5,l6,l7,trivial⟩
 rw[h7]
 rcases qHl c hc hn with⟨h8,l8⟩ | ⟨h8,l8⟩
 ·rw[h8];exact qB9 ⟨hg,rfl,v2,hq,v3,len4 h4,l5,l6,l7,l8,trivial⟩
 ·rw[h8];exact qB8 ⟨hg,rfl,v2,hq,v3,len4 h4,l5,l6,l7,l8,trivial⟩
end Go.Proofs.YtdanpadojemjeaaGreat
namespace Go.Proofs.YtdanpadojemjeaaGreat
open Go.Sx Go.RowKit Go.Proofs.Tryz
def cutAt{α:Type}(xs:List α)(k:Nat):List α:=xs.take k++xs.drop (k+1)
def rec0:Record:=⟨0,⟨0,0⟩,0,0⟩
def incAt(xs:List Int)(e d:Int):List Int:=xs.set e.toNat (xs.getD e.toNat 0+d)
def qaD(l:Link)(r:Record):Link×Bool:=
 if qbl l&&qaC r&&l.credits != 0&&decide (l.sent<1000000000) then (⟨l.cap,l.queue++[r],l.credits-1,l.back,l.sent+1,l.got⟩,true) else (l,false)
def qav(l:Link):Link×Record×Bool:=
 if qbl l then match l.queue with
  | []=>(l,rec0,false)
  | r::q=>(⟨l.cap,q,l.credits,l.back+1,l.sent,l.got+1⟩,r,true)
 else (l,rec0,false)
def qa2(l:Link):Link×Bool:=
 if qbl l&&l.back != 0 then (⟨l.cap,l.queue,l.credits+1,l.back-1,l.sent,l.got⟩,true) else (l,false)
def qaW(g:Graph)(w:Worker):Worker×Bool:=
 if qas g&&qaz g w then match w.staged,w.queue with
  | [],r::q=>(⟨q,(qay g w.cells r).2.1,w.inputs,(qay g w.cells r).1,w.sums,w.black,(if capped g r then w.caps.set r.stamp.epoch.toNat true else w.caps),w.dones⟩,true)
  | _,_=>(w,false)
 else (w,false)
def qaX(g:Graph)(w:Worker):Worker×Bool:=
 if qas g&&qaz g w then match w.staged,w.queue,w.inputs with
  | [],[],r::t=>(⟨[r],[],t,w.cells,w.sums,w.black,w.caps,w.dones⟩,true)
  | _,_,_=>(w,false)
 else (w,false)
def qbE(w:Worker)(t:List Record):Worker:=⟨w.queue,t,w.inputs,w.cells,w.sums,w.black,w.caps,w.dones⟩
def kept(w:Worker)(r:Record):Worker:=⟨w.queue++[r],w.staged,w.inputs,w.cells,w.sums,w.black,w.caps,w.dones⟩
def received(w:Worker)(r:Record):Worker:=⟨w.queue++[r],w.staged,w.inputs,w.cells,incAt w.sums r.stamp.epoch (-1),w.black.set r.stamp.epoch.toNat true,w.caps,w.dones⟩
def qcI(w:Worker)(e:Int):Worker:=⟨w.queue,w.staged,w.inputs,w.cells,incAt w.sums e 1,w.black,w.caps,w.dones⟩
def qbZ(w:Worker)(e:Int):Worker:=⟨w.queue,w.staged,w.inputs,w.cells,w.sums,w.black.set e.toNat false,w.caps,w.dones⟩
def told(w:Worker)(e:Int)(b:Bool):Worker:=⟨w.queue,w.staged,w.inputs,w.cells,w.sums,w.black,w.caps,w.dones++[⟨e,b⟩]⟩
def hears(w:Worker)(n:News):Worker:=if qbV w n.epoch then w else told w n.epoch n.capped
def qf3(w:Worker)(e:Int):Bool:=w.inputs.any fun r=>decide (r.stamp.epoch≤e)
def qHm(w:Worker)(e:Int):Nat:=(qbS e w.queue).length+(qbS e w.staged).length
def qdz(w:Worker)(e:Int):Bool:=!qf3 w e&&qHm w e==0
def setW(c:Cluster)(i:Int)(x:Worker):Cluster:=⟨c.graph,c.workers.set i.toNat x,c.links,c.tokens,c.news⟩
def setL(c:Cluster)(i:Int)(l:Link):Cluster:=⟨c.graph,c.workers,c.links.set i.toNat l,c.tokens,c.news⟩
def setT(c:Cluster)(i:Int)(t:Token):Cluster:=⟨c.graph,c.workers,c.links,c.tokens.set i.toNat t,c.news⟩
def setN(c:Cluster)(n:List News):Cluster:=⟨c.graph,c.workers,c.links,c.tokens,n⟩
def wAt(c:Cluster)(i:Int):Option Worker:=if 0≤i then c.workers[i.toNat]? else none
def lAt(c:Cluster)(i:Int):Option Link:=if 0≤i then c.links[i.toNat]? else none
def tAt(c:Cluster)(i:Int):Option Token:=if 0≤i then c.tokens[i.toNat]? else none
def qaQ(g:Graph)(a b:Int):Int:=if inR a 0 (g.workers-1)&&inR b 0 (g.workers-1) then a*g.workers+b else -1
def qbf(c:Cluster)(w:Int):Cluster×Bool:=
 if qah c then match wAt c w with
  | some x=>(setW c w (qaW c.graph x).1,(qaW c.graph x).2)
  | none=>(c,false)
 else (c,false)
def qbg(c:Cluster)(w:Int):Cluster×Bool:=
 if qah c then match wAt c w with
  | some x=>(setW c w (qaX c.graph x).1,(qaX c.graph x).2)
  | none=>(c,false)
 else (c,false)
def qff(c:Cluster)(w:Int)(x:Worker)(r:Record)(t:List Record)(o:Int):Cluster×Bool:=
 if o=w then (setW c w (kept (qbE x t) r),true)
 else match lAt c (qaQ c.graph w o) with
  | some l=>if (qaD l r).2 then (setW (setL c (qaQ c.graph w o) (qaD l r).1) w (qcI (qbE x t) r.stamp.epoch),true) else (c,false)
  | none=>(c,false)
def qbh(c:Cluster)(w:Int):Cluster×Bool:=
 if qah c then match wAt c w with
  | some x=>match x.staged with
   | r::t=>qff c w x r t (qbd r.key c.graph.workers)
   | []=>(c,false)
  | none=>(c,false)
 else (c,false)
def qbr(c:Cluster)(a b:Int):Cluster×Bool:=
 if qah c&&a != b then match lAt c (qaQ c.graph a b),wAt c b with
  | some l,some x=>if (qav l).2.2 then (setW (setL c (qaQ c.graph a b) (qav l).1) b (received x (qav l).2.1),true) else (c,false)
  | _,_=>(c,false)
 else (c,false)
def qbi(c:Cluster)(a b:Int):Cluster×Bool:=
 if qah c&&a != b then match lAt c (qaQ c.graph a b) with
  | some l=>(setL c (qaQ c.graph a b) (qa2 l).1,(qa2 l).2)
  | none=>(c,false)
 else (c,false)
def qa7(n:Nat)(e:Int)(b:Bool):List News:=(List.range n).map fun k:Nat=>⟨(k:Int)+1,e,b⟩
def qaE(c:Cluster)(e:Int)(t:Token)(x:Worker):Cluster×Bool:=
 if qdz x e then
  if !t.going then (setW (setT c e ⟨true,(c.workers.length:Int)-1,0,false,x.caps.getD e.toNat false⟩) t.place (qbZ x e),true)
  else if 0<t.place then
   if inR (t.sum+x.sums.getD e.toNat 0) (-1000000) 1000000 then
    (setW (setT c e ⟨true,t.place-1,t.sum+x.sums.getD e.toNat 0,t.black||x.black.getD e.toNat false,t.capped||x.caps.getD e.toNat false⟩) t.place (qbZ x e),true)
   else (c,false)
  else if !t.black&&!x.black.getD e.toNat false&&t.sum+x.sums.getD e.toNat 0==0 then
   (setN (setW (setT c e ⟨false,t.place,t.sum,t.black,t.capped⟩) 0 (told x e (t.capped||x.caps.getD e.toNat false))) (c.news++qa7 (c.workers.length-1) e (t.capped||x.caps.getD e.toNat false)),true)
  else (setT c e ⟨false,t.place,t.sum,t.black,t.capped⟩,true)
 else (c,false)
def qba(c:Cluster)(e:Int):Cluster×Bool:=
 if qah c&&inR e 0 3 then match wAt c 0,tAt c e with
  | some x0,some t=>if qbV x0 e then (c,false) else match wAt c t.place with
   | some x=>qaE c e t x
   | none=>(c,false)
  | _,_=>(c,false)
 else (c,false)
def qbs(c:Cluster)(w:Int):Cluster×Bool:=
 match c.news.findIdx? (fun n=>n.dest==w) with
 | some k=>if qah c then match c.news[k]?,wAt c w with
   | some n,some x=>(setN (setW c w (hears x n)) (cutAt c.news k),true)
   | _,_=>(c,false)
  else (c,false)
 | none=>(c,false)
def stepPick(c:Cluster)(p:Pick):Cluster×Bool:=
 if p.kind=1 then qbf c p.a else if p.kind=2 then qbg c p.a else if p.kind=3 then qbh c p.a
 else if p.kind=4 then qbr c p.a p.b else if p.kind=5 then qbi c p.a p.b else if p.kind=6 then qba c p.a
 else if p.kind=7 then qbs c p.a else (c,false)
end Go.Proofs.YtdanpadojemjeaaGreat
namespace Go.Proofs.YtdanpadojemjeaaGreat
open Go.Sx Go.RowKit Go.Proofs.Tryz
section
variable {α : Type}
theorem qlk{p:α→Bool}{xs:List α}{i:Nat}{x:α}(h:xs.any p=false)(hi:i<xs.length):(xs.set i x).any p=p x:=by
 cases hx:p x with
 | true=>exact zcj.2 ⟨x,List.mem_iff_getElem.2 ⟨i,by simpa using hi,by simp⟩,hx⟩
 | false=>
  rw[zP]at h ⊢
  intro a ha
  rcases zbf ha with h1 | rfl
  ·exact h a h1
  ·simp[hx]
theorem qpL{p:Nat→α→Bool}{x:α}:∀{xs:List α} {k i:Nat},anyI p k xs=false→i<xs.length→anyI p k (xs.set i x)=p (k+i) x
 | [],_,_,_,h=>by simp at h
 | a::xs,k,0,h,_=>by
  simp only[anyI,zy]at h
  simp only[List.set_cons_zero,anyI,h.2,Bool.or_false,zbj]
 | a::xs,k,i+1,h,hi=>by
  simp only[anyI,zy]at h
  simp only[List.set_cons_succ,anyI,h.1,zal]
  rw[qpL h.2 (by simpa using hi),show k+1+i=k+(i+1) by omega]
theorem qpM{p:Nat→α→Bool}{xs:List α}(h:∀i a,xs[i]?=some a→p i a=false):anyI p 0 xs=false:=by
 cases hx:anyI p 0 xs with
 | false=>rfl
 | true=>
  obtain⟨i,a,h1,h2,_⟩:=qkh hx
  rw[zv,h i a h1]at h2
  cases h2
theorem qiG{p:Nat→α→Bool}{xs:List α}(h:anyI p 0 xs=false){i:Nat}{a:α}(ha:xs[i]?=some a):p i a=false:=by
 have:=qia h i a ha
 rwa[zv]at this
end
theorem qaY{c:Cluster}:qah c=true↔qas c.graph=true∧(c.workers.length:Int)=c.graph.workers∧(c.links.length:Int)=c.graph.workers*c.graph.workers∧c.tokens.length=4∧(c.workers.any fun w=>!qaz c.graph w)=false∧anyI (qbm c.graph) 0 c.links=false∧c.tokens.any (qbC c.graph.workers)=false∧c.news.any (qbD c.graph.workers)=false:=by
 simp only[qah,zj,zS,zE]
theorem qc0{c:Cluster}{i:Int}{x:Worker}(h:wAt c i=some x):0≤i∧i.toNat<c.workers.length∧c.workers[i.toNat]?=some x:=by
 unfold wAt at h
 split at h
 ·exact⟨‹_›,lt_of h,h⟩
 ·cases h
theorem qd8{c:Cluster}{i:Int}{x:Link}(h:lAt c i=some x):0≤i∧i.toNat<c.links.length∧c.links[i.toNat]?=some x:=by
 unfold lAt at h
 split at h
 ·exact⟨‹_›,lt_of h,h⟩
 ·cases h
theorem qll{c:Cluster}{i:Int}{x:Token}(h:tAt c i=some x):0≤i∧i.toNat<c.tokens.length∧c.tokens[i.toNat]?=some x:=by
 unfold tAt at h
 split at h
 ·exact⟨‹_›,lt_of h,h⟩
 ·cases h
theorem qd9{c:Cluster}{i:Int}{x y:Worker}(h:qah c=true)(hy:wAt c i=some y):qah (setW c i x)=qaz c.graph x:=by
 obtain⟨h1,h2,h3,h4,h5,h6,h7,h8⟩:=qaY.1 h
 have hi:=(qc0 hy).2.1
 simp only[qah,setW,zn,qlk h5 hi,h1,h2,h3,h4,h6,h7,h8,zby,zbc,zcs,zbl,Bool.not_not]
theorem qlm{c:Cluster}{i:Int}{x y:Link}(h:qah c=true)(hy:lAt c i=some y):qah (setL c i x)=!qbm c.graph i.toNat x:=by
 obtain⟨h1,h2,h3,h4,h5,h6,h7,h8⟩:=qaY.1 h
 have hi:=(qd8 hy).2.1
 simp only[qah,setL,zn,qpL h6 hi,zv,h1,h2,h3,h4,h5,h7,h8,zby,zbc,zcs,zbl]
theorem qHn{c:Cluster}{i:Int}{x y:Token}(h:qah c=true)(hy:tAt c i=some y):qah (setT c i x)=!qbC c.graph.workers x:=by
 obtain⟨h1,h2,h3,h4,h5,h6,h7,h8⟩:=qaY.1 h
 have hi:=(qll hy).2.1
 simp only[qah,setT,zn,qlk h7 hi,h1,h2,h3,h4,h5,h6,h8,zby,zbc,zcs,zbl]
theorem qpN{c:Cluster}{x:List News}(h:qah c=true):qah (setN c x)=!(x.any (qbD c.graph.workers)):=by
 obtain⟨h1,h2,h3,h4,h5,h6,h7,h8⟩:=qaY.1 h
 simp only[qah,setN,h1,h2,h3,h4,h5,h6,h7,zby,zbc,zbl]
theorem qcw{c:Cluster}{i:Int}{x:Worker}(h:qah c=true)(hx:wAt c i=some x):qaz c.graph x=true:=by
 have h5:=(qaY.1 h).2.2.2.2.1
 rw[zP]at h5
 simpa using h5 x (qar (qc0 hx).2.2)
theorem qg8{c:Cluster}{i:Int}{x:Link}(h:qah c=true)(hx:lAt c i=some x):qbm c.graph i.toNat x=false:=
 qiG (qaY.1 h).2.2.2.2.2.1 (qd8 hx).2.2
theorem qpO{c:Cluster}{i:Int}{x:Token}(h:qah c=true)(hx:tAt c i=some x):qbC c.graph.workers x=false:=by
 have h5:=(qaY.1 h).2.2.2.2.2.2.1
 rw[zP]at h5
 simpa using h5 x (qar (qll hx).2.2)
theorem qfg{c:Cluster}{i:Int}{x:Worker}(hx:wAt c i=some x):setW c i x=c:=by
 obtain⟨_,h2,h3⟩:=qc0 hx
 have:c.workers.set i.toNat x=c.workers:=by
  rw[zu h2]at h3
  rw[←zx h3]
  exact List.set_getElem_self h2
 unfold setW
 rw[this]
theorem qby{g:Graph}{w:Worker}:qaz g w=true↔qaN g w.queue=true∧qaN g w.staged=true∧qaN g w.inputs=true∧qbq w.cells=true∧w.sums.length=4∧w.black.length=4∧w.caps.length=4∧anyI (inBad w.inputs) 0 w.inputs=false∧w.sums.any qci=false∧anyI (qbY w.dones) 0 w.dones=false:=by
 simp only[qaz,zj,zS,zE]
theorem qea{g:Graph}{r:Record}{q:List Record}:qaN g (r::q)=true↔qbJ g r=false∧qaN g q=true:=by
 simp only[qaN,zcg,zS,zy]
theorem qln{g:Graph}{r:Record}{q:List Record}:qaN g (q++[r])=true↔qaN g q=true∧qbJ g r=false:=by
 simp only[qaN,List.any_append,zcg,List.any_nil,Bool.or_false,zS,zy]
theorem qHo{r:Record}{t:List Record}(h:anyI (inBad (r::t)) 0 (r::t)=false):anyI (inBad t) 0 t=false:=by
 refine qpM fun i a ha=>?_
 have k:=qiG h (i:=i+1) (a:=a) (by simpa using ha)
 unfold inBad at k ⊢
 rw[zy]at k ⊢
 refine⟨k.1,?_⟩
 cases i with
 | zero=>rfl
 | succ j=>simpa using k.2
theorem qHp{xs:List Done}{d:Done}(h:anyI (qbY xs) 0 xs=false)(h1:inR d.epoch 0 3=true)(h2:(xs.any fun q=>q.epoch==d.epoch)=false):anyI (qbY (xs++[d])) 0 (xs++[d])=false:=by
 refine qpM fun i a ha=>?_
 by_cases hi:i<xs.length
 ·rw[zbg hi]at ha
  have k:=qiG h ha
  unfold qbY at k ⊢
  rw[zbw (by omega)]
  exact k
 ·have hl:=lt_of ha
  simp only[zab,zq,zh]at hl
  have e:i=xs.length:=by omega
  subst e
  rw[zas (zO _),Nat.sub_self]at ha
  obtain rfl:d=a:=by simpa using ha
  unfold qbY
  rw[zbw (zO _),zC,h1,h2]
  rfl
theorem qHq{g:Graph}{w:Worker}{r:Record}(h:qaz g w=true)(hr:qbJ g r=false):qaz g (kept w r)=true:=by
 obtain⟨h1,h2⟩:=qby.1 h
 exact qby.2 ⟨qln.2 ⟨h1,hr⟩,h2⟩
theorem qiH{g:Graph}{w:Worker}{r:Record}{t:List Record}(h:qaz g w=true)(hs:w.staged=r::t):qaz g (qbE w t)=true∧qbJ g r=false:=by
 obtain⟨h1,h2,h3⟩:=qby.1 h
 rw[hs,qea]at h2
 exact⟨qby.2 ⟨h1,h2.2,h3⟩,h2.1⟩
theorem qHr{g:Graph}{w:Worker}{e:Int}(h:qaz g w=true):qaz g (qbZ w e)=true:=by
 obtain⟨h1,h2,h3,h4,h5,h6,h7⟩:=qby.1 h
 exact qby.2 ⟨h1,h2,h3,h4,h5,by simp only[qbZ,zn];exact h6,h7⟩
theorem qpP{g:Graph}{w:Worker}{e:Int}{b:Bool}(h:qaz g w=true)(he:inR e 0 3=true)(hd:qbV w e=false):qaz g (told w e b)=true:=by
 obtain⟨h1,h2,h3,h4,h5,h6,h7,h8,h9,h10⟩:=qby.1 h
 exact qby.2 ⟨h1,h2,h3,h4,h5,h6,h7,h8,h9,qHp h10 he hd⟩
theorem qHs{g:Graph}{w:Worker}{n:News}(h:qaz g w=true)(he:inR n.epoch 0 3=true):qaz g (hears w n)=true:=by
 unfold hears
 cases hd:qbV w n.epoch with
 | true=>exact h
 | false=>exact qpP h he hd
theorem qpQ{g:Graph}{w:Worker}{e d:Int}{k:Nat}(h:qaz g w=true)(hk:e.toNat=k)(h4:k<4):(incAt w.sums e d).length=4∧(incAt w.sums e d).any qci=qci (w.sums.getD e.toNat 0+d):=by
 obtain⟨h1,h2,h3,_,h5,h6,h7,h8,h9,h10⟩:=qby.1 h
 exact⟨by simp only[incAt,zn];exact h5,qlk h9 (by omega)⟩
theorem qeb{g:Graph}{r:Record}(h:qbJ g r=false):0≤r.stamp.epoch∧r.stamp.epoch≤3:=by
 simp only[qbJ,qaC,qa1,inR,zy,zX,zj,zi]at h
 omega
theorem qHt{g:Graph}{w:Worker}{e:Int}(h:qaz g w=true)(he:0≤e∧e≤3):qaz g (qcI w e)=inR (w.sums.getD e.toNat 0+1) (-1000000) 1000000:=by
 obtain⟨k1,k2⟩:=qpQ (d:=1) h (e:=e) rfl (by omega)
 obtain⟨h1,h2,h3,h4,h5,h6,h7,h8,h9,h10⟩:=qby.1 h
 simp only[qaz,qcI,h1,h2,h3,h4,k1,h6,h7,h8,h10,k2,qci,zby,zbc,zcs,zbl,Bool.not_not]
theorem qHu{g:Graph}{w:Worker}{r:Record}(h:qaz g w=true)(hr:qbJ g r=false):qaz g (received w r)=inR (w.sums.getD r.stamp.epoch.toNat 0+-1) (-1000000) 1000000:=by
 have he:=qeb hr
 obtain⟨k1,k2⟩:=qpQ (d:=-1) h (e:=r.stamp.epoch) rfl (by omega)
 obtain⟨h1,h2,h3,h4,h5,h6,h7,h8,h9,h10⟩:=qby.1 h
 have hq:=qln.2 ⟨h1,hr⟩
 simp only[qaz,received,hq,h2,h3,h4,k1,zn,h6,h7,h8,h10,k2,qci,zby,zbc,zcs,zbl,Bool.not_not]
theorem qHv{g:Graph}{w:Worker}(h:qaz g w=true):qaz g (qaX g w).1=true:=by
 unfold qaX
 split
 ·split
  ·rename_i r t h1 h2 h3
   obtain⟨_,_,k3,k4,k5,k6,k7,k8,k9,k10⟩:=qby.1 h
   rw[h3]at k3 k8
   exact qby.2 ⟨qea.2 ⟨(qea.1 k3).1,rfl⟩,rfl,(qea.1 k3).2,k4,k5,k6,k7,qHo k8,k9,k10⟩
  ·exact h
 ·exact h
theorem qHw:∀{xs:List Cell},qbq xs=true→∀i a b,xs[i]?=some a→xs[i+1]?=some b→qa3 a b<0:=by
 intro xs h i a b h1 h2
 simp only[qbq,zS,zP]at h
 have hm:(a,b)∈xs.zip (xs.drop 1):=by
  refine qar (i:=i) ?_
  rw[List.getElem?_zip_eq_some]
  exact⟨h1,by rw[zA,Nat.add_comm];exact h2⟩
 have:=h _ hm
 simp only[qiz,zi]at this
 omega
def qec(a:Cell):List Int:=[a.epoch,a.op,a.key,a.val]
theorem qpR(a b:Cell):qa3 a b=cmpL (qec a) (qec b):=rfl
theorem qlo{a b c:Cell}(h1:qa3 a b<0)(h2:qa3 b c<0):qa3 a c<0:=by
 rw[qpR] at*
 exact qoE (qec a) (qec b) (qec c) rfl rfl h1 h2
theorem qHx{a b:Cell}(h1:¬qa3 a b<0)(h2:a≠b):qa3 b a<0:=by
 rw[qpR] at*
 refine Classical.byContradiction fun h=>h2 ?_
 have:=qoF (qec a) (qec b) rfl h1 h
 simp only[qec,zbr,and_true]at this
 obtain⟨x1,x2,x3,x4⟩:=this
 cases a;cases b
 simp only[Cell.mk.injEq]
 exact⟨x2,x1,x3,x4⟩
theorem qpS:∀{xs:List Cell},qbq xs=true→xs.Pairwise fun a b=>qa3 a b<0
 | [],_=>List.Pairwise.nil
 | [a],_=>List.pairwise_singleton _ a
 | a::b::xs,h=>by
  have ht:qbq (b::xs)=true:=by
   simp only[qbq,List.drop_succ_cons,zck,List.zip_cons_cons,zcg,Bool.not_or,zj]at h ⊢
   exact h.2
  have hs:=qpS ht
  have hab:=qHw h 0 a b rfl rfl
  refine List.Pairwise.cons (fun c hc=>?_) hs
  rcases zL.1 hc with rfl | hc
  ·exact hab
  ·exact qlo hab ((List.pairwise_cons.1 hs).1 c hc)
theorem qpT{xs:List Cell}(h:xs.Pairwise fun a b=>qa3 a b<0):qbq xs=true:=by
 simp only[qbq,zS,zP]
 rintro⟨a,b⟩ hp
 obtain⟨i,hi⟩:=List.getElem?_of_mem hp
 obtain⟨h1,h2⟩:=qg7 hi
 have hj:=lt_of h2
 have:=List.pairwise_iff_getElem.1 h i (i+1) (by omega) hj (by omega)
 rw[zu (by omega)]at h1 h2
 rw[zx h1,zx h2]at this
 replace this:qa3 a b<0:=this
 show ¬decide (qa3 a b≥0)=true
 simp only[zi]
 omega
theorem qpU{xs:List Cell}(x:Cell)(h:xs.Pairwise fun a b=>qa3 a b<0):(qbc xs x).Pairwise fun a b=>qa3 a b<0:=by
 unfold qbc
 split
 ·exact h
 ·rename_i hno
  have hx:∀a∈xs,a≠x:=by
   intro a ha e
   exact hno (zcj.2 ⟨a,ha,by simp[e]⟩)
  have hb:∀i a,xs[i]?=some a→i<qbT xs x→qa3 a x<0:=by
   intro i a ha hi
   unfold qbT at hi
   cases hf:xs.findIdx? (fun a=>!decide (qa3 a x<0)) with
   | none=>
    rw[zbs]at hf
    simpa using hf a (qar ha)
   | some k=>
    rw[hf]at hi
    simp only[zV]at hi
    rw[zai]at hf
    obtain⟨hk,_,h3⟩:=hf
    have:=h3 i hi
    rw[zu (by omega)]at ha
    rw[zx ha]at this
    simpa using this
  have ha:∀i a,xs[i]?=some a→qbT xs x≤i→qa3 x a<0:=by
   intro i a ha hi
   have hk:qbT xs x<xs.length:=by have:=lt_of ha;omega
   obtain⟨b,hb2⟩:=qai hk
   have h0:¬qa3 b x<0:=by
    unfold qbT at hb2 hk
    cases hf:xs.findIdx? (fun a=>!decide (qa3 a x<0)) with
    | none=>rw[hf]at hk;simp at hk
    | some k=>
     rw[hf]at hb2
     simp only[zV]at hb2
     rw[zai]at hf
     obtain⟨hk2,h2,_⟩:=hf
     rw[zu hk2]at hb2
     rw[zx hb2]at h2
     simpa using h2
   have hxb:=qHx h0 (hx b (qar hb2))
   rcases Nat.lt_or_eq_of_le hi with hlt | heq
   ·have hj:=lt_of ha
    have:=List.pairwise_iff_getElem.1 h (qbT xs x) i hk hj hlt
    rw[zu hk]at hb2
    rw[zu hj]at ha
    rw[zx hb2,zx ha]at this
    exact qlo hxb this
   ·rw[heq,ha]at hb2
    rw[zx hb2]
    exact hxb
  rw[List.pairwise_append]
  refine⟨h.sublist (List.take_sublist _ _),List.Pairwise.cons (fun c hc=>?_) (h.sublist (List.drop_sublist _ _)),fun a ha2 c hc=>?_⟩
  ·obtain⟨i,hi⟩:=List.getElem?_of_mem hc
   rw[zA]at hi
   exact ha _ _ hi (by omega)
  ·obtain⟨i,hi⟩:=List.getElem?_of_mem ha2
   rw[zF]at hi
   split at hi
   ·rename_i hlt
    have h1:=hb i a hi hlt
    rcases zL.1 hc with rfl | hc
    ·exact h1
    ·obtain⟨j,hj⟩:=List.getElem?_of_mem hc
     rw[zA]at hj
     exact qlo h1 (ha _ _ hj (by omega))
   ·cases hi
theorem qHy(kind:Int){xs:List Cell}(x:Cell)(h:qbq xs=true):qbq (qak kind xs x).1=true:=by
 have hs:=qpS h
 have h1:=qpT (qpU x hs)
 have h2:=qpT (qpU x (hs.sublist (List.filter_sublist (p:=fun a=>!qax x a))))
 unfold qak
 split
 ·split
  ·exact h
  ·exact h1
 ·split
  ·unfold qbe
   split
   ·exact h
   ·exact h2
  ·exact h
theorem qHz{g:Graph}{cs:List Cell}(r:Record)(h:qbq cs=true):qbq (qay g cs r).1=true:=by
 unfold qay
 cases qaH g r.op with
 | none=>exact h
 | some x=>
  have hr:=qHy x.kind ⟨r.op,r.stamp.epoch,r.key,r.val⟩ h
  simp only[qaq]
  split
  ·split
   ·exact h
   ·split
    ·exact hr
    ·split
     ·exact hr
     ·exact hr
  ·exact h
theorem qHA{x:Node}{k v:Int}(hx:qab x=true)(hi:qaB k v=true):qaB (qag x k v).1 (qag x k v).2.1=true:=by
 have hx':=hx
 simp only[qab,zj]at hx
 have ha:=hx.1.1.1.1
 have hi':=hi
 simp only[qaB,inR,zj,zi]at hi
 unfold qag
 rw[hx',hi',Bool.and_self,zp rfl]
 unfold abOk at ha
 split
 ·rename_i h2
  rw[zp h2]at ha
  simp only[inR,zj,zi]at ha
  have hl:0≤less (v+x.a) 999∧less (v+x.a) 999≤999:=by unfold less;split<;>omega
  simp only[qaB,inR,zj,zi]
  omega
 ·rename_i h2
  rw[zo h2]at ha
  split
  ·rename_i h4
   rw[zo (by omega),zp h4]at ha
   simp only[inR,zj,zi]at ha
   simp only[qaB,inR,zj,zi]
   rw[Int.tmod_eq_emod_of_nonneg (by omega)]
   omega
  ·split
   ·exact hi'
   ·exact hi'
theorem qHB{g:Graph}(h:qas g=true){op:Int}{x:Node}(hn:qaH g op=some x):qbv g op.toNat x=false:=by
 simp only[qas,zj,zS]at h
 unfold qaH at hn
 split at hn
 ·exact qiG h.2 hn
 ·cases hn
theorem qpV{g:Graph}(h:qas g=true){op:Int}{x:Node}(hn:qaH g op=some x){s:Stamp}{k v:Int}(hs:qa1 s=true)(hi:qaB k v=true):qaN g (sends x s k v)=true:=by
 have hb:=qHB h hn
 have hx:=qlj h hn
 simp only[qab,zj]at hx
 simp only[qbv,zy]at hb
 have he:=hb.2
 rw[zP]at he
 simp only[qaN,sends,List.any_map,zS,zP]
 intro o ho
 have h1:=qlh hx.2 ho
 have h2:=he o ho
 simp only[qaK,zbi,not_or,zi]at h2
 simp only[Function.comp,qbJ,qaC,h1,hs,hi,Bool.and_self,zZ,zal,zi]
 omega
theorem qHC{g:Graph}{cs:List Cell}{r:Record}:qaN g (qay g cs r).2.1=true:=by
 unfold qay
 cases hn:qaH g r.op with
 | none=>rfl
 | some x=>
  simp only[qaq]
  split
  ·rename_i hg
   rw[zj]at hg
   obtain⟨hg,hr⟩:=hg
   have hr':=hr
   simp only[qaC,zj]at hr
   have hc:=qHA (qlj hg hn) hr.2
   split
   ·rfl
   ·split
    ·rfl
    ·split
     ·cases ht:(qaA r.stamp).2 with
      | false=>rfl
      | true=>
       refine qpV hg hn ?_ hc
       unfold qaA at ht ⊢
       split
       ·rename_i h1
        simp only[zj,qa1,inR,zi]at h1 ⊢
        omega
       ·rename_i h1
        rw[zo h1]at ht
        cases ht
     ·exact qpV hg hn hr.1.2 hc
  ·rfl
theorem qHD{g:Graph}{w:Worker}(h:qaz g w=true):qaz g (qaW g w).1=true:=by
 unfold qaW
 split
 ·split
  ·rename_i r q h1 h2
   obtain⟨k1,k2,k3,k4,k5,k6,k7,k8,k9,k10⟩:=qby.1 h
   rw[h2,qea]at k1
   refine qby.2 ⟨k1.2,qHC,k3,qHz r k4,k5,k6,?_,k8,k9,k10⟩
   split
   ·rw[zn];exact k7
   ·exact k7
  ·exact h
 ·exact h
end Go.Proofs.YtdanpadojemjeaaGreat
namespace Go.Proofs.YtdanpadojemjeaaGreat
open Go.Sx Go.RowKit Go.Proofs.Tryz
theorem qed{l:Link}:qbl l=true↔inR l.cap 1 4=true∧inR l.credits 0 l.cap=true∧inR l.back 0 l.cap=true∧l.credits+l.back+l.queue.length=l.cap∧inR l.sent 0 1000000000=true∧0≤l.got∧l.got=l.sent-l.queue.length∧(l.queue.any fun r=>!qaC r)=false:=by
 simp only[qbl,zj,zS,zE,zi,and_assoc]
theorem qf4{g:Graph}{i:Nat}{l:Link}:qbm g i l=false↔qbl l=true∧l.cap=g.cap∧qaN g l.queue=true∧((i:Int).tdiv g.workers=(i:Int).tmod g.workers→l.queue=[]):=by
 simp only[qbm,zy,zX,bne_eq_false_iff_eq,Bool.and_eq_false_imp,zE,zf]
 refine and_congr_right fun _=>and_congr_right fun _=>and_congr_right fun _=>imp_congr_right fun _=>?_
 cases l.queue with
 | nil=>simp
 | cons a q=>simp
theorem qHE{g:Graph}{i:Nat}{l:Link}{r:Record}(h:qbm g i l=false)(hr:qbJ g r=false)(hs:(qaD l r).2=true)(hd:(i:Int).tdiv g.workers≠(i:Int).tmod g.workers):qbm g i (qaD l r).1=false:=by
 obtain⟨h1,h2,h3,h4⟩:=qf4.1 h
 unfold qaD at hs ⊢
 split
 ·rename_i hc
  simp only[zj,bne_iff_ne,zcc,zi]at hc
  obtain⟨⟨⟨_,hr2⟩,hcr⟩,hse⟩:=hc
  obtain⟨k1,k2,k3,k4,k5,k6,k7,k8⟩:=qed.1 h1
  refine qf4.2 ⟨qed.2 ⟨k1,?_,k3,?_,?_,k6,?_,?_⟩,h2,qln.2 ⟨h3,hr⟩,fun e=>(hd e).elim⟩
  ·simp only[inR,zi]at k2 ⊢;omega
  ·simp only[zab,zq,zh];omega
  ·simp only[inR,zi]at k5 ⊢;omega
  ·simp only[zab,zq,zh];omega
  ·simp only[List.any_append,k8,zcg,List.any_nil,hr2,zZ,Bool.or_false]
 ·rename_i hc
  rw[zo hc]at hs
  cases hs
theorem qlp{g:Graph}{i:Nat}{l:Link}(h:qbm g i l=false)(hs:(qav l).2.2=true):qbm g i (qav l).1=false∧qbJ g (qav l).2.1=false:=by
 obtain⟨h1,h2,h3,h4⟩:=qf4.1 h
 obtain⟨k1,k2,k3,k4,k5,k6,k7,k8⟩:=qed.1 h1
 unfold qav at hs ⊢
 rw[zp h1]at hs ⊢
 split
 ·rename_i hq
  rw[hq]at hs
  cases hs
 ·rename_i r q hq
  rw[hq]at h3 k8 k4 k7 h4
  rw[qea]at h3
  rw[zcg,zy]at k8
  simp only[zq]at k4 k7
  refine⟨qf4.2 ⟨qed.2 ⟨k1,k2,?_,?_,k5,?_,?_,k8.2⟩,h2,h3.2,fun e=>absurd (h4 e) (by simp)⟩,h3.1⟩
  ·simp only[inR,zi]at k2 k3 ⊢;omega
  ·dsimp only;omega
  ·dsimp only;omega
  ·dsimp only;omega
theorem qHF{g:Graph}{i:Nat}{l:Link}(h:qbm g i l=false):qbm g i (qa2 l).1=false:=by
 obtain⟨h1,h2,h3,h4⟩:=qf4.1 h
 obtain⟨k1,k2,k3,k4,k5,k6,k7,k8⟩:=qed.1 h1
 unfold qa2
 split
 ·rename_i hc
  simp only[zj,bne_iff_ne,zcc]at hc
  refine qf4.2 ⟨qed.2 ⟨k1,?_,?_,?_,k5,k6,k7,k8⟩,h2,h3,h4⟩
  ·simp only[inR,zi]at k2 k3 ⊢;omega
  ·simp only[inR,zi]at k2 k3 ⊢;omega
  ·dsimp only;omega
 ·exact h
theorem qiI{g:Graph}{a b:Int}(hn:1≤g.workers∧g.workers≤4)(ha:inR a 0 (g.workers-1)=true)(hb:inR b 0 (g.workers-1)=true):
  qaQ g a b=a*g.workers+b∧0≤a*g.workers+b∧a*g.workers+b<g.workers*g.workers∧(a*g.workers+b).tdiv g.workers=a∧(a*g.workers+b).tmod g.workers=b:=by
 have e:qaQ g a b=a*g.workers+b:=by unfold qaQ;rw[ha,hb];rfl
 simp only[inR,zi]at ha hb
 generalize g.workers=n at*
 have h0:0≤a*n+b:=by have:=Int.mul_nonneg ha.1 (show 0≤n by omega);omega
 rw[Int.tdiv_eq_ediv_of_nonneg h0,Int.tmod_eq_emod_of_nonneg h0]
 have hn4:n=1∨n=2∨n=3∨n=4:=by omega
 refine⟨e,h0,?_⟩
 rcases hn4 with rfl | rfl | rfl | rfl<;>omega
theorem qee{g:Graph}{a b:Int}(h:(inR a 0 (g.workers-1)&&inR b 0 (g.workers-1))=false):qaQ g a b=-1:=by
 unfold qaQ;rw[h];rfl
theorem qpW(key:Int){n:Int}(hn:1≤n):inR (qbd key n) 0 (n-1)=true:=by
 have h1:=qk9 key n (by omega)
 have h2:=Int.tmod_lt_of_pos key (show 0<n by omega)
 unfold qbd
 rw[zo (by omega)]
 simp only[inR,zi]
 split<;>omega
theorem qf5{c:Cluster}(h:qah c=true){a b:Int}(ha:inR a 0 (c.graph.workers-1)=true)(hb:inR b 0 (c.graph.workers-1)=true):∃l,lAt c (qaQ c.graph a b)=some l:=by
 obtain⟨h1,h2,h3,_⟩:=qaY.1 h
 obtain⟨e,h0,hlt,_⟩:=qiI (qbK h1) ha hb
 rw[e]
 unfold lAt
 rw[zp h0]
 exact qai (by omega)
theorem qHG{c:Cluster}{i:Int}{l:Link}(h:lAt c i=some l):((i.toNat:Nat):Int)=i:=by have:=(qd8 h).1;omega
theorem qg9{c:Cluster}{i:Int}(h0:0≤i)(h1:i<c.workers.length):∃x,wAt c i=some x:=by
 unfold wAt
 rw[zp h0]
 exact qai (by omega)
theorem qHH{c:Cluster}(h:qah c=true){e:Int}(he:inR e 0 3=true):∃t,tAt c e=some t:=by
 have h4:=(qaY.1 h).2.2.2.1
 simp only[inR,zi]at he
 unfold tAt
 rw[zp he.1]
 exact qai (by omega)
theorem qha{n:Int}{t:Token}:qbC n t=false↔(0≤t.place∧t.place≤n-1)∧(t.going=false→t.place=0)∧(-1000000≤t.sum∧t.sum≤1000000):=by
 simp only[qbC,inR,zy,zX,zi,Bool.and_eq_false_imp,zS,bne_eq_false_iff_eq]
theorem qhb{c:Cluster}{i j:Int}{l:Link}:wAt (setL c i l) j=wAt c j:=rfl
theorem qhc{c:Cluster}{i j:Int}{t:Token}:wAt (setT c i t) j=wAt c j:=rfl
theorem qpX{c:Cluster}{i:Int}{l:Link}:(setL c i l).graph=c.graph:=rfl
theorem qpY{c:Cluster}{i:Int}{t:Token}:(setT c i t).graph=c.graph:=rfl
theorem qHI{c:Cluster}{i:Int}{x:Worker}:(setW c i x).graph=c.graph:=rfl
theorem qHJ{c:Cluster}{w o:Int}{x:Worker}{r:Record}{t:List Record}{l:Link}(h:qah c=true)(hx:wAt c w=some x)(hs:x.staged=r::t)
  (ho:inR o 0 (c.graph.workers-1)=true) (hne:o≠w) (hl:lAt c (qaQ c.graph w o)=some l) (hsend:(qaD l r).2=true):
  qah (setW (setL c (qaQ c.graph w o) (qaD l r).1) w (qcI (qbE x t) r.stamp.epoch))=inR (x.sums.getD r.stamp.epoch.toNat 0+1) (-1000000) 1000000:=by
 obtain⟨h1,h2,_⟩:=qaY.1 h
 obtain⟨w0,w1,_⟩:=qc0 hx
 obtain⟨ok,hr⟩:=qiH (qcw h hx) hs
 obtain⟨e,p0,p1,p2,p3⟩:=qiI (qbK h1) (a:=w) (b:=o) (by simp only[inR,zi];omega) ho
 have hL:qah (setL c (qaQ c.graph w o) (qaD l r).1)=true:=by
  rw[qlm h hl,qHE (qg8 h hl) hr hsend]
  ·rfl
  ·rw[qHG hl,e,p2,p3];exact fun q=>hne q.symm
 rw[qd9 hL (qhb.trans hx),qpX,qHt ok (qeb hr)]
 rfl
theorem qHK{c:Cluster}{w:Int}{x:Worker}{r:Record}{t:List Record}(h:qah c=true)(hx:wAt c w=some x)(hs:x.staged=r::t):qah (setW c w (kept (qbE x t) r))=true:=by
 obtain⟨ok,hr⟩:=qiH (qcw h hx) hs
 rw[qd9 h hx,qHq ok hr]
theorem qHL{c:Cluster}{k b:Int}{x:Worker}{l:Link}(h:qah c=true)(hl:lAt c k=some l)(hx:wAt c b=some x)(ht:(qav l).2.2=true):
  qah (setW (setL c k (qav l).1) b (received x (qav l).2.1))=inR (x.sums.getD (qav l).2.1.stamp.epoch.toNat 0+-1) (-1000000) 1000000:=by
 obtain⟨k1,k2⟩:=qlp (qg8 h hl) ht
 have hL:qah (setL c k (qav l).1)=true:=by rw[qlm h hl,k1];rfl
 rw[qd9 hL (qhb.trans hx),qpX,qHu (qcw h hx) k2]
theorem qHM{c:Cluster}{w:Int}(h:qah c=true):qah (qbf c w).1=true:=by
 unfold qbf
 rw[zp h]
 split
 ·rename_i x hx;rw[qd9 h hx,qHD (qcw h hx)]
 ·exact h
theorem qHN{c:Cluster}{w:Int}(h:qah c=true):qah (qbg c w).1=true:=by
 unfold qbg
 rw[zp h]
 split
 ·rename_i x hx;rw[qd9 h hx,qHv (qcw h hx)]
 ·exact h
theorem qHO{c:Cluster}{a b:Int}(h:qah c=true):qah (qbi c a b).1=true:=by
 unfold qbi
 split
 ·split
  ·rename_i l hl;rw[qlm h hl,qHF (qg8 h hl)];rfl
  ·exact h
 ·exact h
theorem qpZ{n e:Int}{b:Bool}{m:Nat}(hm:(m:Int)=n-1)(he:inR e 0 3=true):(qa7 m e b).any (qbD n)=false:=by
 rw[zP]
 intro x hx
 simp only[qa7,zbm,List.mem_range]at hx
 obtain⟨k,hk,rfl⟩:=hx
 have h1:inR ((k:Int)+1) 0 (n-1)=true:=by simp only[inR,zi];omega
 simp only[qbD,h1,he,zZ,Bool.or_false,zao,not_false_eq_true]
theorem qHP{c:Cluster}{e:Int}{t:Token}{x x0:Worker}(h:qah c=true)(he:inR e 0 3=true)(ht:tAt c e=some t)(hx:wAt c t.place=some x)(h0:wAt c 0=some x0)(hd:qbV x0 e=false):qah (qaE c e t x).1=true:=by
 obtain⟨h1,h2,h3,h4,h5,h6,h7,h8⟩:=qaY.1 h
 have hn:=qbK h1
 obtain⟨t1,t2,t3⟩:=qha.1 (qpO h ht)
 have ok:=qcw h hx
 have setT_ok:∀t':Token,qbC c.graph.workers t'=false→qah (setT c e t')=true:=fun t' k=>by rw[qHn h ht,k];rfl
 have both:∀t':Token,qbC c.graph.workers t'=false→qah (setW (setT c e t') t.place (qbZ x e))=true:=fun t' k=>by
  rw[qd9 (setT_ok t' k) (qhc.trans hx),qpY,qHr ok]
 unfold qaE
 split
 ·split
  ·exact both _ (qha.2 ⟨by dsimp only;omega,by simp,by simp⟩)
  ·rename_i hg
   split
   ·split
    ·rename_i hp hr
     simp only[inR,zi]at hr
     exact both _ (qha.2 ⟨by dsimp only;omega,by simp,hr⟩)
    ·exact h
   ·rename_i hp
    have e0:t.place=0:=by omega
    have kt:=setT_ok ⟨false,t.place,t.sum,t.black,t.capped⟩ (qha.2 ⟨t1,fun _=>e0,t3⟩)
    split
    ·rw[e0]at hx
     have hxx:x0=x:=by rw[h0]at hx;exact zx hx
     have kw:qah (setW (setT c e ⟨false,t.place,t.sum,t.black,t.capped⟩) 0 (told x e (t.capped||x.caps.getD e.toNat false)))=true:=by
      rw[qd9 kt (qhc.trans hx),qpY]
      exact qpP ok he (hxx▸hd)
     rw[qpN kw,List.any_append]
     have e1:(setW (setT c e ⟨false,t.place,t.sum,t.black,t.capped⟩) 0 (told x e (t.capped||x.caps.getD e.toNat false))).graph=c.graph:=rfl
     rw[e1,h8,qpZ (by omega) he]
     rfl
    ·exact kt
 ·exact h
theorem qHQ{c:Cluster}{e:Int}(h:qah c=true):qah (qba c e).1=true:=by
 unfold qba
 split
 ·rename_i hc
  rw[zj]at hc
  split
  ·rename_i x0 t h0 ht
   split
   ·exact h
   ·rename_i hd
    split
    ·rename_i x hx;exact qHP h hc.2 ht hx h0 (by simpa using hd)
    ·exact h
  ·exact h
 ·exact h
theorem qp0{c:Cluster}{k:Nat}{n:News}(h:qah c=true)(hn:c.news[k]?=some n):qbD c.graph.workers n=false:=by
 have h8:=(qaY.1 h).2.2.2.2.2.2.2
 rw[zP]at h8
 simpa using h8 n (qar hn)
theorem qHR{α:Type}{p:α→Bool}{xs:List α}{k:Nat}(h:xs.any p=false):(cutAt xs k).any p=false:=by
 rw[zP]at h ⊢
 intro a ha
 rcases zaz.1 ha with ha | ha
 ·exact h a (zbh ha)
 ·exact h a (zbn ha)
theorem qHS{c:Cluster}{w:Int}(h:qah c=true):qah (qbs c w).1=true:=by
 unfold qbs
 split
 ·rw[zp h]
  split
  ·rename_i n x hn hx
   have hb:=qp0 h hn
   simp only[qbD,zy,zX]at hb
   have kw:qah (setW c w (hears x n))=true:=by rw[qd9 h hx,qHs (qcw h hx) hb.2]
   rw[qpN kw,qHI,qHR (qaY.1 h).2.2.2.2.2.2.2]
   rfl
  ·exact h
 ·exact h
theorem qlq{α:Type}{sz:α→Nat}{y:α}(x:α):∀{xs:List α} {i:Nat},xs[i]?=some y→szS sz (xs.set i x)+sz y=szS sz xs+sz x
 | [],i,h=>by simp at h
 | a::xs,0,h=>by
  obtain rfl:a=y:=by simpa using h
  simp only[szS,List.set_cons_zero,zq,zav,zcw]
  omega
 | a::xs,i+1,h=>by
  have:=qlq (sz:=sz) x (xs:=xs) (i:=i) (by simpa using h)
  simp only[szS,List.set_cons_succ,zq,zav,zcw]at this ⊢
  omega
theorem qef{c:Cluster}{i:Int}{x y:Worker}(h:wAt c i=some y):(setW c i x).sz+y.sz=c.sz+x.sz:=by
 have:=qlq (sz:=Worker.sz) x (qc0 h).2.2
 simp only[setW,Cluster.sz]
 omega
theorem qlr{c:Cluster}{i:Int}{x y:Link}(h:lAt c i=some y):(setL c i x).sz+y.sz=c.sz+x.sz:=by
 have:=qlq (sz:=Link.sz) x (qd8 h).2.2
 simp only[setL,Cluster.sz]
 omega
theorem qiJ{c:Cluster}{i:Int}{x:Token}:(setT c i x).sz=c.sz:=by
 simp only[setT,Cluster.sz,zn]
theorem qp1{c:Cluster}{x:List News}:(setN c x).sz+c.news.length=c.sz+x.length:=by
 simp only[setN,Cluster.sz]
 omega
theorem qHT(g:Graph)(w:Worker):(qaW g w).1.sz≤w.sz+2:=by
 unfold qaW
 split
 ·rename_i hc
  rw[zj]at hc
  split
  ·rename_i r q h1 h2
   have:=qG1 hc.1 w.cells r
   simp only[Worker.sz,h1,h2,zq,zh]
   split<;>(try simp only[zn])<;>omega
  ·exact Nat.le_add_right _ _
 ·exact Nat.le_add_right _ _
theorem qHU(g:Graph)(w:Worker):(qaX g w).1.sz≤w.sz:=by
 unfold qaX
 split
 ·split
  ·rename_i r t h1 h2 h3
   simp only[Worker.sz,h1,h2,h3,zq,zh]
   omega
  ·exact zO _
 ·exact zO _
theorem qp2{w:Worker}{r:Record}{t:List Record}(h:w.staged=r::t):(qbE w t).sz+1=w.sz:=by
 simp only[qbE,Worker.sz,h,zq];omega
theorem qHV(w:Worker)(r:Record):(kept w r).sz=w.sz+1:=by
 simp only[kept,Worker.sz,zab,zq,zh];omega
theorem qHW(w:Worker)(e:Int):(qcI w e).sz=w.sz:=by
 simp only[qcI,incAt,Worker.sz,zn]
theorem qHX(w:Worker)(r:Record):(received w r).sz=w.sz+1:=by
 simp only[received,incAt,Worker.sz,zn,zab,zq,zh];omega
theorem qHY(w:Worker)(e:Int):(qbZ w e).sz=w.sz:=by
 simp only[qbZ,Worker.sz,zn]
theorem qp3(w:Worker)(e:Int)(b:Bool):(told w e b).sz=w.sz+1:=by
 simp only[told,Worker.sz,zab,zq,zh];omega
theorem qHZ(w:Worker)(n:News):(hears w n).sz≤w.sz+1:=by
 unfold hears
 split
 ·omega
 ·rw[qp3];omega
theorem qH0(l:Link)(r:Record):(qaD l r).1.sz≤l.sz+1:=by
 unfold qaD
 split<;>simp[Link.sz]
theorem qH1(l:Link):(qav l).1.sz≤l.sz:=by
 unfold qav
 split
 ·split
  ·exact zO _
  ·rename_i h;simp[Link.sz,h]
 ·exact zO _
theorem qH2(l:Link):(qa2 l).1.sz=l.sz:=by
 unfold qa2
 split<;>rfl
theorem qH3{α:Type}(xs:List α)(k:Nat):(cutAt xs k).length≤xs.length:=by
 simp only[cutAt,zab,zay,List.length_drop];omega
theorem qH4{c:Cluster}{e:Int}{t:Token}{x:Worker}(hw:c.workers.length≤4)(hx:wAt c t.place=some x)(h0:0≤t.place):(qaE c e t x).1.sz≤c.sz+4:=by
 unfold qaE
 have w1:∀t',(setW (setT c e t') t.place (qbZ x e)).sz+x.sz=c.sz+x.sz:=fun t'=>by
  have:=qef (c:=setT c e t') (x:=qbZ x e) (qhc.trans hx)
  rwa[qiJ,qHY]at this
 split
 ·split
  ·have:=w1 ⟨true,(c.workers.length:Int)-1,0,false,x.caps.getD e.toNat false⟩
   dsimp only;omega
  ·split
   ·split
    ·have:=w1 ⟨true,t.place-1,t.sum+x.sums.getD e.toNat 0,t.black||x.black.getD e.toNat false,t.capped||x.caps.getD e.toNat false⟩
     dsimp only;omega
    ·dsimp only;omega
   ·rename_i hp
    have e0:t.place=0:=by omega
    split
    ·rw[e0]at hx
     have a:=qef (c:=setT c e ⟨false,t.place,t.sum,t.black,t.capped⟩) (x:=told x e (t.capped||x.caps.getD e.toNat false)) (qhc.trans hx)
     rw[qiJ,qp3]at a
     have b:=qp1 (c:=setW (setT c e ⟨false,t.place,t.sum,t.black,t.capped⟩) 0 (told x e (t.capped||x.caps.getD e.toNat false))) (x:=c.news++qa7 (c.workers.length-1) e (t.capped||x.caps.getD e.toNat false))
     have d:(setW (setT c e ⟨false,t.place,t.sum,t.black,t.capped⟩) 0 (told x e (t.capped||x.caps.getD e.toNat false))).news=c.news:=rfl
     rw[d]at b
     simp only[zab,qa7,zb,zct]at b
     dsimp only
     simp only[qa7]
     omega
    ·dsimp only;rw[qiJ];omega
 ·dsimp only;omega
theorem qH5{c:Cluster}(h:qah c=true):c.workers.length≤4:=by
 obtain⟨h1,h2,_⟩:=qaY.1 h
 have:=qbK h1
 omega
theorem qH6(c:Cluster)(p:Pick):(stepPick c p).1.sz≤c.sz+4:=by
 have k0:c.sz≤c.sz+4:=by omega
 unfold stepPick
 split
 ·unfold qbf
  split
  ·split
   ·rename_i x hx
    have:=qef (x:=(qaW c.graph x).1) hx
    have:=qHT c.graph x
    dsimp only;omega
   ·exact k0
  ·exact k0
 split
 ·unfold qbg
  split
  ·split
   ·rename_i x hx
    have:=qef (x:=(qaX c.graph x).1) hx
    have:=qHU c.graph x
    dsimp only;omega
   ·exact k0
  ·exact k0
 split
 ·unfold qbh
  split
  ·split
   ·rename_i x hx
    split
    ·rename_i r t hs
     have hu:=qp2 hs
     unfold qff
     split
     ·have:=qef (x:=kept (qbE x t) r) hx
      rw[qHV]at this
      dsimp only;omega
     ·split
      ·rename_i l hl
       split
       ·have a:=qlr (x:=(qaD l r).1) hl
        have b:=qef (c:=setL c (qaQ c.graph p.a (qbd r.key c.graph.workers)) (qaD l r).1) (x:=qcI (qbE x t) r.stamp.epoch) (qhb.trans hx)
        rw[qHW]at b
        have:=qH0 l r
        dsimp only;omega
       ·exact k0
      ·exact k0
    ·exact k0
   ·exact k0
  ·exact k0
 split
 ·unfold qbr
  split
  ·split
   ·rename_i l x hl hx
    split
    ·have a:=qlr (x:=(qav l).1) hl
     have b:=qef (c:=setL c (qaQ c.graph p.a p.b) (qav l).1) (x:=received x (qav l).2.1) (qhb.trans hx)
     rw[qHX]at b
     have:=qH1 l
     dsimp only;omega
    ·exact k0
   ·exact k0
  ·exact k0
 split
 ·unfold qbi
  split
  ·split
   ·rename_i l hl
    have a:=qlr (x:=(qa2 l).1) hl
    have:=qH2 l
    dsimp only;omega
   ·exact k0
  ·exact k0
 split
 ·unfold qba
  split
  ·rename_i hc
   rw[zj]at hc
   split
   ·rename_i x0 t h0 ht
    split
    ·exact k0
    ·split
     ·rename_i x hx;exact qH4 (qH5 hc.1) hx (qc0 hx).1
     ·exact k0
   ·exact k0
  ·exact k0
 split
 ·unfold qbs
  split
  ·rename_i k hk
   split
   ·split
    ·rename_i n x hn hx
     have a:=qef (x:=hears x n) hx
     have b:=qp1 (c:=setW c p.a (hears x n)) (x:=cutAt c.news k)
     have d:(setW c p.a (hears x n)).news=c.news:=rfl
     rw[d]at b
     have:=qHZ x n
     have:=qH3 c.news k
     dsimp only;omega
    ·exact k0
   ·exact k0
  ·exact k0
 ·exact k0
end Go.Proofs.YtdanpadojemjeaaGreat
