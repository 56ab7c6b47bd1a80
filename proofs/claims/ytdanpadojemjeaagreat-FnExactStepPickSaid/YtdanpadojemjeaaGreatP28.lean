/- ClusterOk, SafeCluster: what program and reference compute; the law SafeCluster answers true. -/
import Derived.Test.YtdanpadojemjeaaGreatP11
import Derived.Test.YtdanpadojemjeaaGreatP16
set_option linter.unusedVariables false
set_option linter.unusedSimpArgs false
namespace Go.Proofs.YtdanpadojemjeaaGreat
open Go.Sx Go.RowKit Go.Proofs.Tryz
def qij(p:Cell×Cell):Bool:=decide (qa9 p.1 p.2≥0)
def qbt(xs:List Cell):Bool:=!((xs.zip (xs.drop 1)).any qij)
theorem qgZ{xs:List Cell}{i:Nat}{p:Cell×Cell}(h:(xs.zip (xs.drop 1))[i]?=some p):xs[i]?=some p.1∧xs[i+1]?=some p.2:=by
 rw[List.getElem?_zip_eq_some]at h
 obtain⟨h1,h2⟩:=h
 rw[zA,Nat.add_comm]at h2
 exact⟨h1,h2⟩
theorem qHS(xs:List Cell)(hl:xs.length≤8388608):Rt 227 [.one (.sl 4 (xs.map Cell.e))] [.one (B (qbt xs))]:=by
 have e0:∀i:Nat,(((i:Int)+1)-1).toNat=i:=fun i=>by omega
 have e1:∀i:Nat,(((i:Int)+1)).toNat=i+1:=fun i=>by omega
 have hz:(xs.zip (xs.drop 1)).length=xs.length-1:=by simp
 have l:=qaT (P:=prog) (c:=(qaa f227 0)) (xs.zip (xs.drop 1)) qij (fun i=>qdL (xs.map Cell.e) ((i:Int)+1)) (X:=fun _ _=>qkp false) qav (qaf 0)
  (fun i a ha h=>by
   obtain⟨h1,h2⟩:=qgZ ha
   have hi:=lt_of h2
   refine tr_to (qdL (xs.map Cell.e)) (qAu ⟨dT (by simp only[zb];omega),⟨by omega,by omega⟩,by omega,by simp only[zb];omega,by rw[e0,zp,h1];rfl,by omega,by simp only[zb];omega,by rw[e1,zp,h2];rfl,qhY a.1 a.2,h,⟨by omega,by omega⟩,trivial⟩) (by omega))
  (fun i a ha h=>by
   obtain⟨h1,h2⟩:=qgZ ha
   have hi:=lt_of h2
   exact qAt ⟨dT (by simp only[zb];omega),⟨by omega,by omega⟩,by omega,by simp only[zb];omega,by rw[e0,zp,h1];rfl,by omega,by simp only[zb];omega,by rw[e1,zp,h2];rfl,qhY a.1 a.2,h,trivial⟩)
  (qAv ⟨dF (by rw[hz];simp only[zb];omega),trivial⟩)
 unfold qbt
 rcases l with⟨_,_,h1,h2⟩ | ⟨i,a,_,_,_,_,h1,h2⟩
 ·rw[h1];exact qAx ⟨h2,trivial⟩
 ·rw[h1];exact qAw ⟨h2,trivial⟩
theorem qo8(xs:List Cell)(r:Bool)(h:qbt xs=r)(hl:xs.length≤8388608):Rt 227 [.one (.sl 4 (xs.map Cell.e))] [.one (B r)]:=h▸qHS xs hl
theorem qHT(xs:List Cell)(hl:xs.length≤8388608):Rt 198 [.one (.sl 4 (xs.map Cell.e))] [.one (B (qbt xs))]:=by
 have e0:∀i:Nat,(((i:Int)+1)-1).toNat=i:=fun i=>by omega
 have e1:∀i:Nat,(((i:Int)+1)).toNat=i+1:=fun i=>by omega
 have hz:(xs.zip (xs.drop 1)).length=xs.length-1:=by simp
 have l:=qaT (P:=prog) (c:=(qaa f198 0)) (xs.zip (xs.drop 1)) qij (fun i=>qdM (xs.map Cell.e) ((i:Int)+1)) (X:=fun _ _=>qkq false) qav (qaf 0)
  (fun i a ha h=>by
   obtain⟨h1,h2⟩:=qgZ ha
   have hi:=lt_of h2
   refine tr_to (qdM (xs.map Cell.e)) (qAz ⟨dT (by simp only[zb];omega),⟨by omega,by omega⟩,by omega,by simp only[zb];omega,by rw[e0,zp,h1];rfl,by omega,by simp only[zb];omega,by rw[e1,zp,h2];rfl,qhX a.1 a.2,h,⟨by omega,by omega⟩,trivial⟩) (by omega))
  (fun i a ha h=>by
   obtain⟨h1,h2⟩:=qgZ ha
   have hi:=lt_of h2
   exact qAy ⟨dT (by simp only[zb];omega),⟨by omega,by omega⟩,by omega,by simp only[zb];omega,by rw[e0,zp,h1];rfl,by omega,by simp only[zb];omega,by rw[e1,zp,h2];rfl,qhX a.1 a.2,h,trivial⟩)
  (qAA ⟨dF (by rw[hz];simp only[zb];omega),trivial⟩)
 unfold qbt
 rcases l with⟨_,_,h1,h2⟩ | ⟨i,a,_,_,_,_,h1,h2⟩
 ·rw[h1];exact qAC ⟨h2,trivial⟩
 ·rw[h1];exact qAB ⟨h2,trivial⟩
theorem qo9(xs:List Cell)(r:Bool)(h:qbt xs=r)(hl:xs.length≤8388608):Rt 198 [.one (.sl 4 (xs.map Cell.e))] [.one (B r)]:=h▸qHT xs hl
def qbN(g:Graph)(r:Record):Bool:=!qaF r||decide (r.op≥(g.nodes.length:Int))
def qaP(g:Graph)(xs:List Record):Bool:=!(xs.any (qbN g))
theorem qHU{r:Record}(h:qaF r=true):0≤r.op:=by
 simp only[qaF,zj,inR,zi]at h
 omega
theorem qHV(g:Graph)(xs:List Record)(hl:xs.length≤8388608):Rt 189 [.agg g.e,.one (.sl 5 (xs.map Record.e))] [.one (B (qaP g xs))]:=by
 have l:=qaT (P:=prog) (c:=(qaa f189 0)) xs (qbN g) (fun i=>qdN (g.nodes.map Node.e) g.workers g.cap (xs.map Record.e) i) (X:=fun _ _=>qh9 false) qav (qaf 0)
  (fun i a ha h=>by
   simp only[qbN,zy,zW]at h
   have c:=qeT a
   rw[h.1]at c
   exact qAF ⟨lt1 (lt_of ha),lt0,lt2 (lt_of ha),qac Record.e ha,c,rfl,lt0,lt2 (lt_of ha),qac Record.e ha,by rw[zb];exact h.2,up1 (lt_of ha) hl,trivial⟩)
  (fun i a ha h=>by
   have c:=qeT a
   cases hr:qaF a with
   | false=>
    rw[hr]at c
    exact qAD ⟨lt1 (lt_of ha),lt0,lt2 (lt_of ha),qac Record.e ha,c,rfl,trivial⟩
   | true=>
    rw[hr]at c
    simp only[qbN,hr,zY,zaj]at h
    exact qAE ⟨lt1 (lt_of ha),lt0,lt2 (lt_of ha),qac Record.e ha,c,rfl,lt0,lt2 (lt_of ha),qac Record.e ha,by rw[zb];exact h,trivial⟩)
  (qAG ⟨ge1,trivial⟩)
 unfold qaP
 rcases l with⟨_,_,h1,h2⟩ | ⟨i,a,_,_,_,_,h1,h2⟩
 ·rw[h1];exact qAI ⟨h2,trivial⟩
 ·rw[h1];exact qAH ⟨h2,trivial⟩
theorem qpa{g:Graph}{r:Record}(h:qaF r=true):(qaM g r.op).isSome=!(decide (r.op≥(g.nodes.length:Int))):=by
 have h0:=qHU h
 unfold qaM
 rw[zq h0]
 by_cases hc:r.op≥(g.nodes.length:Int)
 ·rw[dT hc,List.getElem?_eq_none (by omega)];rfl
 ·rw[dF hc,zt (by omega)];rfl
theorem qHW(g:Graph)(xs:List Record)(hg:g.sz≤8388608)(hl:xs.length≤8388608):Rt 125 [.agg g.e,.one (.sl 5 (xs.map Record.e))] [.one (B (qaP g xs))]:=by
 have l:=qaT (P:=prog) (c:=(qaa f125 0)) xs (qbN g) (fun i=>qdO (xs.map Record.e) i (g.nodes.map Node.e) g.workers g.cap) (X:=fun _ _=>qia false) qav (qaf 0)
  (fun i a ha h=>by
   simp only[qbN,zy,zW]at h
   have c:=qdU a
   rw[h.1]at c
   exact qAL ⟨lt1 (lt_of ha),lt0,lt2 (lt_of ha),qac Record.e ha,c,rfl,qfO g a.op true (by rw[qpa h.1,h.2];rfl) hg,rfl,up1 (lt_of ha) hl,trivial⟩)
  (fun i a ha h=>by
   have c:=qdU a
   cases hr:qaF a with
   | false=>
    rw[hr]at c
    exact qAJ ⟨lt1 (lt_of ha),lt0,lt2 (lt_of ha),qac Record.e ha,c,rfl,trivial⟩
   | true=>
    rw[hr]at c
    simp only[qbN,hr,zY,zaj]at h
    exact qAK ⟨lt1 (lt_of ha),lt0,lt2 (lt_of ha),qac Record.e ha,c,rfl,qfO g a.op false (by rw[qpa hr,h];rfl) hg,rfl,trivial⟩)
  (qAM ⟨ge1,trivial⟩)
 unfold qaP
 rcases l with⟨_,_,h1,h2⟩ | ⟨i,a,_,_,_,_,h1,h2⟩
 ·rw[h1];exact qAO ⟨h2,trivial⟩
 ·rw[h1];exact qAN ⟨h2,trivial⟩
theorem qeZ(g:Graph)(xs:List Record)(r:Bool)(h:qaP g xs=r)(_:g.sz≤8388608)(hl:xs.length≤8388608):Rt 189 [.agg g.e,.one (.sl 5 (xs.map Record.e))] [.one (B r)]:=h▸qHV g xs hl
theorem qe0(g:Graph)(xs:List Record)(r:Bool)(h:qaP g xs=r)(hg:g.sz≤8388608)(hl:xs.length≤8388608):Rt 125 [.agg g.e,.one (.sl 5 (xs.map Record.e))] [.one (B r)]:=h▸qHW g xs hg hl
def qbm(l:Link):Bool:=
 inR l.cap 1 4&&inR l.credits 0 l.cap&&inR l.back 0 l.cap&&(l.credits+l.back+l.queue.length==l.cap)&&inR l.sent 0 1000000000&&decide (0≤l.got)&&(l.got==l.sent-l.queue.length)&&!(l.queue.any fun r=>!qaF r)
theorem qHX(xs:List Record)(hl:xs.length≤8388608):Rt 199 [.one (.sl 5 (xs.map Record.e))] [.one (B (!(xs.any fun r=>!qaF r)))]:=by
 have l:=qaT (P:=prog) (c:=(qaa f199 0)) xs (fun r=>!qaF r) (fun i=>qeO (xs.map Record.e) i) (X:=fun _ _=>qkz false) qav (qaf 0)
  (fun i a ha h=>qBY ⟨lt1 (lt_of ha),lt0,lt2 (lt_of ha),qac Record.e ha,qdU a,h,up1 (lt_of ha) hl,trivial⟩)
  (fun i a ha h=>qBX ⟨lt1 (lt_of ha),lt0,lt2 (lt_of ha),qac Record.e ha,qdU a,h,trivial⟩)
  (qBZ ⟨ge1,trivial⟩)
 rcases l with⟨_,_,h1,h2⟩ | ⟨i,a,_,_,_,_,h1,h2⟩
 ·rw[h1];exact qB1 ⟨h2,trivial⟩
 ·rw[h1];exact qB0 ⟨h2,trivial⟩
theorem qik(l:Link)(hl:l.sz≤8388608)(hgot:l.got≤9223372036854775807):Rt 124 [.agg l.e] [.one (B (qbm l))]:=by
 have hq:l.queue.length≤8388608:=hl
 have c1:=qbB l.cap 1 4
 have c2:=qbB l.credits 0 l.cap
 have c3:=qbB l.back 0 l.cap
 have c4:=qbB l.sent 0 1000000000
 have c5:=qHX l.queue hq
 unfold qbm
 cases h1:inR l.cap 1 4 with
 | false=>rw[h1]at c1;exact qBP ⟨c1,rfl,trivial⟩
 | true=>
 cases h2:inR l.credits 0 l.cap with
 | false=>rw[h1]at c1;rw[h2]at c2;exact qBQ ⟨c1,rfl,c2,rfl,trivial⟩
 | true=>
 cases h3:inR l.back 0 l.cap with
 | false=>rw[h1]at c1;rw[h2]at c2;rw[h3]at c3;exact qBR ⟨c1,rfl,c2,rfl,c3,rfl,trivial⟩
 | true=>
 have k1:=h1
 have k2:=h2
 have k3:=h3
 simp only[inR,zi]at k1 k2 k3
 rw[h1]at c1;rw[h2]at c2;rw[h3]at c3
 have u1:inInt .i64 (l.credits+l.back):=⟨by omega,by omega⟩
 have u2:inInt .i64 (l.credits+l.back+(↑(l.queue.map Record.e).length:Int)):=⟨by simp only[zb];omega,by simp only[zb];omega⟩
 cases h4:(l.credits+l.back+(l.queue.length:Int)==l.cap) with
 | false=>exact qBS ⟨c1,rfl,c2,rfl,c3,rfl,u1,u2,by rw[zb];simpa using h4,trivial⟩
 | true=>
 have v4:(l.credits+l.back+(↑(l.queue.map Record.e).length:Int) != l.cap)=false:=by rw[zb];simpa using h4
 cases h5:inR l.sent 0 1000000000 with
 | false=>rw[h5]at c4;exact qBT ⟨c1,rfl,c2,rfl,c3,rfl,u1,u2,v4,c4,rfl,trivial⟩
 | true=>
 have k5:=h5
 simp only[inR,zi]at k5
 rw[h5]at c4
 by_cases h6:l.got<0
 ·rw[dF (show ¬0≤l.got by omega)]
  exact qBU ⟨c1,rfl,c2,rfl,c3,rfl,u1,u2,v4,c4,rfl,dT h6,trivial⟩
 ·rw[dT (show 0≤l.got by omega)]
  have u3:inInt .i64 (l.sent-l.got):=⟨by omega,by omega⟩
  ·by_cases h7:l.got=l.sent-(l.queue.length:Int)
   ·rw[show (l.got==l.sent-(l.queue.length:Int))=true from by simpa using h7]
    exact qBW ⟨c1,rfl,c2,rfl,c3,rfl,u1,u2,v4,c4,rfl,dF h6,u3,by rw[zb];simp;omega,c5,trivial⟩
   ·rw[show (l.got==l.sent-(l.queue.length:Int))=false from by simpa using h7]
    exact qBV ⟨c1,rfl,c2,rfl,c3,rfl,u1,u2,v4,c4,rfl,dF h6,u3,by rw[zb];simp;omega,trivial⟩
theorem qil(l:Link)(hl:l.sz≤8388608):Rt 188 [.agg l.e] [.one (B (qbm l))]:=by
 have hq:l.queue.length≤8388608:=hl
 have lp:=qaT (P:=prog) (c:=(qaa f188 0)) l.queue (fun r=>!qaF r) (fun i=>qcn l.cap (l.queue.map Record.e) l.credits l.back l.sent l.got i) (X:=fun _ _=>qky false) qav (qaf 0)
  (fun i a ha h=>qBF ⟨lt1 (lt_of ha),lt0,lt2 (lt_of ha),qac Record.e ha,qeT a,h,up1 (lt_of ha) hq,trivial⟩)
  (fun i a ha h=>qBE ⟨lt1 (lt_of ha),lt0,lt2 (lt_of ha),qac Record.e ha,qeT a,h,trivial⟩)
  (qBG ⟨ge1,trivial⟩)
 unfold qbm
 rcases lp with⟨_,_,h0,lp⟩ | ⟨i,a,_,_,_,_,h0,lp⟩
 case inr=>
  rw[h0,zY,Bool.and_false]
  exact qBH ⟨lp,trivial⟩
 rw[h0,zaz,zco]
 have c1:=qbf l.cap 1 4
 have c2:=qbf l.credits 0 l.cap
 have c3:=qbf l.back 0 l.cap
 have c4:=qbf l.sent 0 1000000000
 cases h1:inR l.cap 1 4 with
 | false=>rw[h1]at c1;exact qBO ⟨lp,c1,rfl,trivial⟩
 | true=>
 cases h2:inR l.credits 0 l.cap with
 | false=>rw[h1]at c1;rw[h2]at c2;exact qBN ⟨lp,c1,rfl,c2,rfl,trivial⟩
 | true=>
 cases h3:inR l.back 0 l.cap with
 | false=>rw[h1]at c1;rw[h2]at c2;rw[h3]at c3;exact qBM ⟨lp,c1,rfl,c2,rfl,c3,rfl,trivial⟩
 | true=>
 have k1:=h1
 have k2:=h2
 have k3:=h3
 simp only[inR,zi]at k1 k2 k3
 rw[h1]at c1;rw[h2]at c2;rw[h3]at c3
 have u1:inInt .i64 (l.credits+l.back):=⟨by omega,by omega⟩
 have u2:inInt .i64 (l.credits+l.back+(↑(l.queue.map Record.e).length:Int)):=⟨by simp only[zb];omega,by simp only[zb];omega⟩
 cases h4:(l.credits+l.back+(l.queue.length:Int)==l.cap) with
 | false=>exact qBL ⟨lp,c1,rfl,c2,rfl,c3,rfl,u1,u2,by rw[zb];exact h4,trivial⟩
 | true=>
 have v4:(l.credits+l.back+(↑(l.queue.map Record.e).length:Int)==l.cap)=true:=by rw[zb];exact h4
 cases h5:inR l.sent 0 1000000000 with
 | false=>rw[h5]at c4;exact qBK ⟨lp,c1,rfl,c2,rfl,c3,rfl,u1,u2,v4,c4,rfl,trivial⟩
 | true=>
 have k5:=h5
 simp only[inR,zi]at k5
 rw[h5]at c4
 have u3:inInt .i64 (l.sent-(↑(l.queue.map Record.e).length:Int)):=⟨by simp only[zb];omega,by simp only[zb];omega⟩
 cases h7:(l.got==l.sent-(l.queue.length:Int)) with
 | false=>
  rw[Bool.and_false]
  exact qBJ ⟨lp,c1,rfl,c2,rfl,c3,rfl,u1,u2,v4,c4,rfl,u3,by rw[zb];exact h7,trivial⟩
 | true=>
  rw[zco]
  exact qBI ⟨lp,c1,rfl,c2,rfl,c3,rfl,u1,u2,v4,c4,rfl,u3,by rw[zb];exact h7,trivial⟩
end Go.Proofs.YtdanpadojemjeaaGreat
namespace Go.Proofs.YtdanpadojemjeaaGreat
open Go.Sx Go.RowKit Go.Proofs.Tryz
def inBad(xs:List Record)(i:Nat)(r:Record):Bool:=
 r.op != 0||r.stamp.turn != 0||(match i with | 0=>false | j+1=>match xs[j]? with | some q=>decide (q.stamp.epoch>r.stamp.epoch) | none=>false)
theorem qpb{xs:List Record}{i:Nat}{a:Record}(ha:xs[i]?=some a)(h:inBad xs i a=true):
  (a.op != 0)=true∨((a.op != 0)=false∧(a.stamp.turn != 0)=true)∨((a.op != 0)=false∧(a.stamp.turn != 0)=false∧∃j b,i=j+1∧xs[j]?=some b∧decide (b.stamp.epoch>a.stamp.epoch)=true):=by
 unfold inBad at h
 cases h1:(a.op != 0) with
 | true=>exact .inl rfl
 | false=>
 cases h2:(a.stamp.turn != 0) with
 | true=>exact .inr (.inl ⟨rfl,rfl⟩)
 | false=>
 rw[h1,h2,zaj,zaj]at h
 cases i with
 | zero=>cases h
 | succ j=>
  have hj:j<xs.length:=by have:=lt_of ha;omega
  obtain⟨b,hb⟩:=qah hj
  simp only[hb]at h
  exact .inr (.inr ⟨rfl,rfl,j,b,rfl,hb,h⟩)
theorem qpc{xs:List Record}{i:Nat}{a:Record}(ha:xs[i]?=some a)(h:inBad xs i a=false):
  (a.op != 0)=false∧(a.stamp.turn != 0)=false∧(i=0∨∃j b,i=j+1∧xs[j]?=some b∧decide (b.stamp.epoch>a.stamp.epoch)=false):=by
 unfold inBad at h
 rw[zy,zy]at h
 obtain⟨⟨h1,h2⟩,h⟩:=h
 refine⟨h1,h2,?_⟩
 cases i with
 | zero=>exact .inl rfl
 | succ j=>
  have hj:j<xs.length:=by have:=lt_of ha;omega
  obtain⟨b,hb⟩:=qah hj
  simp only[hb]at h
  exact .inr ⟨j,b,rfl,hb,h⟩
theorem qim{α:Type}(f:α→List D){xs:List α}{j:Nat}{b:α}(h:xs[j]?=some b):(xs.map f)[(((j+1:Nat):Int)-1).toNat]?=some (f b):=by
 rw[show (((j+1:Nat):Int)-1)=(j:Int) by omega]
 exact qac f h
theorem qin{α β:Type}{f:α→β}{xs:List α}{j:Nat}{b:α}(h:xs[j]?=some b):(((j+1:Nat):Int)-1)<(↑(xs.map f).length:Int):=by
 have:=lt_of h
 rw[zb];omega
def qcc(n:Int):Bool:=!inR n (-1000000) 1000000
def qbV(xs:List Done)(i:Nat)(d:Done):Bool:=!inR d.epoch 0 3||(xs.take i).any (fun q=>q.epoch==d.epoch)
theorem len4{α β:Type}{f:α→β}{xs:List α}(h:(xs.length==4)=true):((↑(xs.map f).length:Int) != 4)=false:=by
 rw[zb,eq_of_beq h];rfl
theorem len4'{α β:Type}{f:α→β}{xs:List α}(h:(xs.length==4)=false):((↑(xs.map f).length:Int) != 4)=true:=by
 rw[zb]
 have:=ne_of_beq_false h
 simp only[bne_iff_ne,zcb];omega
def qaz(g:Graph)(w:Worker):Bool:=
 qaP g w.queue&&(qaP g w.staged&&(qaP g w.inputs&&(qbt w.cells&&((w.sums.length==4)&&((w.black.length==4)&&((w.caps.length==4)&&(!anyI (inBad w.inputs) 0 w.inputs&&(!(w.sums.any qcc)&&!anyI (qbV w.dones) 0 w.dones))))))))
theorem Worker.staged_le{w:Worker}(h:w.sz≤8388608):w.staged.length≤8388608:=by simp only[Worker.sz]at h;omega
theorem Worker.cells_le'{w:Worker}(h:w.sz≤8388608):w.cells.length≤8388608:=by simp only[Worker.sz]at h;omega
theorem Worker.sums_le{w:Worker}(h:w.sz≤8388608):w.sums.length≤8388608:=by simp only[Worker.sz]at h;omega
theorem Worker.dones_le'{w:Worker}(h:w.sz≤8388608):w.dones.length≤8388608:=by simp only[Worker.sz]at h;omega
theorem qHY(w:Worker)(hl:w.inputs.length≤8388608):
  (anyI (inBad w.inputs) 0 w.inputs=false∧qam prog (qaa f187 0) (qb2 (w.queue.map Record.e) (w.staged.map Record.e) (w.inputs.map Record.e) (w.cells.map Cell.e) (w.sums.map eI) (w.black.map eB) (w.caps.map eB) (w.dones.map Done.e) 0) (.exit 0) (qgT (w.queue.map Record.e) (w.staged.map Record.e) (w.inputs.map Record.e) (w.cells.map Cell.e) (w.sums.map eI) (w.black.map eB) (w.caps.map eB) (w.dones.map Done.e)))∨
  (anyI (inBad w.inputs) 0 w.inputs=true∧qam prog (qaa f187 0) (qb2 (w.queue.map Record.e) (w.staged.map Record.e) (w.inputs.map Record.e) (w.cells.map Cell.e) (w.sums.map eI) (w.black.map eB) (w.caps.map eB) (w.dones.map Done.e) 0) .ret (qgS false)):=
 qdE (P:=prog) (c:=(qaa f187 0)) w.inputs (inBad w.inputs) (fun i=>qb2 (w.queue.map Record.e) (w.staged.map Record.e) (w.inputs.map Record.e) (w.cells.map Cell.e) (w.sums.map eI) (w.black.map eB) (w.caps.map eB) (w.dones.map Done.e) i) qav (qaf 0)
  (fun i a ha h=>by
   have hi:=lt_of ha
   obtain⟨h1,h2,rfl | ⟨j,b,rfl,hb,h3⟩⟩:=qpc ha h
   ·exact qA0 ⟨lt1 (lt_of ha),lt0,lt2 (lt_of ha),qac Record.e ha,h1,lt0,lt2 (lt_of ha),qac Record.e ha,h2,dF (by omega),up1 (lt_of ha) hl,trivial⟩
   ·exact qAZ ⟨lt1 (lt_of ha),lt0,lt2 (lt_of ha),qac Record.e ha,h1,lt0,lt2 (lt_of ha),qac Record.e ha,h2,dT (by omega),⟨by omega,by omega⟩,by omega,qin hb,qim Record.e hb,lt0,lt2 (lt_of ha),qac Record.e ha,h3,up1 (lt_of ha) hl,trivial⟩)
  (fun i a ha h=>by
   have hi:=lt_of ha
   rcases qpb ha h with h1 | ⟨h1,h2⟩ | ⟨h1,h2,j,b,rfl,hb,h3⟩
   ·exact qAW ⟨lt1 (lt_of ha),lt0,lt2 (lt_of ha),qac Record.e ha,h1,trivial⟩
   ·exact qAX ⟨lt1 (lt_of ha),lt0,lt2 (lt_of ha),qac Record.e ha,h1,lt0,lt2 (lt_of ha),qac Record.e ha,h2,trivial⟩
   ·exact qAY ⟨lt1 (lt_of ha),lt0,lt2 (lt_of ha),qac Record.e ha,h1,lt0,lt2 (lt_of ha),qac Record.e ha,h2,dT (by omega),⟨by omega,by omega⟩,by omega,qin hb,qim Record.e hb,lt0,lt2 (lt_of ha),qac Record.e ha,h3,trivial⟩)
  (qA1 ⟨ge1,trivial⟩)
theorem qHZ(w:Worker)(hl:w.dones.length≤8388608):
  (anyI (qbV w.dones) 0 w.dones=false∧qam prog (qaa f187 2) (qc6 (w.queue.map Record.e) (w.staged.map Record.e) (w.inputs.map Record.e) (w.cells.map Cell.e) (w.sums.map eI) (w.black.map eB) (w.caps.map eB) (w.dones.map Done.e) 0) (.exit 4) qku)∨
  (anyI (qbV w.dones) 0 w.dones=true∧qam prog (qaa f187 2) (qc6 (w.queue.map Record.e) (w.staged.map Record.e) (w.inputs.map Record.e) (w.cells.map Cell.e) (w.sums.map eI) (w.black.map eB) (w.caps.map eB) (w.dones.map Done.e) 0) .ret (qib false)):=by
 have inner:∀(i:Nat) (a:Done),w.dones[i]?=some a→
   (((w.dones.take i).any (fun q=>q.epoch==a.epoch))=false∧qam prog (qaa f187 3) (qdr (w.queue.map Record.e) (w.staged.map Record.e) (w.inputs.map Record.e) (w.cells.map Cell.e) (w.sums.map eI) (w.black.map eB) (w.caps.map eB) (w.dones.map Done.e) i 0) (.exit 6) (qkt (w.queue.map Record.e) (w.staged.map Record.e) (w.inputs.map Record.e) (w.cells.map Cell.e) (w.sums.map eI) (w.black.map eB) (w.caps.map eB) (w.dones.map Done.e) i))∨
   (((w.dones.take i).any (fun q=>q.epoch==a.epoch))=true∧qam prog (qaa f187 3) (qdr (w.queue.map Record.e) (w.staged.map Record.e) (w.inputs.map Record.e) (w.cells.map Cell.e) (w.sums.map eI) (w.black.map eB) (w.caps.map eB) (w.dones.map Done.e) i 0) .ret (qic false)):=by
  intro i a ha
  have hi:=lt_of ha
  have hlen:(w.dones.take i).length=i:=by rw[zay];omega
  have tk:∀{k:Nat} {b:Done},(w.dones.take i)[k]?=some b→k<i∧w.dones[k]?=some b:=fun {k b} h=>by
   have hk:=lt_of h
   rw[hlen]at hk
   rw[zE,zq hk]at h
   exact⟨hk,h⟩
  have l:=qaT (P:=prog) (c:=(qaa f187 3)) (w.dones.take i) (fun q=>q.epoch==a.epoch) (fun k=>qdr (w.queue.map Record.e) (w.staged.map Record.e) (w.inputs.map Record.e) (w.cells.map Cell.e) (w.sums.map eI) (w.black.map eB) (w.caps.map eB) (w.dones.map Done.e) i k) (X:=fun _ _=>qic false) qav (qaf 6)
   (fun k b hb h=>by
    obtain⟨hk,hb⟩:=tk hb
    exact qA9 ⟨dT (by omega),lt0,lt2 (lt_of hb),qac Done.e hb,lt0,lt2 (lt_of ha),qac Done.e ha,h,up1 (lt_of hb) hl,trivial⟩)
   (fun k b hb h=>by
    obtain⟨hk,hb⟩:=tk hb
    exact qA8 ⟨dT (by omega),lt0,lt2 (lt_of hb),qac Done.e hb,lt0,lt2 (lt_of ha),qac Done.e ha,h,trivial⟩)
   (qBa ⟨dF (by rw[hlen];omega),trivial⟩)
  rcases l with⟨_,_,h1,h2⟩ | ⟨_,_,_,_,_,_,h1,h2⟩
  ·exact .inl ⟨h1,h2⟩
  ·exact .inr ⟨h1,h2⟩
 exact qdE (P:=prog) (c:=(qaa f187 2)) w.dones (qbV w.dones) (fun i=>qc6 (w.queue.map Record.e) (w.staged.map Record.e) (w.inputs.map Record.e) (w.cells.map Cell.e) (w.sums.map eI) (w.black.map eB) (w.caps.map eB) (w.dones.map Done.e) i) qav (qaf 4)
  (fun i a ha h=>by
   simp only[qbV,zy,zW]at h
   rcases inner i a ha with⟨e,l⟩ | ⟨e,l⟩
   ·exact qBc ⟨lt1 (lt_of ha),lt0,lt2 (lt_of ha),qac Done.e ha,qaK _ _ _ true h.1,rfl,l,up1 (lt_of ha) hl,trivial⟩
   ·rw[h.2]at e;cases e)
  (fun i a ha h=>by
   cases h1:inR a.epoch 0 3 with
   | false=>exact qA7 ⟨lt1 (lt_of ha),lt0,lt2 (lt_of ha),qac Done.e ha,qaK _ _ _ false h1,rfl,trivial⟩
   | true=>
    simp only[qbV,h1,zY,zaj]at h
    rcases inner i a ha with⟨e,l⟩ | ⟨e,l⟩
    ·rw[h]at e;cases e
    ·exact qBb ⟨lt1 (lt_of ha),lt0,lt2 (lt_of ha),qac Done.e ha,qaK _ _ _ true h1,rfl,l,trivial⟩)
  (qBd ⟨ge1,trivial⟩)
theorem qpd(g:Graph)(w:Worker)(hg:g.sz≤8388608)(hw:w.sz≤8388608):Rt 187 [.agg g.e,.agg w.e] [.one (B (qaz g w))]:=by
 unfold qaz
 cases h1:qaP g w.queue with
 | false=>exact qAP ⟨qeZ g _ _ h1 hg (Worker.queue_le hw),rfl,trivial⟩
 | true=>
 have c1:=qeZ g _ _ h1 hg (Worker.queue_le hw)
 cases h2:qaP g w.staged with
 | false=>exact qAQ ⟨c1,rfl,qeZ g _ _ h2 hg (Worker.staged_le hw),rfl,trivial⟩
 | true=>
 have c2:=qeZ g _ _ h2 hg (Worker.staged_le hw)
 cases h3:qaP g w.inputs with
 | false=>exact qAR ⟨c1,rfl,c2,rfl,qeZ g _ _ h3 hg (Worker.inputs_le hw),rfl,trivial⟩
 | true=>
 have c3:=qeZ g _ _ h3 hg (Worker.inputs_le hw)
 cases h4:qbt w.cells with
 | false=>exact qAS ⟨c1,rfl,c2,rfl,c3,rfl,qo8 _ _ h4 (Worker.cells_le' hw),rfl,trivial⟩
 | true=>
 have c4:=qo8 _ _ h4 (Worker.cells_le' hw)
 cases h5:(w.sums.length==4) with
 | false=>exact qAT ⟨c1,rfl,c2,rfl,c3,rfl,c4,rfl,len4' h5,trivial⟩
 | true=>
 cases h6:(w.black.length==4) with
 | false=>exact qAU ⟨c1,rfl,c2,rfl,c3,rfl,c4,rfl,len4 h5,len4' h6,trivial⟩
 | true=>
 cases h7:(w.caps.length==4) with
 | false=>exact qAV ⟨c1,rfl,c2,rfl,c3,rfl,c4,rfl,len4 h5,len4 h6,len4' h7,trivial⟩
 | true=>
 have hs4:w.sums.length=4:=eq_of_beq h5
 rcases qHY w (Worker.inputs_le hw) with⟨h8,l8⟩ | ⟨h8,l8⟩
 case inr=>rw[h8];exact qA2 ⟨c1,rfl,c2,rfl,c3,rfl,c4,rfl,len4 h5,len4 h6,len4 h7,l8,trivial⟩
 have l9:=qaT (P:=prog) (c:=(qaa f187 1)) w.sums qcc (fun i=>qdP (w.queue.map Record.e) (w.staged.map Record.e) (w.inputs.map Record.e) (w.cells.map Cell.e) (w.sums.map eI) (w.black.map eB) (w.caps.map eB) (w.dones.map Done.e) i) (X:=fun _ _=>qkr false) qav (qaf 2)
  (fun i a ha h=>qA4 ⟨dT (by have:=lt_of ha;omega),lt0,lt2 (lt_of ha),qac eI ha,qaK _ _ _ true (by simpa[qcc]using h),rfl,up1 (lt_of ha) (Worker.sums_le hw),trivial⟩)
  (fun i a ha h=>qA3 ⟨dT (by have:=lt_of ha;omega),lt0,lt2 (lt_of ha),qac eI ha,qaK _ _ _ false (by simpa[qcc]using h),rfl,trivial⟩)
  (qA5 ⟨dF (by omega),trivial⟩)
 rw[h8]
 rcases l9 with⟨_,_,h9,l9⟩ | ⟨_,_,_,_,_,_,h9,l9⟩
 case inr=>rw[h9];exact qA6 ⟨c1,rfl,c2,rfl,c3,rfl,c4,rfl,len4 h5,len4 h6,len4 h7,l8,l9,trivial⟩
 rw[h9]
 rcases qHZ w (Worker.dones_le' hw) with⟨h10,l10⟩ | ⟨h10,l10⟩
 ·rw[h10];exact qBf ⟨c1,rfl,c2,rfl,c3,rfl,c4,rfl,len4 h5,len4 h6,len4 h7,l8,l9,l10,trivial⟩
 ·rw[h10];exact qBe ⟨c1,rfl,c2,rfl,c3,rfl,c4,rfl,len4 h5,len4 h6,len4 h7,l8,l9,l10,trivial⟩
end Go.Proofs.YtdanpadojemjeaaGreat
namespace Go.Proofs.YtdanpadojemjeaaGreat
open Go.Sx Go.RowKit Go.Proofs.Tryz
theorem qH0(w:Worker)(hl:w.inputs.length≤8388608):
  (anyI (inBad w.inputs) 0 w.inputs=false∧qam prog (qaa f123 0) (qbF (w.inputs.map Record.e) 0 (w.queue.map Record.e) (w.staged.map Record.e) (w.inputs.map Record.e) (w.cells.map Cell.e) (w.sums.map eI) (w.black.map eB) (w.caps.map eB) (w.dones.map Done.e)) (.exit 0) (qdQ (w.queue.map Record.e) (w.staged.map Record.e) (w.inputs.map Record.e) (w.cells.map Cell.e) (w.sums.map eI) (w.black.map eB) (w.caps.map eB) (w.dones.map Done.e)))∨
  (anyI (inBad w.inputs) 0 w.inputs=true∧qam prog (qaa f123 0) (qbF (w.inputs.map Record.e) 0 (w.queue.map Record.e) (w.staged.map Record.e) (w.inputs.map Record.e) (w.cells.map Cell.e) (w.sums.map eI) (w.black.map eB) (w.caps.map eB) (w.dones.map Done.e)) .ret (qgU false)):=
 qdE (P:=prog) (c:=(qaa f123 0)) w.inputs (inBad w.inputs) (fun i=>qbF (w.inputs.map Record.e) i (w.queue.map Record.e) (w.staged.map Record.e) (w.inputs.map Record.e) (w.cells.map Cell.e) (w.sums.map eI) (w.black.map eB) (w.caps.map eB) (w.dones.map Done.e)) qav (qaf 0)
  (fun i a ha h=>by
   have hi:=lt_of ha
   obtain⟨h1,h2,rfl | ⟨j,b,rfl,hb,h3⟩⟩:=qpc ha h
   ·exact qBo ⟨lt1 (lt_of ha),lt0,lt2 (lt_of ha),qac Record.e ha,h1,h2,dF (by omega),up1 (lt_of ha) hl,trivial⟩
   ·exact qBn ⟨lt1 (lt_of ha),lt0,lt2 (lt_of ha),qac Record.e ha,h1,h2,dT (by omega),⟨by omega,by omega⟩,by omega,qin hb,qim Record.e hb,h3,up1 (lt_of ha) hl,trivial⟩)
  (fun i a ha h=>by
   have hi:=lt_of ha
   rcases qpb ha h with h1 | ⟨h1,h2⟩ | ⟨h1,h2,j,b,rfl,hb,h3⟩
   ·exact qBk ⟨lt1 (lt_of ha),lt0,lt2 (lt_of ha),qac Record.e ha,h1,trivial⟩
   ·exact qBl ⟨lt1 (lt_of ha),lt0,lt2 (lt_of ha),qac Record.e ha,h1,h2,trivial⟩
   ·exact qBm ⟨lt1 (lt_of ha),lt0,lt2 (lt_of ha),qac Record.e ha,h1,h2,dT (by omega),⟨by omega,by omega⟩,by omega,qin hb,qim Record.e hb,h3,trivial⟩)
  (qBp ⟨ge1,trivial⟩)
theorem qpe(xs:List Done)(i:Nat)(e:Int)(r:Bool)(h:(xs.take i).any (fun q=>q.epoch==e)=r)(hl:xs.length≤8388608):Rt 126 [.one (.sl 2 ((xs.map Done.e).take i)),.one (I e)] [.one (B r)]:=by
 have c:=qof (xs.take i) e (by rw[zay];omega)
 rw[zcn,h]at c
 exact c
theorem qH1(w:Worker)(hl:w.dones.length≤8388608):
  (anyI (qbV w.dones) 0 w.dones=false∧qam prog (qaa f123 2) (qc7 (w.dones.map Done.e) 0 (w.queue.map Record.e) (w.staged.map Record.e) (w.inputs.map Record.e) (w.cells.map Cell.e) (w.sums.map eI) (w.black.map eB) (w.caps.map eB) (w.dones.map Done.e)) (.exit 4) qkx)∨
  (anyI (qbV w.dones) 0 w.dones=true∧qam prog (qaa f123 2) (qc7 (w.dones.map Done.e) 0 (w.queue.map Record.e) (w.staged.map Record.e) (w.inputs.map Record.e) (w.cells.map Cell.e) (w.sums.map eI) (w.black.map eB) (w.caps.map eB) (w.dones.map Done.e)) .ret (qid false)):=
 qdE (P:=prog) (c:=(qaa f123 2)) w.dones (qbV w.dones) (fun i=>qc7 (w.dones.map Done.e) i (w.queue.map Record.e) (w.staged.map Record.e) (w.inputs.map Record.e) (w.cells.map Cell.e) (w.sums.map eI) (w.black.map eB) (w.caps.map eB) (w.dones.map Done.e)) qav (qaf 4)
  (fun i a ha h=>by
   have hi:=lt_of ha
   simp only[qbV,zy,zW]at h
   exact qBA ⟨lt1 (lt_of ha),lt0,lt2 (lt_of ha),qac Done.e ha,qaY _ _ _ true h.1,rfl,Int.le_refl 0,(lt0:(0:Int)≤(i:Int)),(show (i:Int)≤_ by rw[zb];omega),qpe w.dones i a.epoch false h.2 hl,rfl,up1 (lt_of ha) hl,trivial⟩)
  (fun i a ha h=>by
   have hi:=lt_of ha
   cases h1:inR a.epoch 0 3 with
   | false=>exact qBy ⟨lt1 (lt_of ha),lt0,lt2 (lt_of ha),qac Done.e ha,qaY _ _ _ false h1,rfl,trivial⟩
   | true=>
    simp only[qbV,h1,zY,zaj]at h
    exact qBz ⟨lt1 (lt_of ha),lt0,lt2 (lt_of ha),qac Done.e ha,qaY _ _ _ true h1,rfl,Int.le_refl 0,(lt0:(0:Int)≤(i:Int)),(show (i:Int)≤_ by rw[zb];omega),qpe w.dones i a.epoch true h hl,rfl,trivial⟩)
  (qBB ⟨ge1,trivial⟩)
theorem qio(g:Graph)(w:Worker)(hg:g.sz≤8388608)(hw:w.sz≤8388608):Rt 123 [.agg g.e,.agg w.e] [.one (B (qaz g w))]:=by
 unfold qaz
 cases h1:qaP g w.queue with
 | false=>exact qBg ⟨qe0 g _ _ h1 hg (Worker.queue_le hw),rfl,trivial⟩
 | true=>
 have c1:=qe0 g _ _ h1 hg (Worker.queue_le hw)
 cases h2:qaP g w.staged with
 | false=>exact qBh ⟨c1,rfl,qe0 g _ _ h2 hg (Worker.staged_le hw),rfl,trivial⟩
 | true=>
 have c2:=qe0 g _ _ h2 hg (Worker.staged_le hw)
 cases h3:qaP g w.inputs with
 | false=>exact qBi ⟨c1,rfl,c2,rfl,qe0 g _ _ h3 hg (Worker.inputs_le hw),rfl,trivial⟩
 | true=>
 have c3:=qe0 g _ _ h3 hg (Worker.inputs_le hw)
 cases h4:qbt w.cells with
 | false=>exact qBj ⟨c1,rfl,c2,rfl,c3,rfl,qo9 _ _ h4 (Worker.cells_le' hw),rfl,trivial⟩
 | true=>
 have c4:=qo9 _ _ h4 (Worker.cells_le' hw)
 rcases qH0 w (Worker.inputs_le hw) with⟨h8,l8⟩ | ⟨h8,l8⟩
 case inr=>
  rw[h8]
  simp only[zY,Bool.false_and,Bool.and_false]
  exact qBq ⟨c1,rfl,c2,rfl,c3,rfl,c4,rfl,l8,trivial⟩
 cases h5:(w.sums.length==4) with
 | false=>exact qBr ⟨c1,rfl,c2,rfl,c3,rfl,c4,rfl,l8,len4' h5,trivial⟩
 | true=>
 cases h6:(w.black.length==4) with
 | false=>exact qBs ⟨c1,rfl,c2,rfl,c3,rfl,c4,rfl,l8,len4 h5,len4' h6,trivial⟩
 | true=>
 cases h7:(w.caps.length==4) with
 | false=>exact qBt ⟨c1,rfl,c2,rfl,c3,rfl,c4,rfl,l8,len4 h5,len4 h6,len4' h7,trivial⟩
 | true=>
 have l9:=qaT (P:=prog) (c:=(qaa f123 1)) w.sums qcc (fun i=>qdR (w.queue.map Record.e) (w.staged.map Record.e) (w.inputs.map Record.e) (w.cells.map Cell.e) (w.sums.map eI) (w.black.map eB) (w.caps.map eB) (w.dones.map Done.e) i) (X:=fun _ _=>qkv false) qav (qaf 2)
  (fun i a ha h=>qBv ⟨lt1 (lt_of ha),lt0,lt2 (lt_of ha),qac eI ha,qaY _ _ _ true (by simpa[qcc]using h),rfl,up1 (lt_of ha) (Worker.sums_le hw),trivial⟩)
  (fun i a ha h=>qBu ⟨lt1 (lt_of ha),lt0,lt2 (lt_of ha),qac eI ha,qaY _ _ _ false (by simpa[qcc]using h),rfl,trivial⟩)
  (qBw ⟨ge1,trivial⟩)
 rw[h8]
 rcases l9 with⟨_,_,h9,l9⟩ | ⟨_,_,_,_,_,_,h9,l9⟩
 case inr=>rw[h9];exact qBx ⟨c1,rfl,c2,rfl,c3,rfl,c4,rfl,l8,len4 h5,len4 h6,len4 h7,l9,trivial⟩
 rw[h9]
 rcases qH1 w (Worker.dones_le' hw) with⟨h10,l10⟩ | ⟨h10,l10⟩
 ·rw[h10];exact qBD ⟨c1,rfl,c2,rfl,c3,rfl,c4,rfl,l8,len4 h5,len4 h6,len4 h7,l9,l10,trivial⟩
 ·rw[h10];exact qBC ⟨c1,rfl,c2,rfl,c3,rfl,c4,rfl,l8,len4 h5,len4 h6,len4 h7,l9,l10,trivial⟩
end Go.Proofs.YtdanpadojemjeaaGreat
