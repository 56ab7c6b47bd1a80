/- ClusterOk, SafeCluster: what program and reference compute; the law SafeCluster answers true. -/
import Derived.Test.YtdanpadojemjeaaGreatP9
import Derived.Test.YtdanpadojemjeaaGreatP16
set_option linter.unusedVariables false
set_option linter.unusedSimpArgs false
namespace Go.Proofs.YtdanpadojemjeaaGreat
open Go.Sx Go.RowKit Go.Proofs.Tryz
def qi8(p:Cell×Cell):Bool:=decide (qbc p.1 p.2≥0)
def qbx(xs:List Cell):Bool:=!((xs.zip (xs.drop 1)).any qi8)
theorem qhK{xs:List Cell}{i:Nat}{p:Cell×Cell}(h:(xs.zip (xs.drop 1))[i]?=some p):xs[i]?=some p.1∧xs[i+1]?=some p.2:=by
 rw[List.getElem?_zip_eq_some]at h
 obtain⟨h1,h2⟩:=h
 rw[zA,Nat.add_comm]at h2
 exact⟨h1,h2⟩
theorem qKp(xs:List Cell)(hl:xs.length≤8388608):Rt 227 [.one (.sl 4 (xs.map Cell.e))] [.one (B (qbx xs))]:=by
 have e0:∀i:Nat,(((i:Int)+1)-1).toNat=i:=fun i=>by omega
 have e1:∀i:Nat,(((i:Int)+1)).toNat=i+1:=fun i=>by omega
 have hz:(xs.zip (xs.drop 1)).length=xs.length-1:=by simp
 have l:=qaS (P:=prog) (c:=(qaa f227 0)) (xs.zip (xs.drop 1)) qi8 (fun i=>qd0 (xs.map Cell.e) ((i:Int)+1)) (X:=fun _ _=>qlg false) qaw (qaf 0)
  (fun i a ha h=>by
   obtain⟨h1,h2⟩:=qhK ha
   have hi:=lt_of h2
   refine tr_to (qd0 (xs.map Cell.e)) (qCZ ⟨dT (by simp only[zb];omega),⟨by omega,by omega⟩,by omega,by simp only[zb];omega,by rw[e0,zr,h1];rfl,by omega,by simp only[zb];omega,by rw[e1,zr,h2];rfl,qiP a.1 a.2,h,⟨by omega,by omega⟩,trivial⟩) (by omega))
  (fun i a ha h=>by
   obtain⟨h1,h2⟩:=qhK ha
   have hi:=lt_of h2
   exact qCY ⟨dT (by simp only[zb];omega),⟨by omega,by omega⟩,by omega,by simp only[zb];omega,by rw[e0,zr,h1];rfl,by omega,by simp only[zb];omega,by rw[e1,zr,h2];rfl,qiP a.1 a.2,h,trivial⟩)
  (qC0 ⟨dF (by rw[hz];simp only[zb];omega),trivial⟩)
 unfold qbx
 rcases l with⟨_,_,h1,h2⟩ | ⟨i,a,_,_,_,_,h1,h2⟩
 ·rw[h1];exact qC2 ⟨h2,trivial⟩
 ·rw[h1];exact qC1 ⟨h2,trivial⟩
theorem qqB(xs:List Cell)(r:Bool)(h:qbx xs=r)(hl:xs.length≤8388608):Rt 227 [.one (.sl 4 (xs.map Cell.e))] [.one (B r)]:=h▸qKp xs hl
theorem qKq(xs:List Cell)(hl:xs.length≤8388608):Rt 198 [.one (.sl 4 (xs.map Cell.e))] [.one (B (qbx xs))]:=by
 have e0:∀i:Nat,(((i:Int)+1)-1).toNat=i:=fun i=>by omega
 have e1:∀i:Nat,(((i:Int)+1)).toNat=i+1:=fun i=>by omega
 have hz:(xs.zip (xs.drop 1)).length=xs.length-1:=by simp
 have l:=qaS (P:=prog) (c:=(qaa f198 0)) (xs.zip (xs.drop 1)) qi8 (fun i=>qd1 (xs.map Cell.e) ((i:Int)+1)) (X:=fun _ _=>qlh false) qaw (qaf 0)
  (fun i a ha h=>by
   obtain⟨h1,h2⟩:=qhK ha
   have hi:=lt_of h2
   refine tr_to (qd1 (xs.map Cell.e)) (qC4 ⟨dT (by simp only[zb];omega),⟨by omega,by omega⟩,by omega,by simp only[zb];omega,by rw[e0,zr,h1];rfl,by omega,by simp only[zb];omega,by rw[e1,zr,h2];rfl,qiO a.1 a.2,h,⟨by omega,by omega⟩,trivial⟩) (by omega))
  (fun i a ha h=>by
   obtain⟨h1,h2⟩:=qhK ha
   have hi:=lt_of h2
   exact qC3 ⟨dT (by simp only[zb];omega),⟨by omega,by omega⟩,by omega,by simp only[zb];omega,by rw[e0,zr,h1];rfl,by omega,by simp only[zb];omega,by rw[e1,zr,h2];rfl,qiO a.1 a.2,h,trivial⟩)
  (qC5 ⟨dF (by rw[hz];simp only[zb];omega),trivial⟩)
 unfold qbx
 rcases l with⟨_,_,h1,h2⟩ | ⟨i,a,_,_,_,_,h1,h2⟩
 ·rw[h1];exact qC7 ⟨h2,trivial⟩
 ·rw[h1];exact qC6 ⟨h2,trivial⟩
theorem qqC(xs:List Cell)(r:Bool)(h:qbx xs=r)(hl:xs.length≤8388608):Rt 198 [.one (.sl 4 (xs.map Cell.e))] [.one (B r)]:=h▸qKq xs hl
def qbR(g:Graph)(r:Record):Bool:=!qaI r||decide (r.op≥(g.nodes.length:Int))
def qaU(g:Graph)(xs:List Record):Bool:=!(xs.any (qbR g))
theorem qKr{r:Record}(h:qaI r=true):0≤r.op:=by
 simp only[qaI,zj,inR,zi]at h
 omega
theorem qKs(g:Graph)(xs:List Record)(hl:xs.length≤8388608):Rt 189 [.agg g.e,.one (.sl 5 (xs.map Record.e))] [.one (B (qaU g xs))]:=by
 have l:=qaS (P:=prog) (c:=(qaa f189 0)) xs (qbR g) (fun i=>qd2 (g.nodes.map Node.e) g.workers g.cap (xs.map Record.e) i) (X:=fun _ _=>qiY false) qaw (qaf 0)
  (fun i a ha h=>by
   simp only[qbR,zy,zX]at h
   have c:=qfe a
   rw[h.1]at c
   exact qDa ⟨lt1 (lt_of ha),lt0,lt2 (lt_of ha),qac Record.e ha,c,rfl,lt0,lt2 (lt_of ha),qac Record.e ha,by rw[zb];exact h.2,up1 (lt_of ha) hl,trivial⟩)
  (fun i a ha h=>by
   have c:=qfe a
   cases hr:qaI a with
   | false=>
    rw[hr]at c
    exact qC8 ⟨lt1 (lt_of ha),lt0,lt2 (lt_of ha),qac Record.e ha,c,rfl,trivial⟩
   | true=>
    rw[hr]at c
    simp only[qbR,hr,zZ,zal]at h
    exact qC9 ⟨lt1 (lt_of ha),lt0,lt2 (lt_of ha),qac Record.e ha,c,rfl,lt0,lt2 (lt_of ha),qac Record.e ha,by rw[zb];exact h,trivial⟩)
  (qDb ⟨ge1,trivial⟩)
 unfold qaU
 rcases l with⟨_,_,h1,h2⟩ | ⟨i,a,_,_,_,_,h1,h2⟩
 ·rw[h1];exact qDd ⟨h2,trivial⟩
 ·rw[h1];exact qDc ⟨h2,trivial⟩
theorem qqD{g:Graph}{r:Record}(h:qaI r=true):(qaP g r.op).isSome=!(decide (r.op≥(g.nodes.length:Int))):=by
 have h0:=qKr h
 unfold qaP
 rw[zp h0]
 by_cases hc:r.op≥(g.nodes.length:Int)
 ·rw[dT hc,List.getElem?_eq_none (by omega)];rfl
 ·rw[dF hc,zu (by omega)];rfl
theorem qKt(g:Graph)(xs:List Record)(hg:g.sz≤8388608)(hl:xs.length≤8388608):Rt 125 [.agg g.e,.one (.sl 5 (xs.map Record.e))] [.one (B (qaU g xs))]:=by
 have l:=qaS (P:=prog) (c:=(qaa f125 0)) xs (qbR g) (fun i=>qd3 (xs.map Record.e) i (g.nodes.map Node.e) g.workers g.cap) (X:=fun _ _=>qiZ false) qaw (qaf 0)
  (fun i a ha h=>by
   simp only[qbR,zy,zX]at h
   have c:=qd9 a
   rw[h.1]at c
   exact qDg ⟨lt1 (lt_of ha),lt0,lt2 (lt_of ha),qac Record.e ha,c,rfl,qge g a.op true (by rw[qqD h.1,h.2];rfl) hg,rfl,up1 (lt_of ha) hl,trivial⟩)
  (fun i a ha h=>by
   have c:=qd9 a
   cases hr:qaI a with
   | false=>
    rw[hr]at c
    exact qDe ⟨lt1 (lt_of ha),lt0,lt2 (lt_of ha),qac Record.e ha,c,rfl,trivial⟩
   | true=>
    rw[hr]at c
    simp only[qbR,hr,zZ,zal]at h
    exact qDf ⟨lt1 (lt_of ha),lt0,lt2 (lt_of ha),qac Record.e ha,c,rfl,qge g a.op false (by rw[qqD hr,h];rfl) hg,rfl,trivial⟩)
  (qDh ⟨ge1,trivial⟩)
 unfold qaU
 rcases l with⟨_,_,h1,h2⟩ | ⟨i,a,_,_,_,_,h1,h2⟩
 ·rw[h1];exact qDj ⟨h2,trivial⟩
 ·rw[h1];exact qDi ⟨h2,trivial⟩
theorem qfk(g:Graph)(xs:List Record)(r:Bool)(h:qaU g xs=r)(_:g.sz≤8388608)(hl:xs.length≤8388608):Rt 189 [.agg g.e,.one (.sl 5 (xs.map Record.e))] [.one (B r)]:=h▸qKs g xs hl
theorem qfl(g:Graph)(xs:List Record)(r:Bool)(h:qaU g xs=r)(hg:g.sz≤8388608)(hl:xs.length≤8388608):Rt 125 [.agg g.e,.one (.sl 5 (xs.map Record.e))] [.one (B r)]:=h▸qKt g xs hg hl
def qbt(l:Link):Bool:=
 inR l.cap 1 4&&inR l.credits 0 l.cap&&inR l.back 0 l.cap&&(l.credits+l.back+l.queue.length==l.cap)&&inR l.sent 0 1000000000&&decide (0≤l.got)&&(l.got==l.sent-l.queue.length)&&!(l.queue.any fun r=>!qaI r)
theorem qKu(xs:List Record)(hl:xs.length≤8388608):Rt 199 [.one (.sl 5 (xs.map Record.e))] [.one (B (!(xs.any fun r=>!qaI r)))]:=by
 have l:=qaS (P:=prog) (c:=(qaa f199 0)) xs (fun r=>!qaI r) (fun i=>qe9 (xs.map Record.e) i) (X:=fun _ _=>qlq false) qaw (qaf 0)
  (fun i a ha h=>qEt ⟨lt1 (lt_of ha),lt0,lt2 (lt_of ha),qac Record.e ha,qd9 a,h,up1 (lt_of ha) hl,trivial⟩)
  (fun i a ha h=>qEs ⟨lt1 (lt_of ha),lt0,lt2 (lt_of ha),qac Record.e ha,qd9 a,h,trivial⟩)
  (qEu ⟨ge1,trivial⟩)
 rcases l with⟨_,_,h1,h2⟩ | ⟨i,a,_,_,_,_,h1,h2⟩
 ·rw[h1];exact qEw ⟨h2,trivial⟩
 ·rw[h1];exact qEv ⟨h2,trivial⟩
theorem qi9(l:Link)(hl:l.sz≤8388608)(hgot:l.got≤9223372036854775807):Rt 124 [.agg l.e] [.one (B (qbt l))]:=by
 have hq:l.queue.length≤8388608:=hl
 have c1:=qbF l.cap 1 4
 have c2:=qbF l.credits 0 l.cap
 have c3:=qbF l.back 0 l.cap
 have c4:=qbF l.sent 0 1000000000
 have c5:=qKu l.queue hq
 unfold qbt
 cases h1:inR l.cap 1 4 with
 | false=>rw[h1]at c1;exact qEk ⟨c1,rfl,trivial⟩
 | true=>
 cases h2:inR l.credits 0 l.cap with
 | false=>rw[h1]at c1;rw[h2]at c2;exact qEl ⟨c1,rfl,c2,rfl,trivial⟩
 | true=>
 cases h3:inR l.back 0 l.cap with
 | false=>rw[h1]at c1;rw[h2]at c2;rw[h3]at c3;exact qEm ⟨c1,rfl,c2,rfl,c3,rfl,trivial⟩
 | true=>
 have k1:=h1
 have k2:=h2
 have k3:=h3
 simp only[inR,zi]at k1 k2 k3
 rw[h1]at c1;rw[h2]at c2;rw[h3]at c3
 have u1:inInt .i64 (l.credits+l.back):=⟨by omega,by omega⟩
 have u2:inInt .i64 (l.credits+l.back+(↑(l.queue.map Record.e).length:Int)):=⟨by simp only[zb];omega,by simp only[zb];omega⟩
 cases h4:(l.credits+l.back+(l.queue.length:Int)==l.cap) with
 | false=>exact qEn ⟨c1,rfl,c2,rfl,c3,rfl,u1,u2,by rw[zb];simpa using h4,trivial⟩
 | true=>
 have v4:(l.credits+l.back+(↑(l.queue.map Record.e).length:Int) != l.cap)=false:=by rw[zb];simpa using h4
 cases h5:inR l.sent 0 1000000000 with
 | false=>rw[h5]at c4;exact qEo ⟨c1,rfl,c2,rfl,c3,rfl,u1,u2,v4,c4,rfl,trivial⟩
 | true=>
 have k5:=h5
 simp only[inR,zi]at k5
 rw[h5]at c4
 by_cases h6:l.got<0
 ·rw[dF (show ¬0≤l.got by omega)]
  exact qEp ⟨c1,rfl,c2,rfl,c3,rfl,u1,u2,v4,c4,rfl,dT h6,trivial⟩
 ·rw[dT (show 0≤l.got by omega)]
  have u3:inInt .i64 (l.sent-l.got):=⟨by omega,by omega⟩
  ·by_cases h7:l.got=l.sent-(l.queue.length:Int)
   ·rw[show (l.got==l.sent-(l.queue.length:Int))=true from by simpa using h7]
    exact qEr ⟨c1,rfl,c2,rfl,c3,rfl,u1,u2,v4,c4,rfl,dF h6,u3,by rw[zb];simp;omega,c5,trivial⟩
   ·rw[show (l.got==l.sent-(l.queue.length:Int))=false from by simpa using h7]
    exact qEq ⟨c1,rfl,c2,rfl,c3,rfl,u1,u2,v4,c4,rfl,dF h6,u3,by rw[zb];simp;omega,trivial⟩
theorem qja(l:Link)(hl:l.sz≤8388608):Rt 188 [.agg l.e] [.one (B (qbt l))]:=by
 have hq:l.queue.length≤8388608:=hl
 have lp:=qaS (P:=prog) (c:=(qaa f188 0)) l.queue (fun r=>!qaI r) (fun i=>qcv l.cap (l.queue.map Record.e) l.credits l.back l.sent l.got i) (X:=fun _ _=>qlp false) qaw (qaf 0)
  (fun i a ha h=>qEa ⟨lt1 (lt_of ha),lt0,lt2 (lt_of ha),qac Record.e ha,qfe a,h,up1 (lt_of ha) hq,trivial⟩)
  (fun i a ha h=>qD9 ⟨lt1 (lt_of ha),lt0,lt2 (lt_of ha),qac Record.e ha,qfe a,h,trivial⟩)
  (qEb ⟨ge1,trivial⟩)
 unfold qbt
 rcases lp with⟨_,_,h0,lp⟩ | ⟨i,a,_,_,_,_,h0,lp⟩
 case inr=>
  rw[h0,zZ,Bool.and_false]
  exact qEc ⟨lp,trivial⟩
 rw[h0,zbc,zcs]
 have c1:=qbi l.cap 1 4
 have c2:=qbi l.credits 0 l.cap
 have c3:=qbi l.back 0 l.cap
 have c4:=qbi l.sent 0 1000000000
 cases h1:inR l.cap 1 4 with
 | false=>rw[h1]at c1;exact qEj ⟨lp,c1,rfl,trivial⟩
 | true=>
 cases h2:inR l.credits 0 l.cap with
 | false=>rw[h1]at c1;rw[h2]at c2;exact qEi ⟨lp,c1,rfl,c2,rfl,trivial⟩
 | true=>
 cases h3:inR l.back 0 l.cap with
 | false=>rw[h1]at c1;rw[h2]at c2;rw[h3]at c3;exact qEh ⟨lp,c1,rfl,c2,rfl,c3,rfl,trivial⟩
 | true=>
 have k1:=h1
 have k2:=h2
 have k3:=h3
 simp only[inR,zi]at k1 k2 k3
 rw[h1]at c1;rw[h2]at c2;rw[h3]at c3
 have u1:inInt .i64 (l.credits+l.back):=⟨by omega,by omega⟩
 have u2:inInt .i64 (l.credits+l.back+(↑(l.queue.map Record.e).length:Int)):=⟨by simp only[zb];omega,by simp only[zb];omega⟩
 cases h4:(l.credits+l.back+(l.queue.length:Int)==l.cap) with
 | false=>exact qEg ⟨lp,c1,rfl,c2,rfl,c3,rfl,u1,u2,by rw[zb];exact h4,trivial⟩
 | true=>
 have v4:(l.credits+l.back+(↑(l.queue.map Record.e).length:Int)==l.cap)=true:=by rw[zb];exact h4
 cases h5:inR l.sent 0 1000000000 with
 | false=>rw[h5]at c4;exact qEf ⟨lp,c1,rfl,c2,rfl,c3,rfl,u1,u2,v4,c4,rfl,trivial⟩
 | true=>
 have k5:=h5
 simp only[inR,zi]at k5
 rw[h5]at c4
 have u3:inInt .i64 (l.sent-(↑(l.queue.map Record.e).length:Int)):=⟨by simp only[zb];omega,by simp only[zb];omega⟩
 cases h7:(l.got==l.sent-(l.queue.length:Int)) with
 | false=>
  rw[Bool.and_false]
  exact qEe ⟨lp,c1,rfl,c2,rfl,c3,rfl,u1,u2,v4,c4,rfl,u3,by rw[zb];exact h7,trivial⟩
 | true=>
  rw[zcs]
  exact qEd ⟨lp,c1,rfl,c2,rfl,c3,rfl,u1,u2,v4,c4,rfl,u3,by rw[zb];exact h7,trivial⟩
end Go.Proofs.YtdanpadojemjeaaGreat
namespace Go.Proofs.YtdanpadojemjeaaGreat
open Go.Sx Go.RowKit Go.Proofs.Tryz
def inBad(xs:List Record)(i:Nat)(r:Record):Bool:=
 r.op != 0||r.stamp.turn != 0||(match i with | 0=>false | j+1=>match xs[j]? with | some q=>decide (q.stamp.epoch>r.stamp.epoch) | none=>false)
theorem qqE{xs:List Record}{i:Nat}{a:Record}(ha:xs[i]?=some a)(h:inBad xs i a=true):
  (a.op != 0)=true∨((a.op != 0)=false∧(a.stamp.turn != 0)=true)∨((a.op != 0)=false∧(a.stamp.turn != 0)=false∧∃j b,i=j+1∧xs[j]?=some b∧decide (b.stamp.epoch>a.stamp.epoch)=true):=by
 unfold inBad at h
 cases h1:(a.op != 0) with
 | true=>exact .inl rfl
 | false=>
 cases h2:(a.stamp.turn != 0) with
 | true=>exact .inr (.inl ⟨rfl,rfl⟩)
 | false=>
 rw[h1,h2,zal,zal]at h
 cases i with
 | zero=>cases h
 | succ j=>
  have hj:j<xs.length:=by have:=lt_of ha;omega
  obtain⟨b,hb⟩:=qag hj
  simp only[hb]at h
  exact .inr (.inr ⟨rfl,rfl,j,b,rfl,hb,h⟩)
theorem qqF{xs:List Record}{i:Nat}{a:Record}(ha:xs[i]?=some a)(h:inBad xs i a=false):
  (a.op != 0)=false∧(a.stamp.turn != 0)=false∧(i=0∨∃j b,i=j+1∧xs[j]?=some b∧decide (b.stamp.epoch>a.stamp.epoch)=false):=by
 unfold inBad at h
 rw[zy,zy]at h
 obtain⟨⟨h1,h2⟩,h⟩:=h
 refine⟨h1,h2,?_⟩
 cases i with
 | zero=>exact .inl rfl
 | succ j=>
  have hj:j<xs.length:=by have:=lt_of ha;omega
  obtain⟨b,hb⟩:=qag hj
  simp only[hb]at h
  exact .inr ⟨j,b,rfl,hb,h⟩
theorem qjb{α:Type}(f:α→List D){xs:List α}{j:Nat}{b:α}(h:xs[j]?=some b):(xs.map f)[(((j+1:Nat):Int)-1).toNat]?=some (f b):=by
 rw[show (((j+1:Nat):Int)-1)=(j:Int) by omega]
 exact qac f h
theorem qjc{α β:Type}{f:α→β}{xs:List α}{j:Nat}{b:α}(h:xs[j]?=some b):(((j+1:Nat):Int)-1)<(↑(xs.map f).length:Int):=by
 have:=lt_of h
 rw[zb];omega
def qcj(n:Int):Bool:=!inR n (-1000000) 1000000
def qbZ(xs:List Done)(i:Nat)(d:Done):Bool:=!inR d.epoch 0 3||(xs.take i).any (fun q=>q.epoch==d.epoch)
theorem len4{α β:Type}{f:α→β}{xs:List α}(h:(xs.length==4)=true):((↑(xs.map f).length:Int) != 4)=false:=by
 rw[zb,eq_of_beq h];rfl
theorem len4'{α β:Type}{f:α→β}{xs:List α}(h:(xs.length==4)=false):((↑(xs.map f).length:Int) != 4)=true:=by
 rw[zb]
 have:=ne_of_beq_false h
 simp only[bne_iff_ne,zcc];omega
def qaC(g:Graph)(w:Worker):Bool:=
 qaU g w.queue&&(qaU g w.staged&&(qaU g w.inputs&&(qbx w.cells&&((w.sums.length==4)&&((w.black.length==4)&&((w.caps.length==4)&&(!anyI (inBad w.inputs) 0 w.inputs&&(!(w.sums.any qcj)&&!anyI (qbZ w.dones) 0 w.dones))))))))
theorem Worker.staged_le{w:Worker}(h:w.sz≤8388608):w.staged.length≤8388608:=by simp only[Worker.sz]at h;omega
theorem Worker.cells_le'{w:Worker}(h:w.sz≤8388608):w.cells.length≤8388608:=by simp only[Worker.sz]at h;omega
theorem Worker.sums_le{w:Worker}(h:w.sz≤8388608):w.sums.length≤8388608:=by simp only[Worker.sz]at h;omega
theorem Worker.dones_le'{w:Worker}(h:w.sz≤8388608):w.dones.length≤8388608:=by simp only[Worker.sz]at h;omega
theorem qKv(w:Worker)(hl:w.inputs.length≤8388608):
  (anyI (inBad w.inputs) 0 w.inputs=false∧qan prog (qaa f187 0) (qb8 (w.queue.map Record.e) (w.staged.map Record.e) (w.inputs.map Record.e) (w.cells.map Cell.e) (w.sums.map eI) (w.black.map eB) (w.caps.map eB) (w.dones.map Done.e) 0) (.exit 0) (qhE (w.queue.map Record.e) (w.staged.map Record.e) (w.inputs.map Record.e) (w.cells.map Cell.e) (w.sums.map eI) (w.black.map eB) (w.caps.map eB) (w.dones.map Done.e)))∨
  (anyI (inBad w.inputs) 0 w.inputs=true∧qan prog (qaa f187 0) (qb8 (w.queue.map Record.e) (w.staged.map Record.e) (w.inputs.map Record.e) (w.cells.map Cell.e) (w.sums.map eI) (w.black.map eB) (w.caps.map eB) (w.dones.map Done.e) 0) .ret (qhD false)):=
 qdT (P:=prog) (c:=(qaa f187 0)) w.inputs (inBad w.inputs) (fun i=>qb8 (w.queue.map Record.e) (w.staged.map Record.e) (w.inputs.map Record.e) (w.cells.map Cell.e) (w.sums.map eI) (w.black.map eB) (w.caps.map eB) (w.dones.map Done.e) i) qaw (qaf 0)
  (fun i a ha h=>by
   have hi:=lt_of ha
   obtain⟨h1,h2,rfl | ⟨j,b,rfl,hb,h3⟩⟩:=qqF ha h
   ·exact qDv ⟨lt1 (lt_of ha),lt0,lt2 (lt_of ha),qac Record.e ha,h1,lt0,lt2 (lt_of ha),qac Record.e ha,h2,dF (by omega),up1 (lt_of ha) hl,trivial⟩
   ·exact qDu ⟨lt1 (lt_of ha),lt0,lt2 (lt_of ha),qac Record.e ha,h1,lt0,lt2 (lt_of ha),qac Record.e ha,h2,dT (by omega),⟨by omega,by omega⟩,by omega,qjc hb,qjb Record.e hb,lt0,lt2 (lt_of ha),qac Record.e ha,h3,up1 (lt_of ha) hl,trivial⟩)
  (fun i a ha h=>by
   have hi:=lt_of ha
   rcases qqE ha h with h1 | ⟨h1,h2⟩ | ⟨h1,h2,j,b,rfl,hb,h3⟩
   ·exact qDr ⟨lt1 (lt_of ha),lt0,lt2 (lt_of ha),qac Record.e ha,h1,trivial⟩
   ·exact qDs ⟨lt1 (lt_of ha),lt0,lt2 (lt_of ha),qac Record.e ha,h1,lt0,lt2 (lt_of ha),qac Record.e ha,h2,trivial⟩
   ·exact qDt ⟨lt1 (lt_of ha),lt0,lt2 (lt_of ha),qac Record.e ha,h1,lt0,lt2 (lt_of ha),qac Record.e ha,h2,dT (by omega),⟨by omega,by omega⟩,by omega,qjc hb,qjb Record.e hb,lt0,lt2 (lt_of ha),qac Record.e ha,h3,trivial⟩)
  (qDw ⟨ge1,trivial⟩)
theorem qKw(w:Worker)(hl:w.dones.length≤8388608):
  (anyI (qbZ w.dones) 0 w.dones=false∧qan prog (qaa f187 2) (qdn (w.queue.map Record.e) (w.staged.map Record.e) (w.inputs.map Record.e) (w.cells.map Cell.e) (w.sums.map eI) (w.black.map eB) (w.caps.map eB) (w.dones.map Done.e) 0) (.exit 4) qll)∨
  (anyI (qbZ w.dones) 0 w.dones=true∧qan prog (qaa f187 2) (qdn (w.queue.map Record.e) (w.staged.map Record.e) (w.inputs.map Record.e) (w.cells.map Cell.e) (w.sums.map eI) (w.black.map eB) (w.caps.map eB) (w.dones.map Done.e) 0) .ret (qi0 false)):=by
 have inner:∀(i:Nat) (a:Done),w.dones[i]?=some a→
   (((w.dones.take i).any (fun q=>q.epoch==a.epoch))=false∧qan prog (qaa f187 3) (qdE (w.queue.map Record.e) (w.staged.map Record.e) (w.inputs.map Record.e) (w.cells.map Cell.e) (w.sums.map eI) (w.black.map eB) (w.caps.map eB) (w.dones.map Done.e) i 0) (.exit 6) (qlk (w.queue.map Record.e) (w.staged.map Record.e) (w.inputs.map Record.e) (w.cells.map Cell.e) (w.sums.map eI) (w.black.map eB) (w.caps.map eB) (w.dones.map Done.e) i))∨
   (((w.dones.take i).any (fun q=>q.epoch==a.epoch))=true∧qan prog (qaa f187 3) (qdE (w.queue.map Record.e) (w.staged.map Record.e) (w.inputs.map Record.e) (w.cells.map Cell.e) (w.sums.map eI) (w.black.map eB) (w.caps.map eB) (w.dones.map Done.e) i 0) .ret (qi1 false)):=by
  intro i a ha
  have hi:=lt_of ha
  have hlen:(w.dones.take i).length=i:=by rw[zay];omega
  have tk:∀{k:Nat} {b:Done},(w.dones.take i)[k]?=some b→k<i∧w.dones[k]?=some b:=fun {k b} h=>by
   have hk:=lt_of h
   rw[hlen]at hk
   rw[zF,zp hk]at h
   exact⟨hk,h⟩
  have l:=qaS (P:=prog) (c:=(qaa f187 3)) (w.dones.take i) (fun q=>q.epoch==a.epoch) (fun k=>qdE (w.queue.map Record.e) (w.staged.map Record.e) (w.inputs.map Record.e) (w.cells.map Cell.e) (w.sums.map eI) (w.black.map eB) (w.caps.map eB) (w.dones.map Done.e) i k) (X:=fun _ _=>qi1 false) qaw (qaf 6)
   (fun k b hb h=>by
    obtain⟨hk,hb⟩:=tk hb
    exact qDE ⟨dT (by omega),lt0,lt2 (lt_of hb),qac Done.e hb,lt0,lt2 (lt_of ha),qac Done.e ha,h,up1 (lt_of hb) hl,trivial⟩)
   (fun k b hb h=>by
    obtain⟨hk,hb⟩:=tk hb
    exact qDD ⟨dT (by omega),lt0,lt2 (lt_of hb),qac Done.e hb,lt0,lt2 (lt_of ha),qac Done.e ha,h,trivial⟩)
   (qDF ⟨dF (by rw[hlen];omega),trivial⟩)
  rcases l with⟨_,_,h1,h2⟩ | ⟨_,_,_,_,_,_,h1,h2⟩
  ·exact .inl ⟨h1,h2⟩
  ·exact .inr ⟨h1,h2⟩
 exact qdT (P:=prog) (c:=(qaa f187 2)) w.dones (qbZ w.dones) (fun i=>qdn (w.queue.map Record.e) (w.staged.map Record.e) (w.inputs.map Record.e) (w.cells.map Cell.e) (w.sums.map eI) (w.black.map eB) (w.caps.map eB) (w.dones.map Done.e) i) qaw (qaf 4)
  (fun i a ha h=>by
   simp only[qbZ,zy,zX]at h
   rcases inner i a ha with⟨e,l⟩ | ⟨e,l⟩
   ·exact qDH ⟨lt1 (lt_of ha),lt0,lt2 (lt_of ha),qac Done.e ha,qaM _ _ _ true h.1,rfl,l,up1 (lt_of ha) hl,trivial⟩
   ·rw[h.2]at e;cases e)
  (fun i a ha h=>by
   cases h1:inR a.epoch 0 3 with
   | false=>exact qDC ⟨lt1 (lt_of ha),lt0,lt2 (lt_of ha),qac Done.e ha,qaM _ _ _ false h1,rfl,trivial⟩
   | true=>
    simp only[qbZ,h1,zZ,zal]at h
    rcases inner i a ha with⟨e,l⟩ | ⟨e,l⟩
    ·rw[h]at e;cases e
    ·exact qDG ⟨lt1 (lt_of ha),lt0,lt2 (lt_of ha),qac Done.e ha,qaM _ _ _ true h1,rfl,l,trivial⟩)
  (qDI ⟨ge1,trivial⟩)
theorem qqG(g:Graph)(w:Worker)(hg:g.sz≤8388608)(hw:w.sz≤8388608):Rt 187 [.agg g.e,.agg w.e] [.one (B (qaC g w))]:=by
 unfold qaC
 cases h1:qaU g w.queue with
 | false=>exact qDk ⟨qfk g _ _ h1 hg (Worker.queue_le hw),rfl,trivial⟩
 | true=>
 have c1:=qfk g _ _ h1 hg (Worker.queue_le hw)
 cases h2:qaU g w.staged with
 | false=>exact qDl ⟨c1,rfl,qfk g _ _ h2 hg (Worker.staged_le hw),rfl,trivial⟩
 | true=>
 have c2:=qfk g _ _ h2 hg (Worker.staged_le hw)
 cases h3:qaU g w.inputs with
 | false=>exact qDm ⟨c1,rfl,c2,rfl,qfk g _ _ h3 hg (Worker.inputs_le hw),rfl,trivial⟩
 | true=>
 have c3:=qfk g _ _ h3 hg (Worker.inputs_le hw)
 cases h4:qbx w.cells with
 | false=>exact qDn ⟨c1,rfl,c2,rfl,c3,rfl,qqB _ _ h4 (Worker.cells_le' hw),rfl,trivial⟩
 | true=>
 have c4:=qqB _ _ h4 (Worker.cells_le' hw)
 cases h5:(w.sums.length==4) with
 | false=>exact qDo ⟨c1,rfl,c2,rfl,c3,rfl,c4,rfl,len4' h5,trivial⟩
 | true=>
 cases h6:(w.black.length==4) with
 | false=>exact qDp ⟨c1,rfl,c2,rfl,c3,rfl,c4,rfl,len4 h5,len4' h6,trivial⟩
 | true=>
 cases h7:(w.caps.length==4) with
 | false=>exact qDq ⟨c1,rfl,c2,rfl,c3,rfl,c4,rfl,len4 h5,len4 h6,len4' h7,trivial⟩
 | true=>
 have hs4:w.sums.length=4:=eq_of_beq h5
 rcases qKv w (Worker.inputs_le hw) with⟨h8,l8⟩ | ⟨h8,l8⟩
 case inr=>rw[h8];exact qDx ⟨c1,rfl,c2,rfl,c3,rfl,c4,rfl,len4 h5,len4 h6,len4 h7,l8,trivial⟩
 have l9:=qaS (P:=prog) (c:=(qaa f187 1)) w.sums qcj (fun i=>qd4 (w.queue.map Record.e) (w.staged.map Record.e) (w.inputs.map Record.e) (w.cells.map Cell.e) (w.sums.map eI) (w.black.map eB) (w.caps.map eB) (w.dones.map Done.e) i) (X:=fun _ _=>qli false) qaw (qaf 2)
  (fun i a ha h=>qDz ⟨dT (by have:=lt_of ha;omega),lt0,lt2 (lt_of ha),qac eI ha,qaM _ _ _ true (by simpa[qcj]using h),rfl,up1 (lt_of ha) (Worker.sums_le hw),trivial⟩)
  (fun i a ha h=>qDy ⟨dT (by have:=lt_of ha;omega),lt0,lt2 (lt_of ha),qac eI ha,qaM _ _ _ false (by simpa[qcj]using h),rfl,trivial⟩)
  (qDA ⟨dF (by omega),trivial⟩)
 rw[h8]
 rcases l9 with⟨_,_,h9,l9⟩ | ⟨_,_,_,_,_,_,h9,l9⟩
 case inr=>rw[h9];exact qDB ⟨c1,rfl,c2,rfl,c3,rfl,c4,rfl,len4 h5,len4 h6,len4 h7,l8,l9,trivial⟩
 rw[h9]
 rcases qKw w (Worker.dones_le' hw) with⟨h10,l10⟩ | ⟨h10,l10⟩
 ·rw[h10];exact qDK ⟨c1,rfl,c2,rfl,c3,rfl,c4,rfl,len4 h5,len4 h6,len4 h7,l8,l9,l10,trivial⟩
 ·rw[h10];exact qDJ ⟨c1,rfl,c2,rfl,c3,rfl,c4,rfl,len4 h5,len4 h6,len4 h7,l8,l9,l10,trivial⟩
end Go.Proofs.YtdanpadojemjeaaGreat
namespace Go.Proofs.YtdanpadojemjeaaGreat
open Go.Sx Go.RowKit Go.Proofs.Tryz
theorem qKx(w:Worker)(hl:w.inputs.length≤8388608):
  (anyI (inBad w.inputs) 0 w.inputs=false∧qan prog (qaa f123 0) (qbJ (w.inputs.map Record.e) 0 (w.queue.map Record.e) (w.staged.map Record.e) (w.inputs.map Record.e) (w.cells.map Cell.e) (w.sums.map eI) (w.black.map eB) (w.caps.map eB) (w.dones.map Done.e)) (.exit 0) (qd5 (w.queue.map Record.e) (w.staged.map Record.e) (w.inputs.map Record.e) (w.cells.map Cell.e) (w.sums.map eI) (w.black.map eB) (w.caps.map eB) (w.dones.map Done.e)))∨
  (anyI (inBad w.inputs) 0 w.inputs=true∧qan prog (qaa f123 0) (qbJ (w.inputs.map Record.e) 0 (w.queue.map Record.e) (w.staged.map Record.e) (w.inputs.map Record.e) (w.cells.map Cell.e) (w.sums.map eI) (w.black.map eB) (w.caps.map eB) (w.dones.map Done.e)) .ret (qhF false)):=
 qdT (P:=prog) (c:=(qaa f123 0)) w.inputs (inBad w.inputs) (fun i=>qbJ (w.inputs.map Record.e) i (w.queue.map Record.e) (w.staged.map Record.e) (w.inputs.map Record.e) (w.cells.map Cell.e) (w.sums.map eI) (w.black.map eB) (w.caps.map eB) (w.dones.map Done.e)) qaw (qaf 0)
  (fun i a ha h=>by
   have hi:=lt_of ha
   obtain⟨h1,h2,rfl | ⟨j,b,rfl,hb,h3⟩⟩:=qqF ha h
   ·exact qDT ⟨lt1 (lt_of ha),lt0,lt2 (lt_of ha),qac Record.e ha,h1,h2,dF (by omega),up1 (lt_of ha) hl,trivial⟩
   ·exact qDS ⟨lt1 (lt_of ha),lt0,lt2 (lt_of ha),qac Record.e ha,h1,h2,dT (by omega),⟨by omega,by omega⟩,by omega,qjc hb,qjb Record.e hb,h3,up1 (lt_of ha) hl,trivial⟩)
  (fun i a ha h=>by
   have hi:=lt_of ha
   rcases qqE ha h with h1 | ⟨h1,h2⟩ | ⟨h1,h2,j,b,rfl,hb,h3⟩
   ·exact qDP ⟨lt1 (lt_of ha),lt0,lt2 (lt_of ha),qac Record.e ha,h1,trivial⟩
   ·exact qDQ ⟨lt1 (lt_of ha),lt0,lt2 (lt_of ha),qac Record.e ha,h1,h2,trivial⟩
   ·exact qDR ⟨lt1 (lt_of ha),lt0,lt2 (lt_of ha),qac Record.e ha,h1,h2,dT (by omega),⟨by omega,by omega⟩,by omega,qjc hb,qjb Record.e hb,h3,trivial⟩)
  (qDU ⟨ge1,trivial⟩)
theorem qqH(xs:List Done)(i:Nat)(e:Int)(r:Bool)(h:(xs.take i).any (fun q=>q.epoch==e)=r)(hl:xs.length≤8388608):Rt 126 [.one (.sl 2 ((xs.map Done.e).take i)),.one (I e)] [.one (B r)]:=by
 have c:=qp6 (xs.take i) e (by rw[zay];omega)
 rw[zcr,h]at c
 exact c
theorem qKy(w:Worker)(hl:w.dones.length≤8388608):
  (anyI (qbZ w.dones) 0 w.dones=false∧qan prog (qaa f123 2) (qdo (w.dones.map Done.e) 0 (w.queue.map Record.e) (w.staged.map Record.e) (w.inputs.map Record.e) (w.cells.map Cell.e) (w.sums.map eI) (w.black.map eB) (w.caps.map eB) (w.dones.map Done.e)) (.exit 4) qlo)∨
  (anyI (qbZ w.dones) 0 w.dones=true∧qan prog (qaa f123 2) (qdo (w.dones.map Done.e) 0 (w.queue.map Record.e) (w.staged.map Record.e) (w.inputs.map Record.e) (w.cells.map Cell.e) (w.sums.map eI) (w.black.map eB) (w.caps.map eB) (w.dones.map Done.e)) .ret (qi2 false)):=
 qdT (P:=prog) (c:=(qaa f123 2)) w.dones (qbZ w.dones) (fun i=>qdo (w.dones.map Done.e) i (w.queue.map Record.e) (w.staged.map Record.e) (w.inputs.map Record.e) (w.cells.map Cell.e) (w.sums.map eI) (w.black.map eB) (w.caps.map eB) (w.dones.map Done.e)) qaw (qaf 4)
  (fun i a ha h=>by
   have hi:=lt_of ha
   simp only[qbZ,zy,zX]at h
   exact qD5 ⟨lt1 (lt_of ha),lt0,lt2 (lt_of ha),qac Done.e ha,qa2 _ _ _ true h.1,rfl,Int.le_refl 0,(lt0:(0:Int)≤(i:Int)),(show (i:Int)≤_ by rw[zb];omega),qqH w.dones i a.epoch false h.2 hl,rfl,up1 (lt_of ha) hl,trivial⟩)
  (fun i a ha h=>by
   have hi:=lt_of ha
   cases h1:inR a.epoch 0 3 with
   | false=>exact qD3 ⟨lt1 (lt_of ha),lt0,lt2 (lt_of ha),qac Done.e ha,qa2 _ _ _ false h1,rfl,trivial⟩
   | true=>
    simp only[qbZ,h1,zZ,zal]at h
    exact qD4 ⟨lt1 (lt_of ha),lt0,lt2 (lt_of ha),qac Done.e ha,qa2 _ _ _ true h1,rfl,Int.le_refl 0,(lt0:(0:Int)≤(i:Int)),(show (i:Int)≤_ by rw[zb];omega),qqH w.dones i a.epoch true h hl,rfl,trivial⟩)
  (qD6 ⟨ge1,trivial⟩)
theorem qjd(g:Graph)(w:Worker)(hg:g.sz≤8388608)(hw:w.sz≤8388608):Rt 123 [.agg g.e,.agg w.e] [.one (B (qaC g w))]:=by
 unfold qaC
 cases h1:qaU g w.queue with
 | false=>exact qDL ⟨qfl g _ _ h1 hg (Worker.queue_le hw),rfl,trivial⟩
 | true=>
 have c1:=qfl g _ _ h1 hg (Worker.queue_le hw)
 cases h2:qaU g w.staged with
 | false=>exact qDM ⟨c1,rfl,qfl g _ _ h2 hg (Worker.staged_le hw),rfl,trivial⟩
 | true=>
 have c2:=qfl g _ _ h2 hg (Worker.staged_le hw)
 cases h3:qaU g w.inputs with
 | false=>exact qDN ⟨c1,rfl,c2,rfl,qfl g _ _ h3 hg (Worker.inputs_le hw),rfl,trivial⟩
 | true=>
 have c3:=qfl g _ _ h3 hg (Worker.inputs_le hw)
 cases h4:qbx w.cells with
 | false=>exact qDO ⟨c1,rfl,c2,rfl,c3,rfl,qqC _ _ h4 (Worker.cells_le' hw),rfl,trivial⟩
 | true=>
 have c4:=qqC _ _ h4 (Worker.cells_le' hw)
 rcases qKx w (Worker.inputs_le hw) with⟨h8,l8⟩ | ⟨h8,l8⟩
 case inr=>
  rw[h8]
  simp only[zZ,Bool.false_and,Bool.and_false]
  exact qDV ⟨c1,rfl,c2,rfl,c3,rfl,c4,rfl,l8,trivial⟩
 cases h5:(w.sums.length==4) with
 | false=>exact qDW ⟨c1,rfl,c2,rfl,c3,rfl,c4,rfl,l8,len4' h5,trivial⟩
 | true=>
 cases h6:(w.black.length==4) with
 | false=>exact qDX ⟨c1,rfl,c2,rfl,c3,rfl,c4,rfl,l8,len4 h5,len4' h6,trivial⟩
 | true=>
 cases h7:(w.caps.length==4) with
 | false=>exact qDY ⟨c1,rfl,c2,rfl,c3,rfl,c4,rfl,l8,len4 h5,len4 h6,len4' h7,trivial⟩
 | true=>
 have l9:=qaS (P:=prog) (c:=(qaa f123 1)) w.sums qcj (fun i=>qd6 (w.queue.map Record.e) (w.staged.map Record.e) (w.inputs.map Record.e) (w.cells.map Cell.e) (w.sums.map eI) (w.black.map eB) (w.caps.map eB) (w.dones.map Done.e) i) (X:=fun _ _=>qlm false) qaw (qaf 2)
  (fun i a ha h=>qD0 ⟨lt1 (lt_of ha),lt0,lt2 (lt_of ha),qac eI ha,qa2 _ _ _ true (by simpa[qcj]using h),rfl,up1 (lt_of ha) (Worker.sums_le hw),trivial⟩)
  (fun i a ha h=>qDZ ⟨lt1 (lt_of ha),lt0,lt2 (lt_of ha),qac eI ha,qa2 _ _ _ false (by simpa[qcj]using h),rfl,trivial⟩)
  (qD1 ⟨ge1,trivial⟩)
 rw[h8]
 rcases l9 with⟨_,_,h9,l9⟩ | ⟨_,_,_,_,_,_,h9,l9⟩
 case inr=>rw[h9];exact qD2 ⟨c1,rfl,c2,rfl,c3,rfl,c4,rfl,l8,len4 h5,len4 h6,len4 h7,l9,trivial⟩
 rw[h9]
 rcases qKy w (Worker.dones_le' hw) with⟨h10,l10⟩ | ⟨h10,l10⟩
 ·rw[h10];exact qD8 ⟨c1,rfl,c2,rfl,c3,rfl,c4,rfl,l8,len4 h5,len4 h6,len4 h7,l9,l10,trivial⟩
 ·rw[h10];exact qD7 ⟨c1,rfl,c2,rfl,c3,rfl,c4,rfl,l8,len4 h5,len4 h6,len4 h7,l9,l10,trivial⟩
end Go.Proofs.YtdanpadojemjeaaGreat
namespace Go.Proofs.YtdanpadojemjeaaGreat
open Go.Sx Go.RowKit Go.Proofs.Tryz
theorem graph_sz1{c:Cluster}(h:c.sz≤8388608):c.graph.sz≤8388608:=by simp only[Cluster.sz]at h;omega
theorem qqI{c:Cluster}(h:c.sz≤8388608):c.tokens.length≤8388608:=by simp only[Cluster.sz,szS]at h;omega
theorem qfm{c:Cluster}(h:c.sz≤8388608):c.news.length≤8388608:=by simp only[Cluster.sz,szS]at h;omega
def qbu(g:Graph)(i:Nat)(l:Link):Bool:=
 !qbt l||((l.cap != g.cap)||(!qaU g l.queue||((i:Int).tdiv g.workers==(i:Int).tmod g.workers&&decide ((l.queue.length:Int)>0))))
def qbK(n:Int)(t:Token):Bool:=!inR t.place 0 (n-1)||((!t.going&&t.place != 0)||!inR t.sum (-1000000) 1000000)
def qbL(n:Int)(x:News):Bool:=!inR x.dest 0 (n-1)||!inR x.epoch 0 3
def qah(c:Cluster):Bool:=
 qaz c.graph&&(((c.workers.length:Int)==c.graph.workers)&&(((c.links.length:Int)==c.graph.workers*c.graph.workers)&&((c.tokens.length==4)&&(!(c.workers.any fun w=>!qaC c.graph w)&&(!(anyI (qbu c.graph) 0 c.links)&&(!(c.tokens.any (qbK c.graph.workers))&&!(c.news.any (qbL c.graph.workers))))))))
theorem qcy{g:Graph}(h:qaz g=true):1≤g.workers∧g.workers≤4:=by
 simp only[qaz,zj,inR,zi]at h
 omega
theorem qgr(i:Nat)(n:Int)(hi:i≤8388608)(hn:1≤n):inInt .i64 ((i:Int).tdiv n):=by
 have h1:0≤(i:Int).tdiv n:=Int.tdiv_nonneg (by omega) (by omega)
 have h2:(i:Int).tdiv n≤(i:Int):=Int.tdiv_le_self _ (by omega)
 exact⟨by omega,by omega⟩
theorem qKz{c:Cluster}(h:c.wf){l:Link}(hl:l∈c.links):l.got≤9223372036854775807:=by
 have:=(Cluster.link_wf h hl).got_ok
 simp only[inInt]at this
 exact this.2
def GotLe(c:Cluster):Prop:=∀l∈c.links,l.got≤9223372036854775807
theorem GotLe.of{c:Cluster}(h:c.wf):GotLe c:=fun _ hl=>qKz h hl
theorem qKA(c:Cluster)(hc:c.sz≤8388608)(hn:(c.workers.length:Int)=c.graph.workers):
  ((c.workers.any fun w=>!qaC c.graph w)=false∧qan prog (qaa f113 0) (qcK (c.graph.nodes.map Node.e) c.graph.workers c.graph.cap (c.workers.map Worker.e) (c.links.map Link.e) (c.tokens.map Token.e) (c.news.map News.e) 0) (.exit 0) (qgk (c.graph.nodes.map Node.e) c.graph.workers c.graph.cap (c.workers.map Worker.e) (c.links.map Link.e) (c.tokens.map Token.e) (c.news.map News.e)))∨
  ((c.workers.any fun w=>!qaC c.graph w)=true∧qan prog (qaa f113 0) (qcK (c.graph.nodes.map Node.e) c.graph.workers c.graph.cap (c.workers.map Worker.e) (c.links.map Link.e) (c.tokens.map Token.e) (c.news.map News.e) 0) .ret (qi3 false)):=by
 have hl:=Cluster.wlen_le hc
 have l:=qaS (P:=prog) (c:=(qaa f113 0)) c.workers (fun w=>!qaC c.graph w) (fun i=>qcK (c.graph.nodes.map Node.e) c.graph.workers c.graph.cap (c.workers.map Worker.e) (c.links.map Link.e) (c.tokens.map Token.e) (c.news.map News.e) i) (X:=fun _ _=>qi3 false) qaw (qaf 0)
  (fun i a ha h=>by
   have k:=qqG c.graph a (graph_sz1 hc) (Cluster.worker_sz hc (qas ha))
   rw[show qaC c.graph a=true by simpa using h]at k
   exact qEC ⟨dT (by have:=lt_of ha;omega),lt0,lt2 (lt_of ha),qac Worker.e ha,k,rfl,up1 (lt_of ha) hl,trivial⟩)
  (fun i a ha h=>by
   have k:=qqG c.graph a (graph_sz1 hc) (Cluster.worker_sz hc (qas ha))
   rw[show qaC c.graph a=false by simpa using h]at k
   exact qEB ⟨dT (by have:=lt_of ha;omega),lt0,lt2 (lt_of ha),qac Worker.e ha,k,rfl,trivial⟩)
  (qED ⟨dF (by omega),trivial⟩)
 rcases l with⟨_,_,h1,h2⟩ | ⟨_,_,_,_,_,_,h1,h2⟩
 ·exact .inl ⟨h1,h2⟩
 ·exact .inr ⟨h1,h2⟩
theorem qKB(c:Cluster)(hc:c.sz≤8388608)(hw:GotLe c)(hn:1≤c.graph.workers):
  (anyI (qbu c.graph) 0 c.links=false∧qan prog (qaa f113 1) (qbX c.graph.workers 0 (c.graph.nodes.map Node.e) c.graph.workers c.graph.cap (c.workers.map Worker.e) (c.links.map Link.e) (c.tokens.map Token.e) (c.news.map News.e)) (.exit 2) (qhG c.graph.workers (c.graph.nodes.map Node.e) c.graph.workers c.graph.cap (c.workers.map Worker.e) (c.links.map Link.e) (c.tokens.map Token.e) (c.news.map News.e)))∨
  (anyI (qbu c.graph) 0 c.links=true∧qan prog (qaa f113 1) (qbX c.graph.workers 0 (c.graph.nodes.map Node.e) c.graph.workers c.graph.cap (c.workers.map Worker.e) (c.links.map Link.e) (c.tokens.map Token.e) (c.news.map News.e)) .ret (qgl false)):=by
 have hl:=Cluster.llen_le hc
 have kl:∀(i:Nat) (a:Link),c.links[i]?=some a→∀r,qbt a=r→Rt 188 [.agg a.e] [.one (B r)]:=fun i a ha r h=>h▸qja a (Cluster.link_sz hc (qas ha))
 have kr:∀(i:Nat) (a:Link),c.links[i]?=some a→∀r,qaU c.graph a.queue=r→Rt 189 [.agg c.graph.e,.one (.sl 5 (a.queue.map Record.e))] [.one (B r)]:=fun i a ha r h=>qfk c.graph _ r h (graph_sz1 hc) (Cluster.link_sz hc (qas ha))
 exact qdT (P:=prog) (c:=(qaa f113 1)) c.links (qbu c.graph) (fun i=>qbX c.graph.workers i (c.graph.nodes.map Node.e) c.graph.workers c.graph.cap (c.workers.map Worker.e) (c.links.map Link.e) (c.tokens.map Token.e) (c.news.map News.e)) qaw (qaf 2)
  (fun i a ha h=>by
   have hi:=lt_of ha
   simp only[qbu,zy,zX]at h
   obtain⟨h1,h2,h3,h4⟩:=h
   cases h5:((i:Int).tdiv c.graph.workers==(i:Int).tmod c.graph.workers) with
   | true=>
    rw[h5,zbl]at h4
    exact qEJ ⟨lt1 (lt_of ha),lt0,lt2 (lt_of ha),qac Link.e ha,kl i a ha _ h1,rfl,h2,kr i a ha _ h3,rfl,by omega,qgr i _ (by omega) hn,by omega,h5,by rw[zb];exact h4,up1 hi hl,trivial⟩
   | false=>exact qEK ⟨lt1 (lt_of ha),lt0,lt2 (lt_of ha),qac Link.e ha,kl i a ha _ h1,rfl,h2,kr i a ha _ h3,rfl,by omega,qgr i _ (by omega) hn,by omega,h5,up1 hi hl,trivial⟩)
  (fun i a ha h=>by
   have hi:=lt_of ha
   cases h1:qbt a with
   | false=>exact qEF ⟨lt1 (lt_of ha),lt0,lt2 (lt_of ha),qac Link.e ha,kl i a ha _ h1,rfl,trivial⟩
   | true=>
   cases h2:(a.cap != c.graph.cap) with
   | true=>exact qEG ⟨lt1 (lt_of ha),lt0,lt2 (lt_of ha),qac Link.e ha,kl i a ha _ h1,rfl,h2,trivial⟩
   | false=>
   cases h3:qaU c.graph a.queue with
   | false=>exact qEH ⟨lt1 (lt_of ha),lt0,lt2 (lt_of ha),qac Link.e ha,kl i a ha _ h1,rfl,h2,kr i a ha _ h3,rfl,trivial⟩
   | true=>
   simp only[qbu,h1,h2,h3,zZ,zal,zj]at h
   exact qEI ⟨lt1 (lt_of ha),lt0,lt2 (lt_of ha),qac Link.e ha,kl i a ha _ h1,rfl,h2,kr i a ha _ h3,rfl,by omega,qgr i _ (by omega) hn,by omega,h.1,by rw[zb];exact h.2,trivial⟩)
  (qEL ⟨ge1,trivial⟩)
theorem qKC(c:Cluster)(hc:c.sz≤8388608)(hn:1≤c.graph.workers∧c.graph.workers≤4):
  ((c.tokens.any (qbK c.graph.workers))=false∧qan prog (qaa f113 2) (qb9 c.graph.workers (c.graph.nodes.map Node.e) c.graph.workers c.graph.cap (c.workers.map Worker.e) (c.links.map Link.e) (c.tokens.map Token.e) (c.news.map News.e) 0) (.exit 4) (qi4 c.graph.workers (c.graph.nodes.map Node.e) c.graph.workers c.graph.cap (c.workers.map Worker.e) (c.links.map Link.e) (c.tokens.map Token.e) (c.news.map News.e)))∨
  ((c.tokens.any (qbK c.graph.workers))=true∧qan prog (qaa f113 2) (qb9 c.graph.workers (c.graph.nodes.map Node.e) c.graph.workers c.graph.cap (c.workers.map Worker.e) (c.links.map Link.e) (c.tokens.map Token.e) (c.news.map News.e) 0) .ret (qfa false)):=by
 have hl:=qqI hc
 have l:=qaS (P:=prog) (c:=(qaa f113 2)) c.tokens (qbK c.graph.workers) (fun i=>qb9 c.graph.workers (c.graph.nodes.map Node.e) c.graph.workers c.graph.cap (c.workers.map Worker.e) (c.links.map Link.e) (c.tokens.map Token.e) (c.news.map News.e) i) (X:=fun _ _=>qfa false) qaw (qaf 4)
  (fun i a ha h=>by
   have hi:=lt_of ha
   simp only[qbK,zy,zX]at h
   obtain⟨h1,h2,h3⟩:=h
   cases hg:a.going with
   | false=>
    rw[hg,zbc,zbl]at h2
    exact qEQ ⟨lt1 (lt_of ha),lt0,lt2 (lt_of ha),qac Token.e ha,⟨by omega,by omega⟩,qaM _ _ _ true h1,rfl,lt0,lt2 (lt_of ha),qac Token.e ha,by rw[hg];rfl,lt0,lt2 (lt_of ha),qac Token.e ha,h2,lt0,lt2 (lt_of ha),qac Token.e ha,qaM _ _ _ true h3,rfl,up1 hi hl,trivial⟩
   | true=>exact qES ⟨lt1 (lt_of ha),lt0,lt2 (lt_of ha),qac Token.e ha,⟨by omega,by omega⟩,qaM _ _ _ true h1,rfl,lt0,lt2 (lt_of ha),qac Token.e ha,by rw[hg];rfl,lt0,lt2 (lt_of ha),qac Token.e ha,qaM _ _ _ true h3,rfl,up1 hi hl,trivial⟩)
  (fun i a ha h=>by
   have hi:=lt_of ha
   cases h1:inR a.place 0 (c.graph.workers-1) with
   | false=>exact qEN ⟨lt1 (lt_of ha),lt0,lt2 (lt_of ha),qac Token.e ha,⟨by omega,by omega⟩,qaM _ _ _ false h1,rfl,trivial⟩
   | true=>
   simp only[qbK,h1,zZ,zal]at h
   cases hg:a.going with
   | false=>
    rw[hg,zbc,zbl]at h
    cases h2:(a.place != 0) with
    | true=>exact qEO ⟨lt1 (lt_of ha),lt0,lt2 (lt_of ha),qac Token.e ha,⟨by omega,by omega⟩,qaM _ _ _ true h1,rfl,lt0,lt2 (lt_of ha),qac Token.e ha,by rw[hg];rfl,lt0,lt2 (lt_of ha),qac Token.e ha,h2,trivial⟩
    | false=>
     rw[h2,zal]at h
     exact qEP ⟨lt1 (lt_of ha),lt0,lt2 (lt_of ha),qac Token.e ha,⟨by omega,by omega⟩,qaM _ _ _ true h1,rfl,lt0,lt2 (lt_of ha),qac Token.e ha,by rw[hg];rfl,lt0,lt2 (lt_of ha),qac Token.e ha,h2,lt0,lt2 (lt_of ha),qac Token.e ha,qaM _ _ _ false (by simpa using h),rfl,trivial⟩
   | true=>
    rw[hg,zZ,Bool.false_and,zal]at h
    exact qER ⟨lt1 (lt_of ha),lt0,lt2 (lt_of ha),qac Token.e ha,⟨by omega,by omega⟩,qaM _ _ _ true h1,rfl,lt0,lt2 (lt_of ha),qac Token.e ha,by rw[hg];rfl,lt0,lt2 (lt_of ha),qac Token.e ha,qaM _ _ _ false (by simpa using h),rfl,trivial⟩)
  (qET ⟨ge1,trivial⟩)
 rcases l with⟨_,_,h1,h2⟩ | ⟨_,_,_,_,_,_,h1,h2⟩
 ·exact .inl ⟨h1,h2⟩
 ·exact .inr ⟨h1,h2⟩
theorem qKD(c:Cluster)(hc:c.sz≤8388608)(hn:1≤c.graph.workers∧c.graph.workers≤4):
  ((c.news.any (qbL c.graph.workers))=false∧qan prog (qaa f113 3) (qdp c.graph.workers (c.graph.nodes.map Node.e) c.graph.workers c.graph.cap (c.workers.map Worker.e) (c.links.map Link.e) (c.tokens.map Token.e) (c.news.map News.e) 0) (.exit 6) qlr)∨
  ((c.news.any (qbL c.graph.workers))=true∧qan prog (qaa f113 3) (qdp c.graph.workers (c.graph.nodes.map Node.e) c.graph.workers c.graph.cap (c.workers.map Worker.e) (c.links.map Link.e) (c.tokens.map Token.e) (c.news.map News.e) 0) .ret (qhH false)):=by
 have hl:=qfm hc
 have l:=qaS (P:=prog) (c:=(qaa f113 3)) c.news (qbL c.graph.workers) (fun i=>qdp c.graph.workers (c.graph.nodes.map Node.e) c.graph.workers c.graph.cap (c.workers.map Worker.e) (c.links.map Link.e) (c.tokens.map Token.e) (c.news.map News.e) i) (X:=fun _ _=>qhH false) qaw (qaf 6)
  (fun i a ha h=>by
   have hi:=lt_of ha
   simp only[qbL,zy,zX]at h
   exact qEX ⟨lt1 (lt_of ha),lt0,lt2 (lt_of ha),qac News.e ha,⟨by omega,by omega⟩,qaM _ _ _ true h.1,rfl,lt0,lt2 (lt_of ha),qac News.e ha,qaM _ _ _ true h.2,rfl,up1 hi hl,trivial⟩)
  (fun i a ha h=>by
   have hi:=lt_of ha
   cases h1:inR a.dest 0 (c.graph.workers-1) with
   | false=>exact qEV ⟨lt1 (lt_of ha),lt0,lt2 (lt_of ha),qac News.e ha,⟨by omega,by omega⟩,qaM _ _ _ false h1,rfl,trivial⟩
   | true=>
    simp only[qbL,h1,zZ,zal]at h
    exact qEW ⟨lt1 (lt_of ha),lt0,lt2 (lt_of ha),qac News.e ha,⟨by omega,by omega⟩,qaM _ _ _ true h1,rfl,lt0,lt2 (lt_of ha),qac News.e ha,qaM _ _ _ false (by simpa using h),rfl,trivial⟩)
  (qEY ⟨ge1,trivial⟩)
 rcases l with⟨_,_,h1,h2⟩ | ⟨_,_,_,_,_,_,h1,h2⟩
 ·exact .inl ⟨h1,h2⟩
 ·exact .inr ⟨h1,h2⟩
theorem qKE(c:Cluster)(hc:c.sz≤8388608)(hw:GotLe c):Rt 113 [.agg c.e] [.one (B (qah c))]:=by
 have hg:=qlC c.graph (graph_sz1 hc)
 unfold qah
 cases h1:qaz c.graph with
 | false=>rw[h1]at hg;exact qEx ⟨hg,rfl,trivial⟩
 | true=>
 rw[h1]at hg
 have hn:=qcy h1
 have hq:inInt .i64 (c.graph.workers*c.graph.workers):=by
  have h3:c.graph.workers=1∨c.graph.workers=2∨c.graph.workers=3∨c.graph.workers=4:=by omega
  rcases h3 with h3 | h3 | h3 | h3<;>(rw[h3];exact⟨by decide,by decide⟩)
 cases h2:((c.workers.length:Int)==c.graph.workers) with
 | false=>exact qEy ⟨hg,rfl,by rw[zb];simpa using h2,trivial⟩
 | true=>
 have v2:((↑(c.workers.map Worker.e).length:Int) != c.graph.workers)=false:=by rw[zb];simpa using h2
 cases h3:((c.links.length:Int)==c.graph.workers*c.graph.workers) with
 | false=>exact qEz ⟨hg,rfl,v2,hq,by rw[zb];simpa using h3,trivial⟩
 | true=>
 have v3:((↑(c.links.map Link.e).length:Int) != c.graph.workers*c.graph.workers)=false:=by rw[zb];simpa using h3
 cases h4:(c.tokens.length==4) with
 | false=>exact qEA ⟨hg,rfl,v2,hq,v3,len4' h4,trivial⟩
 | true=>
 rcases qKA c hc (eq_of_beq h2) with⟨h5,l5⟩ | ⟨h5,l5⟩
 case inr=>rw[h5];exact qEE ⟨hg,rfl,v2,hq,v3,len4 h4,l5,trivial⟩
 rw[h5]
 rcases qKB c hc hw hn.1 with⟨h6,l6⟩ | ⟨h6,l6⟩
 case inr=>rw[h6];exact qEM ⟨hg,rfl,v2,hq,v3,len4 h4,l5,l6,trivial⟩
 rw[h6]
 rcases qKC c hc hn with⟨h7,l7⟩ | ⟨h7,l7⟩
 case inr=>rw[h7];exact qEU ⟨hg,rfl,v2,hq,v3,len4 h4,l5,l6,l7,trivial⟩
 rw[h7]
 rcases qKD c hc hn with⟨h8,l8⟩ | ⟨h8,l8⟩
 ·rw[h8];exact qE0 ⟨hg,rfl,v2,hq,v3,len4 h4,l5,l6,l7,l8,trivial⟩
 ·rw[h8];exact qEZ ⟨hg,rfl,v2,hq,v3,len4 h4,l5,l6,l7,l8,trivial⟩
theorem qKF(c:Cluster)(hc:c.sz≤8388608)(hn:(c.workers.length:Int)=c.graph.workers):
  ((c.workers.any fun w=>!qaC c.graph w)=false∧qan prog (qaa f64 0) (qcL c.graph.workers (c.workers.map Worker.e) 0 (c.graph.nodes.map Node.e) c.graph.workers c.graph.cap (c.workers.map Worker.e) (c.links.map Link.e) (c.tokens.map Token.e) (c.news.map News.e)) (.exit 0) (qgm c.graph.workers (c.graph.nodes.map Node.e) c.graph.workers c.graph.cap (c.workers.map Worker.e) (c.links.map Link.e) (c.tokens.map Token.e) (c.news.map News.e)))∨
  ((c.workers.any fun w=>!qaC c.graph w)=true∧qan prog (qaa f64 0) (qcL c.graph.workers (c.workers.map Worker.e) 0 (c.graph.nodes.map Node.e) c.graph.workers c.graph.cap (c.workers.map Worker.e) (c.links.map Link.e) (c.tokens.map Token.e) (c.news.map News.e)) .ret (qi5 false)):=by
 have hl:=Cluster.wlen_le hc
 have l:=qaS (P:=prog) (c:=(qaa f64 0)) c.workers (fun w=>!qaC c.graph w) (fun i=>qcL c.graph.workers (c.workers.map Worker.e) i (c.graph.nodes.map Node.e) c.graph.workers c.graph.cap (c.workers.map Worker.e) (c.links.map Link.e) (c.tokens.map Token.e) (c.news.map News.e)) (X:=fun _ _=>qi5 false) qaw (qaf 0)
  (fun i a ha h=>by
   have k:=qjd c.graph a (graph_sz1 hc) (Cluster.worker_sz hc (qas ha))
   rw[show qaC c.graph a=true by simpa using h]at k
   exact qE6 ⟨lt1 (lt_of ha),lt0,lt2 (lt_of ha),qac Worker.e ha,k,rfl,up1 (lt_of ha) hl,trivial⟩)
  (fun i a ha h=>by
   have k:=qjd c.graph a (graph_sz1 hc) (Cluster.worker_sz hc (qas ha))
   rw[show qaC c.graph a=false by simpa using h]at k
   exact qE5 ⟨lt1 (lt_of ha),lt0,lt2 (lt_of ha),qac Worker.e ha,k,rfl,trivial⟩)
  (qE7 ⟨ge1,trivial⟩)
 rcases l with⟨_,_,h1,h2⟩ | ⟨_,_,_,_,_,_,h1,h2⟩
 ·exact .inl ⟨h1,h2⟩
 ·exact .inr ⟨h1,h2⟩
theorem qKG(c:Cluster)(hc:c.sz≤8388608)(hw:GotLe c)(hn:1≤c.graph.workers):
  (anyI (qbu c.graph) 0 c.links=false∧qan prog (qaa f64 1) (qbY c.graph.workers (c.links.map Link.e) 0 (c.graph.nodes.map Node.e) c.graph.workers c.graph.cap (c.workers.map Worker.e) (c.links.map Link.e) (c.tokens.map Token.e) (c.news.map News.e)) (.exit 2) (qhI c.graph.workers (c.graph.nodes.map Node.e) c.graph.workers c.graph.cap (c.workers.map Worker.e) (c.links.map Link.e) (c.tokens.map Token.e) (c.news.map News.e)))∨
  (anyI (qbu c.graph) 0 c.links=true∧qan prog (qaa f64 1) (qbY c.graph.workers (c.links.map Link.e) 0 (c.graph.nodes.map Node.e) c.graph.workers c.graph.cap (c.workers.map Worker.e) (c.links.map Link.e) (c.tokens.map Token.e) (c.news.map News.e)) .ret (qgn false)):=by
 have hl:=Cluster.llen_le hc
 have kl:∀(i:Nat) (a:Link),c.links[i]?=some a→∀r,qbt a=r→Rt 124 [.agg a.e] [.one (B r)]:=fun i a ha r h=>h▸qi9 a (Cluster.link_sz hc (qas ha)) (hw _ (qas ha))
 have kr:∀(i:Nat) (a:Link),c.links[i]?=some a→∀r,qaU c.graph a.queue=r→Rt 125 [.agg c.graph.e,.one (.sl 5 (a.queue.map Record.e))] [.one (B r)]:=fun i a ha r h=>qfl c.graph _ r h (graph_sz1 hc) (Cluster.link_sz hc (qas ha))
 exact qdT (P:=prog) (c:=(qaa f64 1)) c.links (qbu c.graph) (fun i=>qbY c.graph.workers (c.links.map Link.e) i (c.graph.nodes.map Node.e) c.graph.workers c.graph.cap (c.workers.map Worker.e) (c.links.map Link.e) (c.tokens.map Token.e) (c.news.map News.e)) qaw (qaf 2)
  (fun i a ha h=>by
   have hi:=lt_of ha
   simp only[qbu,zy,zX]at h
   obtain⟨h1,h2,h3,h4⟩:=h
   cases h5:((i:Int).tdiv c.graph.workers==(i:Int).tmod c.graph.workers) with
   | true=>
    rw[h5,zbl]at h4
    exact qFd ⟨lt1 (lt_of ha),lt0,lt2 (lt_of ha),qac Link.e ha,kl i a ha _ h1,rfl,h2,kr i a ha _ h3,rfl,by omega,qgr i _ (by omega) hn,by omega,h5,by rw[zb];exact h4,up1 hi hl,trivial⟩
   | false=>exact qFe ⟨lt1 (lt_of ha),lt0,lt2 (lt_of ha),qac Link.e ha,kl i a ha _ h1,rfl,h2,kr i a ha _ h3,rfl,by omega,qgr i _ (by omega) hn,by omega,h5,up1 hi hl,trivial⟩)
  (fun i a ha h=>by
   have hi:=lt_of ha
   cases h1:qbt a with
   | false=>exact qE9 ⟨lt1 (lt_of ha),lt0,lt2 (lt_of ha),qac Link.e ha,kl i a ha _ h1,rfl,trivial⟩
   | true=>
   cases h2:(a.cap != c.graph.cap) with
   | true=>exact qFa ⟨lt1 (lt_of ha),lt0,lt2 (lt_of ha),qac Link.e ha,kl i a ha _ h1,rfl,h2,trivial⟩
   | false=>
   cases h3:qaU c.graph a.queue with
   | false=>exact qFb ⟨lt1 (lt_of ha),lt0,lt2 (lt_of ha),qac Link.e ha,kl i a ha _ h1,rfl,h2,kr i a ha _ h3,rfl,trivial⟩
   | true=>
   simp only[qbu,h1,h2,h3,zZ,zal,zj]at h
   exact qFc ⟨lt1 (lt_of ha),lt0,lt2 (lt_of ha),qac Link.e ha,kl i a ha _ h1,rfl,h2,kr i a ha _ h3,rfl,by omega,qgr i _ (by omega) hn,by omega,h.1,by rw[zb];exact h.2,trivial⟩)
  (qFf ⟨ge1,trivial⟩)
theorem qKH(c:Cluster)(hc:c.sz≤8388608)(hn:1≤c.graph.workers∧c.graph.workers≤4):
  ((c.tokens.any (qbK c.graph.workers))=false∧qan prog (qaa f64 2) (qca c.graph.workers (c.tokens.map Token.e) 0 (c.graph.nodes.map Node.e) c.graph.workers c.graph.cap (c.workers.map Worker.e) (c.links.map Link.e) (c.tokens.map Token.e) (c.news.map News.e)) (.exit 4) (qi6 c.graph.workers (c.graph.nodes.map Node.e) c.graph.workers c.graph.cap (c.workers.map Worker.e) (c.links.map Link.e) (c.tokens.map Token.e) (c.news.map News.e)))∨
  ((c.tokens.any (qbK c.graph.workers))=true∧qan prog (qaa f64 2) (qca c.graph.workers (c.tokens.map Token.e) 0 (c.graph.nodes.map Node.e) c.graph.workers c.graph.cap (c.workers.map Worker.e) (c.links.map Link.e) (c.tokens.map Token.e) (c.news.map News.e)) .ret (qfb false)):=by
 have hl:=qqI hc
 have l:=qaS (P:=prog) (c:=(qaa f64 2)) c.tokens (qbK c.graph.workers) (fun i=>qca c.graph.workers (c.tokens.map Token.e) i (c.graph.nodes.map Node.e) c.graph.workers c.graph.cap (c.workers.map Worker.e) (c.links.map Link.e) (c.tokens.map Token.e) (c.news.map News.e)) (X:=fun _ _=>qfb false) qaw (qaf 4)
  (fun i a ha h=>by
   have hi:=lt_of ha
   simp only[qbK,zy,zX]at h
   obtain⟨h1,h2,h3⟩:=h
   cases hg:a.going with
   | false=>
    rw[hg,zbc,zbl]at h2
    exact qFk ⟨lt1 (lt_of ha),lt0,lt2 (lt_of ha),qac Token.e ha,⟨by omega,by omega⟩,qa2 _ _ _ true h1,rfl,by rw[hg];rfl,h2,qa2 _ _ _ true h3,rfl,up1 hi hl,trivial⟩
   | true=>exact qFm ⟨lt1 (lt_of ha),lt0,lt2 (lt_of ha),qac Token.e ha,⟨by omega,by omega⟩,qa2 _ _ _ true h1,rfl,by rw[hg];rfl,qa2 _ _ _ true h3,rfl,up1 hi hl,trivial⟩)
  (fun i a ha h=>by
   have hi:=lt_of ha
   cases h1:inR a.place 0 (c.graph.workers-1) with
   | false=>exact qFh ⟨lt1 (lt_of ha),lt0,lt2 (lt_of ha),qac Token.e ha,⟨by omega,by omega⟩,qa2 _ _ _ false h1,rfl,trivial⟩
   | true=>
   simp only[qbK,h1,zZ,zal]at h
   cases hg:a.going with
   | false=>
    rw[hg,zbc,zbl]at h
    cases h2:(a.place != 0) with
    | true=>exact qFi ⟨lt1 (lt_of ha),lt0,lt2 (lt_of ha),qac Token.e ha,⟨by omega,by omega⟩,qa2 _ _ _ true h1,rfl,by rw[hg];rfl,h2,trivial⟩
    | false=>
     rw[h2,zal]at h
     exact qFj ⟨lt1 (lt_of ha),lt0,lt2 (lt_of ha),qac Token.e ha,⟨by omega,by omega⟩,qa2 _ _ _ true h1,rfl,by rw[hg];rfl,h2,qa2 _ _ _ false (by simpa using h),rfl,trivial⟩
   | true=>
    rw[hg,zZ,Bool.false_and,zal]at h
    exact qFl ⟨lt1 (lt_of ha),lt0,lt2 (lt_of ha),qac Token.e ha,⟨by omega,by omega⟩,qa2 _ _ _ true h1,rfl,by rw[hg];rfl,qa2 _ _ _ false (by simpa using h),rfl,trivial⟩)
  (qFn ⟨ge1,trivial⟩)
 rcases l with⟨_,_,h1,h2⟩ | ⟨_,_,_,_,_,_,h1,h2⟩
 ·exact .inl ⟨h1,h2⟩
 ·exact .inr ⟨h1,h2⟩
theorem qKI(c:Cluster)(hc:c.sz≤8388608)(hn:1≤c.graph.workers∧c.graph.workers≤4):
  ((c.news.any (qbL c.graph.workers))=false∧qan prog (qaa f64 3) (qdq c.graph.workers (c.news.map News.e) 0) (.exit 6) qls)∨
  ((c.news.any (qbL c.graph.workers))=true∧qan prog (qaa f64 3) (qdq c.graph.workers (c.news.map News.e) 0) .ret (qhJ false)):=by
 have hl:=qfm hc
 have l:=qaS (P:=prog) (c:=(qaa f64 3)) c.news (qbL c.graph.workers) (fun i=>qdq c.graph.workers (c.news.map News.e) i) (X:=fun _ _=>qhJ false) qaw (qaf 6)
  (fun i a ha h=>by
   have hi:=lt_of ha
   simp only[qbL,zy,zX]at h
   exact qFr ⟨lt1 (lt_of ha),lt0,lt2 (lt_of ha),qac News.e ha,⟨by omega,by omega⟩,qa2 _ _ _ true h.1,rfl,qa2 _ _ _ true h.2,rfl,up1 hi hl,trivial⟩)
  (fun i a ha h=>by
   have hi:=lt_of ha
   cases h1:inR a.dest 0 (c.graph.workers-1) with
   | false=>exact qFp ⟨lt1 (lt_of ha),lt0,lt2 (lt_of ha),qac News.e ha,⟨by omega,by omega⟩,qa2 _ _ _ false h1,rfl,trivial⟩
   | true=>
    simp only[qbL,h1,zZ,zal]at h
    exact qFq ⟨lt1 (lt_of ha),lt0,lt2 (lt_of ha),qac News.e ha,⟨by omega,by omega⟩,qa2 _ _ _ true h1,rfl,qa2 _ _ _ false (by simpa using h),rfl,trivial⟩)
  (qFs ⟨ge1,trivial⟩)
 rcases l with⟨_,_,h1,h2⟩ | ⟨_,_,_,_,_,_,h1,h2⟩
 ·exact .inl ⟨h1,h2⟩
 ·exact .inr ⟨h1,h2⟩
theorem qje(c:Cluster)(hc:c.sz≤8388608)(hw:GotLe c):Rt 64 [.agg c.e] [.one (B (qah c))]:=by
 have hg:=qgp c.graph (graph_sz1 hc)
 unfold qah
 cases h1:qaz c.graph with
 | false=>rw[h1]at hg;exact qE1 ⟨hg,rfl,trivial⟩
 | true=>
 rw[h1]at hg
 have hn:=qcy h1
 have hq:inInt .i64 (c.graph.workers*c.graph.workers):=by
  have h3:c.graph.workers=1∨c.graph.workers=2∨c.graph.workers=3∨c.graph.workers=4:=by omega
  rcases h3 with h3 | h3 | h3 | h3<;>(rw[h3];exact⟨by decide,by decide⟩)
 cases h2:((c.workers.length:Int)==c.graph.workers) with
 | false=>exact qE2 ⟨hg,rfl,by rw[zb];simpa using h2,trivial⟩
 | true=>
 have v2:((↑(c.workers.map Worker.e).length:Int) != c.graph.workers)=false:=by rw[zb];simpa using h2
 cases h3:((c.links.length:Int)==c.graph.workers*c.graph.workers) with
 | false=>exact qE3 ⟨hg,rfl,v2,hq,by rw[zb];simpa using h3,trivial⟩
 | true=>
 have v3:((↑(c.links.map Link.e).length:Int) != c.graph.workers*c.graph.workers)=false:=by rw[zb];simpa using h3
 cases h4:(c.tokens.length==4) with
 | false=>exact qE4 ⟨hg,rfl,v2,hq,v3,len4' h4,trivial⟩
 | true=>
 rcases qKF c hc (eq_of_beq h2) with⟨h5,l5⟩ | ⟨h5,l5⟩
 case inr=>rw[h5];exact qE8 ⟨hg,rfl,v2,hq,v3,len4 h4,l5,trivial⟩
 rw[h5]
 rcases qKG c hc hw hn.1 with⟨h6,l6⟩ | ⟨h6,l6⟩
 case inr=>rw[h6];exact qFg ⟨hg,rfl,v2,hq,v3,len4 h4,l5,l6,trivial⟩
 rw[h6]
 rcases qKH c hc hn with⟨h7,l7⟩ | ⟨h7,l7⟩
 case inr=>rw[h7];exact qFo ⟨hg,rfl,v2,hq,v3,len4 h4,l5,l6,l7,trivial⟩
 rw[h7]
 rcases qKI c hc hn with⟨h8,l8⟩ | ⟨h8,l8⟩
 ·rw[h8];exact qFu ⟨hg,rfl,v2,hq,v3,len4 h4,l5,l6,l7,l8,trivial⟩
 ·rw[h8];exact qFt ⟨hg,rfl,v2,hq,v3,len4 h4,l5,l6,l7,l8,trivial⟩
end Go.Proofs.YtdanpadojemjeaaGreat
namespace Go.Proofs.YtdanpadojemjeaaGreat
open Go.Sx Go.RowKit Go.Proofs.Tryz
def cutAt{α:Type}(xs:List α)(k:Nat):List α:=xs.take k++xs.drop (k+1)
def rec0:Record:=⟨0,⟨0,0⟩,0,0⟩
def incAt(xs:List Int)(e d:Int):List Int:=xs.set e.toNat (xs.getD e.toNat 0+d)
def qaG(l:Link)(r:Record):Link×Bool:=
 if qbt l&&qaI r&&l.credits != 0&&decide (l.sent<1000000000) then (⟨l.cap,l.queue++[r],l.credits-1,l.back,l.sent+1,l.got⟩,true) else (l,false)
def qay(l:Link):Link×Record×Bool:=
 if qbt l then match l.queue with
  | []=>(l,rec0,false)
  | r::q=>(⟨l.cap,q,l.credits,l.back+1,l.sent,l.got+1⟩,r,true)
 else (l,rec0,false)
def qbb(l:Link):Link×Bool:=
 if qbt l&&l.back != 0 then (⟨l.cap,l.queue,l.credits+1,l.back-1,l.sent,l.got⟩,true) else (l,false)
def qa6(g:Graph)(w:Worker):Worker×Bool:=
 if qaz g&&qaC g w then match w.staged,w.queue with
  | [],r::q=>(⟨q,(qaB g w.cells r).2.1,w.inputs,(qaB g w.cells r).1,w.sums,w.black,(if capped g r then w.caps.set r.stamp.epoch.toNat true else w.caps),w.dones⟩,true)
  | _,_=>(w,false)
 else (w,false)
def qa7(g:Graph)(w:Worker):Worker×Bool:=
 if qaz g&&qaC g w then match w.staged,w.queue,w.inputs with
  | [],[],r::t=>(⟨[r],[],t,w.cells,w.sums,w.black,w.caps,w.dones⟩,true)
  | _,_,_=>(w,false)
 else (w,false)
def qbM(w:Worker)(t:List Record):Worker:=⟨w.queue,t,w.inputs,w.cells,w.sums,w.black,w.caps,w.dones⟩
def kept(w:Worker)(r:Record):Worker:=⟨w.queue++[r],w.staged,w.inputs,w.cells,w.sums,w.black,w.caps,w.dones⟩
def received(w:Worker)(r:Record):Worker:=⟨w.queue++[r],w.staged,w.inputs,w.cells,incAt w.sums r.stamp.epoch (-1),w.black.set r.stamp.epoch.toNat true,w.caps,w.dones⟩
def qcM(w:Worker)(e:Int):Worker:=⟨w.queue,w.staged,w.inputs,w.cells,incAt w.sums e 1,w.black,w.caps,w.dones⟩
def qb0(w:Worker)(e:Int):Worker:=⟨w.queue,w.staged,w.inputs,w.cells,w.sums,w.black.set e.toNat false,w.caps,w.dones⟩
def told(w:Worker)(e:Int)(b:Bool):Worker:=⟨w.queue,w.staged,w.inputs,w.cells,w.sums,w.black,w.caps,w.dones++[⟨e,b⟩]⟩
def hears(w:Worker)(n:News):Worker:=if qbW w n.epoch then w else told w n.epoch n.capped
def qgs(w:Worker)(e:Int):Bool:=w.inputs.any fun r=>decide (r.stamp.epoch≤e)
def qKJ(w:Worker)(e:Int):Nat:=(qcJ e w.queue).length+(qcJ e w.staged).length
def qdF(w:Worker)(e:Int):Bool:=!qgs w e&&qKJ w e==0
def setW(c:Cluster)(i:Int)(x:Worker):Cluster:=⟨c.graph,c.workers.set i.toNat x,c.links,c.tokens,c.news⟩
def setL(c:Cluster)(i:Int)(l:Link):Cluster:=⟨c.graph,c.workers,c.links.set i.toNat l,c.tokens,c.news⟩
def setT(c:Cluster)(i:Int)(t:Token):Cluster:=⟨c.graph,c.workers,c.links,c.tokens.set i.toNat t,c.news⟩
def setN(c:Cluster)(n:List News):Cluster:=⟨c.graph,c.workers,c.links,c.tokens,n⟩
def wAt(c:Cluster)(i:Int):Option Worker:=if 0≤i then c.workers[i.toNat]? else none
def lAt(c:Cluster)(i:Int):Option Link:=if 0≤i then c.links[i.toNat]? else none
def tAt(c:Cluster)(i:Int):Option Token:=if 0≤i then c.tokens[i.toNat]? else none
def qaY(g:Graph)(a b:Int):Int:=if inR a 0 (g.workers-1)&&inR b 0 (g.workers-1) then a*g.workers+b else -1
def qbn(c:Cluster)(w:Int):Cluster×Bool:=
 if qah c then match wAt c w with
  | some x=>(setW c w (qa6 c.graph x).1,(qa6 c.graph x).2)
  | none=>(c,false)
 else (c,false)
def qbo(c:Cluster)(w:Int):Cluster×Bool:=
 if qah c then match wAt c w with
  | some x=>(setW c w (qa7 c.graph x).1,(qa7 c.graph x).2)
  | none=>(c,false)
 else (c,false)
def qfn(c:Cluster)(w:Int)(x:Worker)(r:Record)(t:List Record)(o:Int):Cluster×Bool:=
 if o=w then (setW c w (kept (qbM x t) r),true)
 else match lAt c (qaY c.graph w o) with
  | some l=>if (qaG l r).2 then (setW (setL c (qaY c.graph w o) (qaG l r).1) w (qcM (qbM x t) r.stamp.epoch),true) else (c,false)
  | none=>(c,false)
def qbp(c:Cluster)(w:Int):Cluster×Bool:=
 if qah c then match wAt c w with
  | some x=>match x.staged with
   | r::t=>qfn c w x r t (qc1 r.key c.graph.workers)
   | []=>(c,false)
  | none=>(c,false)
 else (c,false)
def qby(c:Cluster)(a b:Int):Cluster×Bool:=
 if qah c&&a != b then match lAt c (qaY c.graph a b),wAt c b with
  | some l,some x=>if (qay l).2.2 then (setW (setL c (qaY c.graph a b) (qay l).1) b (received x (qay l).2.1),true) else (c,false)
  | _,_=>(c,false)
 else (c,false)
def qbq(c:Cluster)(a b:Int):Cluster×Bool:=
 if qah c&&a != b then match lAt c (qaY c.graph a b) with
  | some l=>(setL c (qaY c.graph a b) (qbb l).1,(qbb l).2)
  | none=>(c,false)
 else (c,false)
def qbg(n:Nat)(e:Int)(b:Bool):List News:=(List.range n).map fun k:Nat=>⟨(k:Int)+1,e,b⟩
def qaJ(c:Cluster)(e:Int)(t:Token)(x:Worker):Cluster×Bool:=
 if qdF x e then
  if !t.going then (setW (setT c e ⟨true,(c.workers.length:Int)-1,0,false,x.caps.getD e.toNat false⟩) t.place (qb0 x e),true)
  else if 0<t.place then
   if inR (t.sum+x.sums.getD e.toNat 0) (-1000000) 1000000 then
    (setW (setT c e ⟨true,t.place-1,t.sum+x.sums.getD e.toNat 0,t.black||x.black.getD e.toNat false,t.capped||x.caps.getD e.toNat false⟩) t.place (qb0 x e),true)
   else (c,false)
  else if !t.black&&!x.black.getD e.toNat false&&t.sum+x.sums.getD e.toNat 0==0 then
   (setN (setW (setT c e ⟨false,t.place,t.sum,t.black,t.capped⟩) 0 (told x e (t.capped||x.caps.getD e.toNat false))) (c.news++qbg (c.workers.length-1) e (t.capped||x.caps.getD e.toNat false)),true)
  else (setT c e ⟨false,t.place,t.sum,t.black,t.capped⟩,true)
 else (c,false)
def qbj(c:Cluster)(e:Int):Cluster×Bool:=
 if qah c&&inR e 0 3 then match wAt c 0,tAt c e with
  | some x0,some t=>if qbW x0 e then (c,false) else match wAt c t.place with
   | some x=>qaJ c e t x
   | none=>(c,false)
  | _,_=>(c,false)
 else (c,false)
def qbz(c:Cluster)(w:Int):Cluster×Bool:=
 match c.news.findIdx? (fun n=>n.dest==w) with
 | some k=>if qah c then match c.news[k]?,wAt c w with
   | some n,some x=>(setN (setW c w (hears x n)) (cutAt c.news k),true)
   | _,_=>(c,false)
  else (c,false)
 | none=>(c,false)
def stepPick(c:Cluster)(p:Pick):Cluster×Bool:=
 if p.kind=1 then qbn c p.a else if p.kind=2 then qbo c p.a else if p.kind=3 then qbp c p.a
 else if p.kind=4 then qby c p.a p.b else if p.kind=5 then qbq c p.a p.b else if p.kind=6 then qbj c p.a
 else if p.kind=7 then qbz c p.a else (c,false)
end Go.Proofs.YtdanpadojemjeaaGreat
namespace Go.Proofs.YtdanpadojemjeaaGreat
open Go.Sx Go.RowKit Go.Proofs.Tryz
section
variable {α : Type}
theorem qlF{p:α→Bool}{xs:List α}{i:Nat}{x:α}(h:xs.any p=false)(hi:i<xs.length):(xs.set i x).any p=p x:=by
 cases hx:p x with
 | true=>exact zcj.2 ⟨x,List.mem_iff_getElem.2 ⟨i,by simpa using hi,by simp⟩,hx⟩
 | false=>
  rw[zP]at h ⊢
  intro a ha
  rcases zbf ha with h1 | rfl
  ·exact h a h1
  ·simp[hx]
theorem qqJ{p:Nat→α→Bool}{x:α}:∀{xs:List α} {k i:Nat},anyI p k xs=false→i<xs.length→anyI p k (xs.set i x)=p (k+i) x
 | [],_,_,_,h=>by simp at h
 | a::xs,k,0,h,_=>by
  simp only[anyI,zy]at h
  simp only[List.set_cons_zero,anyI,h.2,Bool.or_false,zbj]
 | a::xs,k,i+1,h,hi=>by
  simp only[anyI,zy]at h
  simp only[List.set_cons_succ,anyI,h.1,zal]
  rw[qqJ h.2 (by simpa using hi),show k+1+i=k+(i+1) by omega]
theorem qqK{p:Nat→α→Bool}{xs:List α}(h:∀i a,xs[i]?=some a→p i a=false):anyI p 0 xs=false:=by
 cases hx:anyI p 0 xs with
 | false=>rfl
 | true=>
  obtain⟨i,a,h1,h2,_⟩:=qkJ hx
  rw[zv,h i a h1]at h2
  cases h2
theorem qjf{p:Nat→α→Bool}{xs:List α}(h:anyI p 0 xs=false){i:Nat}{a:α}(ha:xs[i]?=some a):p i a=false:=by
 have:=qiD h i a ha
 rwa[zv]at this
end
theorem qa8{c:Cluster}:qah c=true↔qaz c.graph=true∧(c.workers.length:Int)=c.graph.workers∧(c.links.length:Int)=c.graph.workers*c.graph.workers∧c.tokens.length=4∧(c.workers.any fun w=>!qaC c.graph w)=false∧anyI (qbu c.graph) 0 c.links=false∧c.tokens.any (qbK c.graph.workers)=false∧c.news.any (qbL c.graph.workers)=false:=by
 simp only[qah,zj,zS,zE]
theorem qc4{c:Cluster}{i:Int}{x:Worker}(h:wAt c i=some x):0≤i∧i.toNat<c.workers.length∧c.workers[i.toNat]?=some x:=by
 unfold wAt at h
 split at h
 ·exact⟨‹_›,lt_of h,h⟩
 ·cases h
theorem qed{c:Cluster}{i:Int}{x:Link}(h:lAt c i=some x):0≤i∧i.toNat<c.links.length∧c.links[i.toNat]?=some x:=by
 unfold lAt at h
 split at h
 ·exact⟨‹_›,lt_of h,h⟩
 ·cases h
theorem qlG{c:Cluster}{i:Int}{x:Token}(h:tAt c i=some x):0≤i∧i.toNat<c.tokens.length∧c.tokens[i.toNat]?=some x:=by
 unfold tAt at h
 split at h
 ·exact⟨‹_›,lt_of h,h⟩
 ·cases h
theorem qee{c:Cluster}{i:Int}{x y:Worker}(h:qah c=true)(hy:wAt c i=some y):qah (setW c i x)=qaC c.graph x:=by
 obtain⟨h1,h2,h3,h4,h5,h6,h7,h8⟩:=qa8.1 h
 have hi:=(qc4 hy).2.1
 simp only[qah,setW,zn,qlF h5 hi,h1,h2,h3,h4,h6,h7,h8,zby,zbc,zcs,zbl,Bool.not_not]
theorem qlH{c:Cluster}{i:Int}{x y:Link}(h:qah c=true)(hy:lAt c i=some y):qah (setL c i x)=!qbu c.graph i.toNat x:=by
 obtain⟨h1,h2,h3,h4,h5,h6,h7,h8⟩:=qa8.1 h
 have hi:=(qed hy).2.1
 simp only[qah,setL,zn,qqJ h6 hi,zv,h1,h2,h3,h4,h5,h7,h8,zby,zbc,zcs,zbl]
theorem qKK{c:Cluster}{i:Int}{x y:Token}(h:qah c=true)(hy:tAt c i=some y):qah (setT c i x)=!qbK c.graph.workers x:=by
 obtain⟨h1,h2,h3,h4,h5,h6,h7,h8⟩:=qa8.1 h
 have hi:=(qlG hy).2.1
 simp only[qah,setT,zn,qlF h7 hi,h1,h2,h3,h4,h5,h6,h8,zby,zbc,zcs,zbl]
theorem qqL{c:Cluster}{x:List News}(h:qah c=true):qah (setN c x)=!(x.any (qbL c.graph.workers)):=by
 obtain⟨h1,h2,h3,h4,h5,h6,h7,h8⟩:=qa8.1 h
 simp only[qah,setN,h1,h2,h3,h4,h5,h6,h7,zby,zbc,zbl]
theorem qcz{c:Cluster}{i:Int}{x:Worker}(h:qah c=true)(hx:wAt c i=some x):qaC c.graph x=true:=by
 have h5:=(qa8.1 h).2.2.2.2.1
 rw[zP]at h5
 simpa using h5 x (qas (qc4 hx).2.2)
theorem qhL{c:Cluster}{i:Int}{x:Link}(h:qah c=true)(hx:lAt c i=some x):qbu c.graph i.toNat x=false:=
 qjf (qa8.1 h).2.2.2.2.2.1 (qed hx).2.2
theorem qqM{c:Cluster}{i:Int}{x:Token}(h:qah c=true)(hx:tAt c i=some x):qbK c.graph.workers x=false:=by
 have h5:=(qa8.1 h).2.2.2.2.2.2.1
 rw[zP]at h5
 simpa using h5 x (qas (qlG hx).2.2)
theorem qfo{c:Cluster}{i:Int}{x:Worker}(hx:wAt c i=some x):setW c i x=c:=by
 obtain⟨_,h2,h3⟩:=qc4 hx
 have:c.workers.set i.toNat x=c.workers:=by
  rw[zu h2]at h3
  rw[←zx h3]
  exact List.set_getElem_self h2
 unfold setW
 rw[this]
theorem qbG{g:Graph}{w:Worker}:qaC g w=true↔qaU g w.queue=true∧qaU g w.staged=true∧qaU g w.inputs=true∧qbx w.cells=true∧w.sums.length=4∧w.black.length=4∧w.caps.length=4∧anyI (inBad w.inputs) 0 w.inputs=false∧w.sums.any qcj=false∧anyI (qbZ w.dones) 0 w.dones=false:=by
 simp only[qaC,zj,zS,zE]
theorem qef{g:Graph}{r:Record}{q:List Record}:qaU g (r::q)=true↔qbR g r=false∧qaU g q=true:=by
 simp only[qaU,zcg,zS,zy]
theorem qlI{g:Graph}{r:Record}{q:List Record}:qaU g (q++[r])=true↔qaU g q=true∧qbR g r=false:=by
 simp only[qaU,List.any_append,zcg,List.any_nil,Bool.or_false,zS,zy]
theorem qKL{r:Record}{t:List Record}(h:anyI (inBad (r::t)) 0 (r::t)=false):anyI (inBad t) 0 t=false:=by
 refine qqK fun i a ha=>?_
 have k:=qjf h (i:=i+1) (a:=a) (by simpa using ha)
 unfold inBad at k ⊢
 rw[zy]at k ⊢
 refine⟨k.1,?_⟩
 cases i with
 | zero=>rfl
 | succ j=>simpa using k.2
theorem qKM{xs:List Done}{d:Done}(h:anyI (qbZ xs) 0 xs=false)(h1:inR d.epoch 0 3=true)(h2:(xs.any fun q=>q.epoch==d.epoch)=false):anyI (qbZ (xs++[d])) 0 (xs++[d])=false:=by
 refine qqK fun i a ha=>?_
 by_cases hi:i<xs.length
 ·rw[zbg hi]at ha
  have k:=qjf h ha
  unfold qbZ at k ⊢
  rw[zbw (by omega)]
  exact k
 ·have hl:=lt_of ha
  simp only[zab,zq,zh]at hl
  have e:i=xs.length:=by omega
  subst e
  rw[zas (zO _),Nat.sub_self]at ha
  obtain rfl:d=a:=by simpa using ha
  unfold qbZ
  rw[zbw (zO _),zC,h1,h2]
  rfl
theorem qKN{g:Graph}{w:Worker}{r:Record}(h:qaC g w=true)(hr:qbR g r=false):qaC g (kept w r)=true:=by
 obtain⟨h1,h2⟩:=qbG.1 h
 exact qbG.2 ⟨qlI.2 ⟨h1,hr⟩,h2⟩
theorem qjg{g:Graph}{w:Worker}{r:Record}{t:List Record}(h:qaC g w=true)(hs:w.staged=r::t):qaC g (qbM w t)=true∧qbR g r=false:=by
 obtain⟨h1,h2,h3⟩:=qbG.1 h
 rw[hs,qef]at h2
 exact⟨qbG.2 ⟨h1,h2.2,h3⟩,h2.1⟩
theorem qKO{g:Graph}{w:Worker}{e:Int}(h:qaC g w=true):qaC g (qb0 w e)=true:=by
 obtain⟨h1,h2,h3,h4,h5,h6,h7⟩:=qbG.1 h
 exact qbG.2 ⟨h1,h2,h3,h4,h5,by simp only[qb0,zn];exact h6,h7⟩
theorem qqN{g:Graph}{w:Worker}{e:Int}{b:Bool}(h:qaC g w=true)(he:inR e 0 3=true)(hd:qbW w e=false):qaC g (told w e b)=true:=by
 obtain⟨h1,h2,h3,h4,h5,h6,h7,h8,h9,h10⟩:=qbG.1 h
 exact qbG.2 ⟨h1,h2,h3,h4,h5,h6,h7,h8,h9,qKM h10 he hd⟩
theorem qKP{g:Graph}{w:Worker}{n:News}(h:qaC g w=true)(he:inR n.epoch 0 3=true):qaC g (hears w n)=true:=by
 unfold hears
 cases hd:qbW w n.epoch with
 | true=>exact h
 | false=>exact qqN h he hd
theorem qqO{g:Graph}{w:Worker}{e d:Int}{k:Nat}(h:qaC g w=true)(hk:e.toNat=k)(h4:k<4):(incAt w.sums e d).length=4∧(incAt w.sums e d).any qcj=qcj (w.sums.getD e.toNat 0+d):=by
 obtain⟨h1,h2,h3,_,h5,h6,h7,h8,h9,h10⟩:=qbG.1 h
 exact⟨by simp only[incAt,zn];exact h5,qlF h9 (by omega)⟩
theorem qeg{g:Graph}{r:Record}(h:qbR g r=false):0≤r.stamp.epoch∧r.stamp.epoch≤3:=by
 simp only[qbR,qaI,qba,inR,zy,zX,zj,zi]at h
 omega
theorem qKQ{g:Graph}{w:Worker}{e:Int}(h:qaC g w=true)(he:0≤e∧e≤3):qaC g (qcM w e)=inR (w.sums.getD e.toNat 0+1) (-1000000) 1000000:=by
 obtain⟨k1,k2⟩:=qqO (d:=1) h (e:=e) rfl (by omega)
 obtain⟨h1,h2,h3,h4,h5,h6,h7,h8,h9,h10⟩:=qbG.1 h
 simp only[qaC,qcM,h1,h2,h3,h4,k1,h6,h7,h8,h10,k2,qcj,zby,zbc,zcs,zbl,Bool.not_not]
theorem qKR{g:Graph}{w:Worker}{r:Record}(h:qaC g w=true)(hr:qbR g r=false):qaC g (received w r)=inR (w.sums.getD r.stamp.epoch.toNat 0+-1) (-1000000) 1000000:=by
 have he:=qeg hr
 obtain⟨k1,k2⟩:=qqO (d:=-1) h (e:=r.stamp.epoch) rfl (by omega)
 obtain⟨h1,h2,h3,h4,h5,h6,h7,h8,h9,h10⟩:=qbG.1 h
 have hq:=qlI.2 ⟨h1,hr⟩
 simp only[qaC,received,hq,h2,h3,h4,k1,zn,h6,h7,h8,h10,k2,qcj,zby,zbc,zcs,zbl,Bool.not_not]
theorem qKS{g:Graph}{w:Worker}(h:qaC g w=true):qaC g (qa7 g w).1=true:=by
 unfold qa7
 split
 ·split
  ·rename_i r t h1 h2 h3
   obtain⟨_,_,k3,k4,k5,k6,k7,k8,k9,k10⟩:=qbG.1 h
   rw[h3]at k3 k8
   exact qbG.2 ⟨qef.2 ⟨(qef.1 k3).1,rfl⟩,rfl,(qef.1 k3).2,k4,k5,k6,k7,qKL k8,k9,k10⟩
  ·exact h
 ·exact h
theorem qKT:∀{xs:List Cell},qbx xs=true→∀i a b,xs[i]?=some a→xs[i+1]?=some b→qbc a b<0:=by
 intro xs h i a b h1 h2
 simp only[qbx,zS,zP]at h
 have hm:(a,b)∈xs.zip (xs.drop 1):=by
  refine qas (i:=i) ?_
  rw[List.getElem?_zip_eq_some]
  exact⟨h1,by rw[zA,Nat.add_comm];exact h2⟩
 have:=h _ hm
 simp only[qi8,zi]at this
 omega
def qeh(a:Cell):List Int:=[a.epoch,a.op,a.key,a.val]
theorem qqP(a b:Cell):qbc a b=cmpL (qeh a) (qeh b):=rfl
theorem qlJ{a b c:Cell}(h1:qbc a b<0)(h2:qbc b c<0):qbc a c<0:=by
 rw[qqP] at*
 exact qpG (qeh a) (qeh b) (qeh c) rfl rfl h1 h2
theorem qKU{a b:Cell}(h1:¬qbc a b<0)(h2:a≠b):qbc b a<0:=by
 rw[qqP] at*
 refine Classical.byContradiction fun h=>h2 ?_
 have:=qpH (qeh a) (qeh b) rfl h1 h
 simp only[qeh,zbr,and_true]at this
 obtain⟨x1,x2,x3,x4⟩:=this
 cases a;cases b
 simp only[Cell.mk.injEq]
 exact⟨x2,x1,x3,x4⟩
theorem qqQ:∀{xs:List Cell},qbx xs=true→xs.Pairwise fun a b=>qbc a b<0
 | [],_=>List.Pairwise.nil
 | [a],_=>List.pairwise_singleton _ a
 | a::b::xs,h=>by
  have ht:qbx (b::xs)=true:=by
   simp only[qbx,List.drop_succ_cons,zck,List.zip_cons_cons,zcg,Bool.not_or,zj]at h ⊢
   exact h.2
  have hs:=qqQ ht
  have hab:=qKT h 0 a b rfl rfl
  refine List.Pairwise.cons (fun c hc=>?_) hs
  rcases zL.1 hc with rfl | hc
  ·exact hab
  ·exact qlJ hab ((List.pairwise_cons.1 hs).1 c hc)
theorem qqR{xs:List Cell}(h:xs.Pairwise fun a b=>qbc a b<0):qbx xs=true:=by
 simp only[qbx,zS,zP]
 rintro⟨a,b⟩ hp
 obtain⟨i,hi⟩:=List.getElem?_of_mem hp
 obtain⟨h1,h2⟩:=qhK hi
 have hj:=lt_of h2
 have:=List.pairwise_iff_getElem.1 h i (i+1) (by omega) hj (by omega)
 rw[zu (by omega)]at h1 h2
 rw[zx h1,zx h2]at this
 replace this:qbc a b<0:=this
 show ¬decide (qbc a b≥0)=true
 simp only[zi]
 omega
theorem qqS{xs:List Cell}(x:Cell)(h:xs.Pairwise fun a b=>qbc a b<0):(qbD xs x).Pairwise fun a b=>qbc a b<0:=by
 unfold qbD
 split
 ·exact h
 ·rename_i hno
  have hx:∀a∈xs,a≠x:=by
   intro a ha e
   exact hno (zcj.2 ⟨a,ha,by simp[e]⟩)
  have hb:∀i a,xs[i]?=some a→i<qbV xs x→qbc a x<0:=by
   intro i a ha hi
   unfold qbV at hi
   cases hf:xs.findIdx? (fun a=>!decide (qbc a x<0)) with
   | none=>
    rw[zbs]at hf
    simpa using hf a (qas ha)
   | some k=>
    rw[hf]at hi
    simp only[zV]at hi
    rw[zai]at hf
    obtain⟨hk,_,h3⟩:=hf
    have:=h3 i hi
    rw[zu (by omega)]at ha
    rw[zx ha]at this
    simpa using this
  have ha:∀i a,xs[i]?=some a→qbV xs x≤i→qbc x a<0:=by
   intro i a ha hi
   have hk:qbV xs x<xs.length:=by have:=lt_of ha;omega
   obtain⟨b,hb2⟩:=qag hk
   have h0:¬qbc b x<0:=by
    unfold qbV at hb2 hk
    cases hf:xs.findIdx? (fun a=>!decide (qbc a x<0)) with
    | none=>rw[hf]at hk;simp at hk
    | some k=>
     rw[hf]at hb2
     simp only[zV]at hb2
     rw[zai]at hf
     obtain⟨hk2,h2,_⟩:=hf
     rw[zu hk2]at hb2
     rw[zx hb2]at h2
     simpa using h2
   have hxb:=qKU h0 (hx b (qas hb2))
   rcases Nat.lt_or_eq_of_le hi with hlt | heq
   ·have hj:=lt_of ha
    have:=List.pairwise_iff_getElem.1 h (qbV xs x) i hk hj hlt
    rw[zu hk]at hb2
    rw[zu hj]at ha
    rw[zx hb2,zx ha]at this
    exact qlJ hxb this
   ·rw[heq,ha]at hb2
    rw[zx hb2]
    exact hxb
  rw[List.pairwise_append]
  refine⟨h.sublist (List.take_sublist _ _),List.Pairwise.cons (fun c hc=>?_) (h.sublist (List.drop_sublist _ _)),fun a ha2 c hc=>?_⟩
  ·obtain⟨i,hi⟩:=List.getElem?_of_mem hc
   rw[zA]at hi
   exact ha _ _ hi (by omega)
  ·obtain⟨i,hi⟩:=List.getElem?_of_mem ha2
   rw[zF]at hi
   split at hi
   ·rename_i hlt
    have h1:=hb i a hi hlt
    rcases zL.1 hc with rfl | hc
    ·exact h1
    ·obtain⟨j,hj⟩:=List.getElem?_of_mem hc
     rw[zA]at hj
     exact qlJ h1 (ha _ _ hj (by omega))
   ·cases hi
theorem qKV(kind:Int){xs:List Cell}(x:Cell)(h:qbx xs=true):qbx (qaj kind xs x).1=true:=by
 have hs:=qqQ h
 have h1:=qqR (qqS x hs)
 have h2:=qqR (qqS x (hs.sublist (List.filter_sublist (p:=fun a=>!qaA x a))))
 unfold qaj
 split
 ·split
  ·exact h
  ·exact h1
 ·split
  ·unfold qbm
   split
   ·exact h
   ·exact h2
  ·exact h
theorem qKW{g:Graph}{cs:List Cell}(r:Record)(h:qbx cs=true):qbx (qaB g cs r).1=true:=by
 unfold qaB
 cases qaP g r.op with
 | none=>exact h
 | some x=>
  have hr:=qKV x.kind ⟨r.op,r.stamp.epoch,r.key,r.val⟩ h
  simp only[qat]
  split
  ·split
   ·exact h
   ·split
    ·exact hr
    ·split
     ·exact hr
     ·exact hr
  ·exact h
theorem qKX{x:Node}{k v:Int}(hx:qab x=true)(hi:qaF k v=true):qaF (qai x k v).1 (qai x k v).2.1=true:=by
 have hx':=hx
 simp only[qab,zj]at hx
 have ha:=hx.1.1.1.1
 have hi':=hi
 simp only[qaF,inR,zj,zi]at hi
 unfold qai
 rw[hx',hi',Bool.and_self,zp rfl]
 unfold abOk at ha
 split
 ·rename_i h2
  rw[zp h2]at ha
  simp only[inR,zj,zi]at ha
  have hl:0≤less (v+x.a) 999∧less (v+x.a) 999≤999:=by unfold less;split<;>omega
  simp only[qaF,inR,zj,zi]
  omega
 ·rename_i h2
  rw[zo h2]at ha
  split
  ·rename_i h4
   rw[zo (by omega),zp h4]at ha
   simp only[inR,zj,zi]at ha
   simp only[qaF,inR,zj,zi]
   rw[Int.tmod_eq_emod_of_nonneg (by omega)]
   omega
  ·split
   ·exact hi'
   ·exact hi'
theorem qKY{g:Graph}(h:qaz g=true){op:Int}{x:Node}(hn:qaP g op=some x):qbE g op.toNat x=false:=by
 simp only[qaz,zj,zS]at h
 unfold qaP at hn
 split at hn
 ·exact qjf h.2 hn
 ·cases hn
theorem qqT{g:Graph}(h:qaz g=true){op:Int}{x:Node}(hn:qaP g op=some x){s:Stamp}{k v:Int}(hs:qba s=true)(hi:qaF k v=true):qaU g (sends x s k v)=true:=by
 have hb:=qKY h hn
 have hx:=qlE h hn
 simp only[qab,zj]at hx
 simp only[qbE,zy]at hb
 have he:=hb.2
 rw[zP]at he
 simp only[qaU,sends,List.any_map,zS,zP]
 intro o ho
 have h1:=qlB hx.2 ho
 have h2:=he o ho
 simp only[qaQ,zbi,not_or,zi]at h2
 simp only[Function.comp,qbR,qaI,h1,hs,hi,Bool.and_self,zZ,zal,zi]
 omega
theorem qKZ{g:Graph}{cs:List Cell}{r:Record}:qaU g (qaB g cs r).2.1=true:=by
 unfold qaB
 cases hn:qaP g r.op with
 | none=>rfl
 | some x=>
  simp only[qat]
  split
  ·rename_i hg
   rw[zj]at hg
   obtain⟨hg,hr⟩:=hg
   have hr':=hr
   simp only[qaI,zj]at hr
   have hc:=qKX (qlE hg hn) hr.2
   split
   ·rfl
   ·split
    ·rfl
    ·split
     ·cases ht:(qaE r.stamp).2 with
      | false=>rfl
      | true=>
       refine qqT hg hn ?_ hc
       unfold qaE at ht ⊢
       split
       ·rename_i h1
        simp only[zj,qba,inR,zi]at h1 ⊢
        omega
       ·rename_i h1
        rw[zo h1]at ht
        cases ht
     ·exact qqT hg hn hr.1.2 hc
  ·rfl
theorem qK0{g:Graph}{w:Worker}(h:qaC g w=true):qaC g (qa6 g w).1=true:=by
 unfold qa6
 split
 ·split
  ·rename_i r q h1 h2
   obtain⟨k1,k2,k3,k4,k5,k6,k7,k8,k9,k10⟩:=qbG.1 h
   rw[h2,qef]at k1
   refine qbG.2 ⟨k1.2,qKZ,k3,qKW r k4,k5,k6,?_,k8,k9,k10⟩
   split
   ·rw[zn];exact k7
   ·exact k7
  ·exact h
 ·exact h
end Go.Proofs.YtdanpadojemjeaaGreat
namespace Go.Proofs.YtdanpadojemjeaaGreat
open Go.Sx Go.RowKit Go.Proofs.Tryz
theorem qei{l:Link}:qbt l=true↔inR l.cap 1 4=true∧inR l.credits 0 l.cap=true∧inR l.back 0 l.cap=true∧l.credits+l.back+l.queue.length=l.cap∧inR l.sent 0 1000000000=true∧0≤l.got∧l.got=l.sent-l.queue.length∧(l.queue.any fun r=>!qaI r)=false:=by
 simp only[qbt,zj,zS,zE,zi,and_assoc]
theorem qgt{g:Graph}{i:Nat}{l:Link}:qbu g i l=false↔qbt l=true∧l.cap=g.cap∧qaU g l.queue=true∧((i:Int).tdiv g.workers=(i:Int).tmod g.workers→l.queue=[]):=by
 simp only[qbu,zy,zX,bne_eq_false_iff_eq,Bool.and_eq_false_imp,zE,zf]
 refine and_congr_right fun _=>and_congr_right fun _=>and_congr_right fun _=>imp_congr_right fun _=>?_
 cases l.queue with
 | nil=>simp
 | cons a q=>simp
theorem qK1{g:Graph}{i:Nat}{l:Link}{r:Record}(h:qbu g i l=false)(hr:qbR g r=false)(hs:(qaG l r).2=true)(hd:(i:Int).tdiv g.workers≠(i:Int).tmod g.workers):qbu g i (qaG l r).1=false:=by
 obtain⟨h1,h2,h3,h4⟩:=qgt.1 h
 unfold qaG at hs ⊢
 split
 ·rename_i hc
  simp only[zj,bne_iff_ne,zcc,zi]at hc
  obtain⟨⟨⟨_,hr2⟩,hcr⟩,hse⟩:=hc
  obtain⟨k1,k2,k3,k4,k5,k6,k7,k8⟩:=qei.1 h1
  refine qgt.2 ⟨qei.2 ⟨k1,?_,k3,?_,?_,k6,?_,?_⟩,h2,qlI.2 ⟨h3,hr⟩,fun e=>(hd e).elim⟩
  ·simp only[inR,zi]at k2 ⊢;omega
  ·simp only[zab,zq,zh];omega
  ·simp only[inR,zi]at k5 ⊢;omega
  ·simp only[zab,zq,zh];omega
  ·simp only[List.any_append,k8,zcg,List.any_nil,hr2,zZ,Bool.or_false]
 ·rename_i hc
  rw[zo hc]at hs
  cases hs
theorem qlK{g:Graph}{i:Nat}{l:Link}(h:qbu g i l=false)(hs:(qay l).2.2=true):qbu g i (qay l).1=false∧qbR g (qay l).2.1=false:=by
 obtain⟨h1,h2,h3,h4⟩:=qgt.1 h
 obtain⟨k1,k2,k3,k4,k5,k6,k7,k8⟩:=qei.1 h1
 unfold qay at hs ⊢
 rw[zp h1]at hs ⊢
 split
 ·rename_i hq
  rw[hq]at hs
  cases hs
 ·rename_i r q hq
  rw[hq]at h3 k8 k4 k7 h4
  rw[qef]at h3
  rw[zcg,zy]at k8
  simp only[zq]at k4 k7
  refine⟨qgt.2 ⟨qei.2 ⟨k1,k2,?_,?_,k5,?_,?_,k8.2⟩,h2,h3.2,fun e=>absurd (h4 e) (by simp)⟩,h3.1⟩
  ·simp only[inR,zi]at k2 k3 ⊢;omega
  ·dsimp only;omega
  ·dsimp only;omega
  ·dsimp only;omega
theorem qK2{g:Graph}{i:Nat}{l:Link}(h:qbu g i l=false):qbu g i (qbb l).1=false:=by
 obtain⟨h1,h2,h3,h4⟩:=qgt.1 h
 obtain⟨k1,k2,k3,k4,k5,k6,k7,k8⟩:=qei.1 h1
 unfold qbb
 split
 ·rename_i hc
  simp only[zj,bne_iff_ne,zcc]at hc
  refine qgt.2 ⟨qei.2 ⟨k1,?_,?_,?_,k5,k6,k7,k8⟩,h2,h3,h4⟩
  ·simp only[inR,zi]at k2 k3 ⊢;omega
  ·simp only[inR,zi]at k2 k3 ⊢;omega
  ·dsimp only;omega
 ·exact h
theorem qjh{g:Graph}{a b:Int}(hn:1≤g.workers∧g.workers≤4)(ha:inR a 0 (g.workers-1)=true)(hb:inR b 0 (g.workers-1)=true):
  qaY g a b=a*g.workers+b∧0≤a*g.workers+b∧a*g.workers+b<g.workers*g.workers∧(a*g.workers+b).tdiv g.workers=a∧(a*g.workers+b).tmod g.workers=b:=by
 have e:qaY g a b=a*g.workers+b:=by unfold qaY;rw[ha,hb];rfl
 simp only[inR,zi]at ha hb
 generalize g.workers=n at*
 have h0:0≤a*n+b:=by have:=Int.mul_nonneg ha.1 (show 0≤n by omega);omega
 rw[Int.tdiv_eq_ediv_of_nonneg h0,Int.tmod_eq_emod_of_nonneg h0]
 have hn4:n=1∨n=2∨n=3∨n=4:=by omega
 refine⟨e,h0,?_⟩
 rcases hn4 with rfl | rfl | rfl | rfl<;>omega
theorem qej{g:Graph}{a b:Int}(h:(inR a 0 (g.workers-1)&&inR b 0 (g.workers-1))=false):qaY g a b=-1:=by
 unfold qaY;rw[h];rfl
theorem qqU(key:Int){n:Int}(hn:1≤n):inR (qc1 key n) 0 (n-1)=true:=by
 have h1:=qlt key n (by omega)
 have h2:=Int.tmod_lt_of_pos key (show 0<n by omega)
 unfold qc1
 rw[zo (by omega)]
 simp only[inR,zi]
 split<;>omega
theorem qgu{c:Cluster}(h:qah c=true){a b:Int}(ha:inR a 0 (c.graph.workers-1)=true)(hb:inR b 0 (c.graph.workers-1)=true):∃l,lAt c (qaY c.graph a b)=some l:=by
 obtain⟨h1,h2,h3,_⟩:=qa8.1 h
 obtain⟨e,h0,hlt,_⟩:=qjh (qcy h1) ha hb
 rw[e]
 unfold lAt
 rw[zp h0]
 exact qag (by omega)
theorem qK3{c:Cluster}{i:Int}{l:Link}(h:lAt c i=some l):((i.toNat:Nat):Int)=i:=by have:=(qed h).1;omega
theorem qhM{c:Cluster}{i:Int}(h0:0≤i)(h1:i<c.workers.length):∃x,wAt c i=some x:=by
 unfold wAt
 rw[zp h0]
 exact qag (by omega)
theorem qK4{c:Cluster}(h:qah c=true){e:Int}(he:inR e 0 3=true):∃t,tAt c e=some t:=by
 have h4:=(qa8.1 h).2.2.2.1
 simp only[inR,zi]at he
 unfold tAt
 rw[zp he.1]
 exact qag (by omega)
theorem qhN{n:Int}{t:Token}:qbK n t=false↔(0≤t.place∧t.place≤n-1)∧(t.going=false→t.place=0)∧(-1000000≤t.sum∧t.sum≤1000000):=by
 simp only[qbK,inR,zy,zX,zi,Bool.and_eq_false_imp,zS,bne_eq_false_iff_eq]
theorem qhO{c:Cluster}{i j:Int}{l:Link}:wAt (setL c i l) j=wAt c j:=rfl
theorem qhP{c:Cluster}{i j:Int}{t:Token}:wAt (setT c i t) j=wAt c j:=rfl
theorem qqV{c:Cluster}{i:Int}{l:Link}:(setL c i l).graph=c.graph:=rfl
theorem qqW{c:Cluster}{i:Int}{t:Token}:(setT c i t).graph=c.graph:=rfl
theorem qK5{c:Cluster}{i:Int}{x:Worker}:(setW c i x).graph=c.graph:=rfl
theorem qK6{c:Cluster}{w o:Int}{x:Worker}{r:Record}{t:List Record}{l:Link}(h:qah c=true)(hx:wAt c w=some x)(hs:x.staged=r::t)
  (ho:inR o 0 (c.graph.workers-1)=true) (hne:o≠w) (hl:lAt c (qaY c.graph w o)=some l) (hsend:(qaG l r).2=true):
  qah (setW (setL c (qaY c.graph w o) (qaG l r).1) w (qcM (qbM x t) r.stamp.epoch))=inR (x.sums.getD r.stamp.epoch.toNat 0+1) (-1000000) 1000000:=by
 obtain⟨h1,h2,_⟩:=qa8.1 h
 obtain⟨w0,w1,_⟩:=qc4 hx
 obtain⟨ok,hr⟩:=qjg (qcz h hx) hs
 obtain⟨e,p0,p1,p2,p3⟩:=qjh (qcy h1) (a:=w) (b:=o) (by simp only[inR,zi];omega) ho
 have hL:qah (setL c (qaY c.graph w o) (qaG l r).1)=true:=by
  rw[qlH h hl,qK1 (qhL h hl) hr hsend]
  ·rfl
  ·rw[qK3 hl,e,p2,p3];exact fun q=>hne q.symm
 rw[qee hL (qhO.trans hx),qqV,qKQ ok (qeg hr)]
 rfl
theorem qK7{c:Cluster}{w:Int}{x:Worker}{r:Record}{t:List Record}(h:qah c=true)(hx:wAt c w=some x)(hs:x.staged=r::t):qah (setW c w (kept (qbM x t) r))=true:=by
 obtain⟨ok,hr⟩:=qjg (qcz h hx) hs
 rw[qee h hx,qKN ok hr]
theorem qK8{c:Cluster}{k b:Int}{x:Worker}{l:Link}(h:qah c=true)(hl:lAt c k=some l)(hx:wAt c b=some x)(ht:(qay l).2.2=true):
  qah (setW (setL c k (qay l).1) b (received x (qay l).2.1))=inR (x.sums.getD (qay l).2.1.stamp.epoch.toNat 0+-1) (-1000000) 1000000:=by
 obtain⟨k1,k2⟩:=qlK (qhL h hl) ht
 have hL:qah (setL c k (qay l).1)=true:=by rw[qlH h hl,k1];rfl
 rw[qee hL (qhO.trans hx),qqV,qKR (qcz h hx) k2]
theorem qK9{c:Cluster}{w:Int}(h:qah c=true):qah (qbn c w).1=true:=by
 unfold qbn
 rw[zp h]
 split
 ·rename_i x hx;rw[qee h hx,qK0 (qcz h hx)]
 ·exact h
theorem qLa{c:Cluster}{w:Int}(h:qah c=true):qah (qbo c w).1=true:=by
 unfold qbo
 rw[zp h]
 split
 ·rename_i x hx;rw[qee h hx,qKS (qcz h hx)]
 ·exact h
theorem qLb{c:Cluster}{a b:Int}(h:qah c=true):qah (qbq c a b).1=true:=by
 unfold qbq
 split
 ·split
  ·rename_i l hl;rw[qlH h hl,qK2 (qhL h hl)];rfl
  ·exact h
 ·exact h
theorem news_ok{n e:Int}{b:Bool}{m:Nat}(hm:(m:Int)=n-1)(he:inR e 0 3=true):(qbg m e b).any (qbL n)=false:=by
 rw[zP]
 intro x hx
 simp only[qbg,zbm,List.mem_range]at hx
 obtain⟨k,hk,rfl⟩:=hx
 have h1:inR ((k:Int)+1) 0 (n-1)=true:=by simp only[inR,zi];omega
 simp only[qbL,h1,he,zZ,Bool.or_false,zao,not_false_eq_true]
theorem qLc{c:Cluster}{e:Int}{t:Token}{x x0:Worker}(h:qah c=true)(he:inR e 0 3=true)(ht:tAt c e=some t)(hx:wAt c t.place=some x)(h0:wAt c 0=some x0)(hd:qbW x0 e=false):qah (qaJ c e t x).1=true:=by
 obtain⟨h1,h2,h3,h4,h5,h6,h7,h8⟩:=qa8.1 h
 have hn:=qcy h1
 obtain⟨t1,t2,t3⟩:=qhN.1 (qqM h ht)
 have ok:=qcz h hx
 have setT_ok:∀t':Token,qbK c.graph.workers t'=false→qah (setT c e t')=true:=fun t' k=>by rw[qKK h ht,k];rfl
 have both:∀t':Token,qbK c.graph.workers t'=false→qah (setW (setT c e t') t.place (qb0 x e))=true:=fun t' k=>by
  rw[qee (setT_ok t' k) (qhP.trans hx),qqW,qKO ok]
 unfold qaJ
 split
 ·split
  ·exact both _ (qhN.2 ⟨by dsimp only;omega,by simp,by simp⟩)
  ·rename_i hg
   split
   ·split
    ·rename_i hp hr
     simp only[inR,zi]at hr
     exact both _ (qhN.2 ⟨by dsimp only;omega,by simp,hr⟩)
    ·exact h
   ·rename_i hp
    have e0:t.place=0:=by omega
    have kt:=setT_ok ⟨false,t.place,t.sum,t.black,t.capped⟩ (qhN.2 ⟨t1,fun _=>e0,t3⟩)
    split
    ·rw[e0]at hx
     have hxx:x0=x:=by rw[h0]at hx;exact zx hx
     have kw:qah (setW (setT c e ⟨false,t.place,t.sum,t.black,t.capped⟩) 0 (told x e (t.capped||x.caps.getD e.toNat false)))=true:=by
      rw[qee kt (qhP.trans hx),qqW]
      exact qqN ok he (hxx▸hd)
     rw[qqL kw,List.any_append]
     have e1:(setW (setT c e ⟨false,t.place,t.sum,t.black,t.capped⟩) 0 (told x e (t.capped||x.caps.getD e.toNat false))).graph=c.graph:=rfl
     rw[e1,h8,news_ok (by omega) he]
     rfl
    ·exact kt
 ·exact h
theorem qLd{c:Cluster}{e:Int}(h:qah c=true):qah (qbj c e).1=true:=by
 unfold qbj
 split
 ·rename_i hc
  rw[zj]at hc
  split
  ·rename_i x0 t h0 ht
   split
   ·exact h
   ·rename_i hd
    split
    ·rename_i x hx;exact qLc h hc.2 ht hx h0 (by simpa using hd)
    ·exact h
  ·exact h
 ·exact h
theorem qqX{c:Cluster}{k:Nat}{n:News}(h:qah c=true)(hn:c.news[k]?=some n):qbL c.graph.workers n=false:=by
 have h8:=(qa8.1 h).2.2.2.2.2.2.2
 rw[zP]at h8
 simpa using h8 n (qas hn)
theorem qLe{α:Type}{p:α→Bool}{xs:List α}{k:Nat}(h:xs.any p=false):(cutAt xs k).any p=false:=by
 rw[zP]at h ⊢
 intro a ha
 rcases zaz.1 ha with ha | ha
 ·exact h a (zbh ha)
 ·exact h a (zbn ha)
theorem qLf{c:Cluster}{w:Int}(h:qah c=true):qah (qbz c w).1=true:=by
 unfold qbz
 split
 ·rw[zp h]
  split
  ·rename_i n x hn hx
   have hb:=qqX h hn
   simp only[qbL,zy,zX]at hb
   have kw:qah (setW c w (hears x n))=true:=by rw[qee h hx,qKP (qcz h hx) hb.2]
   rw[qqL kw,qK5,qLe (qa8.1 h).2.2.2.2.2.2.2]
   rfl
  ·exact h
 ·exact h
theorem qji{c:Cluster}{i:Int}{x:Token}:(setT c i x).sz=c.sz:=by
 simp only[setT,Cluster.sz,zn]
theorem qqZ{w:Worker}{r:Record}{t:List Record}(h:w.staged=r::t):(qbM w t).sz+1=w.sz:=by
 simp only[qbM,Worker.sz,h,zq];omega
end Go.Proofs.YtdanpadojemjeaaGreat
