/- ClusterOk, SafeCluster: what program and reference compute; the law SafeCluster answers true. -/
import Derived.Test.YtenekpkjlgddnaaGreatP9
import Derived.Test.YtenekpkjlgddnaaGreatP16
set_option linter.unusedVariables false
set_option linter.unusedSimpArgs false
namespace Go.Proofs.YtenekpkjlgddnaaGreat
open Go.Sx Go.RowKit Go.Proofs.Tryz
def qll(p:Cell×Cell):Bool:=decide (qeQ p.1 p.2≥0)
def qef(xs:List Cell):Bool:=!((xs.zip (xs.drop 1)).any qll)
theorem qlm{xs:List Cell}{i:Nat}{p:Cell×Cell}(h:(xs.zip (xs.drop 1))[i]?=some p):xs[i]?=some p.1∧xs[i+1]?=some p.2:=by
 rw[List.getElem?_zip_eq_some]at h
 obtain⟨h1,h2⟩:=h
 rw[zA,Nat.add_comm]at h2
 exact⟨h1,h2⟩
theorem qvw(xs:List Cell)(hl:xs.length≤8388608):Rt 73 [.one (.sl 4 (xs.map Cell.e))] [.one (B (qef xs))]:=by
 have e0:∀i:Nat,(((i:Int)+1)-1).toNat=i:=fun i=>by omega
 have e1:∀i:Nat,(((i:Int)+1)).toNat=i+1:=fun i=>by omega
 have hz:(xs.zip (xs.drop 1)).length=xs.length-1:=by simp
 have l:=qa7 (P:=prog) (c:=(qab f73 0)) (xs.zip (xs.drop 1)) qll (fun i=>qc2 (xs.map Cell.e) ((i:Int)+1)) (X:=fun _ _=>qh3 false) qaE (qaj 0)
  (fun i a ha h=>by
   obtain⟨h1,h2⟩:=qlm ha
   have hi:=lt_of h2
   refine tr_to (qc2 (xs.map Cell.e)) (qtO ⟨dT (by simp only[zb];omega),⟨by omega,by omega⟩,by omega,by simp only[zb];omega,by rw[e0,zr,h1];rfl,by omega,by simp only[zb];omega,by rw[e1,zr,h2];rfl,qfX a.1 a.2,h,⟨by omega,by omega⟩,trivial⟩) (by omega))
  (fun i a ha h=>by
   obtain⟨h1,h2⟩:=qlm ha
   have hi:=lt_of h2
   exact qtN ⟨dT (by simp only[zb];omega),⟨by omega,by omega⟩,by omega,by simp only[zb];omega,by rw[e0,zr,h1];rfl,by omega,by simp only[zb];omega,by rw[e1,zr,h2];rfl,qfX a.1 a.2,h,trivial⟩)
  (qtP ⟨dF (by rw[hz];simp only[zb];omega),trivial⟩)
 unfold qef
 rcases l with⟨_,_,h1,h2⟩ | ⟨i,a,_,_,_,_,h1,h2⟩
 ·rw[h1];exact qtR ⟨h2,trivial⟩
 ·rw[h1];exact qtQ ⟨h2,trivial⟩
theorem qln(xs:List Cell)(r:Bool)(h:qef xs=r)(hl:xs.length≤8388608):Rt 73 [.one (.sl 4 (xs.map Cell.e))] [.one (B r)]:=h▸qvw xs hl
def qcE(g:Graph)(r:Record):Bool:=!qao r||decide (r.op≥(g.nodes.length:Int))
def qa5(g:Graph)(xs:List Record):Bool:=!(xs.any (qcE g))
theorem qvx{r:Record}(h:qao r=true):0≤r.op:=by
 simp only[qao,zj,inR,zi]at h
 omega
theorem qlo{g:Graph}{r:Record}(h:qao r=true):(qaU g r.op).isSome=!(decide (r.op≥(g.nodes.length:Int))):=by
 have h0:=qvx h
 unfold qaU
 rw[zp h0]
 by_cases hc:r.op≥(g.nodes.length:Int)
 ·rw[dT hc,List.getElem?_eq_none (by omega)];rfl
 ·rw[dF hc,zu (by omega)];rfl
theorem qvy(g:Graph)(xs:List Record)(hg:g.sz≤8388608)(hl:xs.length≤8388608):Rt 65 [.agg g.e,.one (.sl 5 (xs.map Record.e))] [.one (B (qa5 g xs))]:=by
 have l:=qa7 (P:=prog) (c:=(qab f65 0)) xs (qcE g) (fun i=>qc3 (xs.map Record.e) i (g.nodes.map Node.e) g.workers g.cap) (X:=fun _ _=>qf0 false) qaE (qaj 0)
  (fun i a ha h=>by
   simp only[qcE,zy,zX]at h
   have c:=qc1 a
   rw[h.1]at c
   exact qtU ⟨lt1 (lt_of ha),lt0,lt2 (lt_of ha),qad Record.e ha,c,rfl,qea g a.op true (by rw[qlo h.1,h.2];rfl) hg,rfl,up1 (lt_of ha) hl,trivial⟩)
  (fun i a ha h=>by
   have c:=qc1 a
   cases hr:qao a with
   | false=>
    rw[hr]at c
    exact qtS ⟨lt1 (lt_of ha),lt0,lt2 (lt_of ha),qad Record.e ha,c,rfl,trivial⟩
   | true=>
    rw[hr]at c
    simp only[qcE,hr,zZ,zal]at h
    exact qtT ⟨lt1 (lt_of ha),lt0,lt2 (lt_of ha),qad Record.e ha,c,rfl,qea g a.op false (by rw[qlo hr,h];rfl) hg,rfl,trivial⟩)
  (qtV ⟨ge1,trivial⟩)
 unfold qa5
 rcases l with⟨_,_,h1,h2⟩ | ⟨i,a,_,_,_,_,h1,h2⟩
 ·rw[h1];exact qtX ⟨h2,trivial⟩
 ·rw[h1];exact qtW ⟨h2,trivial⟩
theorem qdM(g:Graph)(xs:List Record)(r:Bool)(h:qa5 g xs=r)(hg:g.sz≤8388608)(hl:xs.length≤8388608):Rt 65 [.agg g.e,.one (.sl 5 (xs.map Record.e))] [.one (B r)]:=h▸qvy g xs hg hl
def qbr(l:Link):Bool:=
 inR l.cap 1 4&&inR l.credits 0 l.cap&&inR l.back 0 l.cap&&(l.credits+l.back+l.queue.length==l.cap)&&inR l.sent 0 1000000000&&decide (0≤l.got)&&(l.got==l.sent-l.queue.length)&&!(l.queue.any fun r=>!qao r)
theorem qvz(xs:List Record)(hl:xs.length≤8388608):Rt 78 [.one (.sl 5 (xs.map Record.e))] [.one (B (!(xs.any fun r=>!qao r)))]:=by
 have l:=qa7 (P:=prog) (c:=(qab f78 0)) xs (fun r=>!qao r) (fun i=>qdJ (xs.map Record.e) i) (X:=fun _ _=>qh7 false) qaE (qaj 0)
  (fun i a ha h=>quw ⟨lt1 (lt_of ha),lt0,lt2 (lt_of ha),qad Record.e ha,qc1 a,h,up1 (lt_of ha) hl,trivial⟩)
  (fun i a ha h=>quv ⟨lt1 (lt_of ha),lt0,lt2 (lt_of ha),qad Record.e ha,qc1 a,h,trivial⟩)
  (qux ⟨ge1,trivial⟩)
 rcases l with⟨_,_,h1,h2⟩ | ⟨i,a,_,_,_,_,h1,h2⟩
 ·rw[h1];exact quz ⟨h2,trivial⟩
 ·rw[h1];exact quy ⟨h2,trivial⟩
theorem qf4(l:Link)(hl:l.sz≤8388608)(hgot:l.got≤9223372036854775807):Rt 63 [.agg l.e] [.one (B (qbr l))]:=by
 have hq:l.queue.length≤8388608:=hl
 have c1:=qa4 l.cap 1 4
 have c2:=qa4 l.credits 0 l.cap
 have c3:=qa4 l.back 0 l.cap
 have c4:=qa4 l.sent 0 1000000000
 have c5:=qvz l.queue hq
 unfold qbr
 cases h1:inR l.cap 1 4 with
 | false=>rw[h1]at c1;exact qum ⟨c1,rfl,trivial⟩
 | true=>
 cases h2:inR l.credits 0 l.cap with
 | false=>rw[h1]at c1;rw[h2]at c2;exact qun ⟨c1,rfl,c2,rfl,trivial⟩
 | true=>
 cases h3:inR l.back 0 l.cap with
 | false=>rw[h1]at c1;rw[h2]at c2;rw[h3]at c3;exact qup ⟨c1,rfl,c2,rfl,c3,rfl,trivial⟩
 | true=>
 have k1:=h1
 have k2:=h2
 have k3:=h3
 simp only[inR,zi]at k1 k2 k3
 rw[h1]at c1;rw[h2]at c2;rw[h3]at c3
 have u1:inInt .i64 (l.credits+l.back):=⟨by omega,by omega⟩
 have u2:inInt .i64 (l.credits+l.back+(↑(l.queue.map Record.e).length:Int)):=⟨by simp only[zb];omega,by simp only[zb];omega⟩
 cases h4:(l.credits+l.back+(l.queue.length:Int)==l.cap) with
 | false=>exact quq ⟨c1,rfl,c2,rfl,c3,rfl,u1,u2,by rw[zb];simpa using h4,trivial⟩
 | true=>
 have v4:(l.credits+l.back+(↑(l.queue.map Record.e).length:Int) != l.cap)=false:=by rw[zb];simpa using h4
 cases h5:inR l.sent 0 1000000000 with
 | false=>rw[h5]at c4;exact qur ⟨c1,rfl,c2,rfl,c3,rfl,u1,u2,v4,c4,rfl,trivial⟩
 | true=>
 have k5:=h5
 simp only[inR,zi]at k5
 rw[h5]at c4
 by_cases h6:l.got<0
 ·rw[dF (show ¬0≤l.got by omega)]
  exact qus ⟨c1,rfl,c2,rfl,c3,rfl,u1,u2,v4,c4,rfl,dT h6,trivial⟩
 ·rw[dT (show 0≤l.got by omega)]
  have u3:inInt .i64 (l.sent-l.got):=⟨by omega,by omega⟩
  ·by_cases h7:l.got=l.sent-(l.queue.length:Int)
   ·rw[show (l.got==l.sent-(l.queue.length:Int))=true from by simpa using h7]
    exact quu ⟨c1,rfl,c2,rfl,c3,rfl,u1,u2,v4,c4,rfl,dF h6,u3,by rw[zb];simp;omega,c5,trivial⟩
   ·rw[show (l.got==l.sent-(l.queue.length:Int))=false from by simpa using h7]
    exact qut ⟨c1,rfl,c2,rfl,c3,rfl,u1,u2,v4,c4,rfl,dF h6,u3,by rw[zb];simp;omega,trivial⟩
end Go.Proofs.YtenekpkjlgddnaaGreat
namespace Go.Proofs.YtenekpkjlgddnaaGreat
open Go.Sx Go.RowKit Go.Proofs.Tryz
def inBad(xs:List Record)(i:Nat)(r:Record):Bool:=
 r.op != 0||r.stamp.turn != 0||(match i with | 0=>false | j+1=>match xs[j]? with | some q=>decide (q.stamp.epoch>r.stamp.epoch) | none=>false)
theorem qvA{xs:List Record}{i:Nat}{a:Record}(ha:xs[i]?=some a)(h:inBad xs i a=true):
  (a.op != 0)=true∨((a.op != 0)=false∧(a.stamp.turn != 0)=true)∨((a.op != 0)=false∧(a.stamp.turn != 0)=false∧∃j b,i=j+1∧xs[j]?=some b∧decide (b.stamp.epoch>a.stamp.epoch)=true):=by
 unfold inBad at h
 cases h1:(a.op != 0) with
 | true=>exact .inl rfl
 | false=>
 cases h2:(a.stamp.turn != 0) with
 | true=>exact .inr (.inl ⟨rfl,rfl⟩)
 | false=>
 rw[h1,h2,zal,zal]at h
 cases i with
 | zero=>cases h
 | succ j=>
  have hj:j<xs.length:=by have:=lt_of ha;omega
  obtain⟨b,hb⟩:=qah hj
  simp only[hb]at h
  exact .inr (.inr ⟨rfl,rfl,j,b,rfl,hb,h⟩)
theorem qvB{xs:List Record}{i:Nat}{a:Record}(ha:xs[i]?=some a)(h:inBad xs i a=false):
  (a.op != 0)=false∧(a.stamp.turn != 0)=false∧(i=0∨∃j b,i=j+1∧xs[j]?=some b∧decide (b.stamp.epoch>a.stamp.epoch)=false):=by
 unfold inBad at h
 rw[zy,zy]at h
 obtain⟨⟨h1,h2⟩,h⟩:=h
 refine⟨h1,h2,?_⟩
 cases i with
 | zero=>exact .inl rfl
 | succ j=>
  have hj:j<xs.length:=by have:=lt_of ha;omega
  obtain⟨b,hb⟩:=qah hj
  simp only[hb]at h
  exact .inr ⟨j,b,rfl,hb,h⟩
theorem qlp{α:Type}(f:α→List D){xs:List α}{j:Nat}{b:α}(h:xs[j]?=some b):(xs.map f)[(((j+1:Nat):Int)-1).toNat]?=some (f b):=by
 rw[show (((j+1:Nat):Int)-1)=(j:Int) by omega]
 exact qad f h
theorem qlq{α β:Type}{f:α→β}{xs:List α}{j:Nat}{b:α}(h:xs[j]?=some b):(((j+1:Nat):Int)-1)<(↑(xs.map f).length:Int):=by
 have:=lt_of h
 rw[zb];omega
def qdN(n:Int):Bool:=!inR n (-1000000) 1000000
def qdO(xs:List Done)(i:Nat)(d:Done):Bool:=!inR d.epoch 0 3||(xs.take i).any (fun q=>q.epoch==d.epoch)
theorem len4{α β:Type}{f:α→β}{xs:List α}(h:(xs.length==4)=true):((↑(xs.map f).length:Int) != 4)=false:=by
 rw[zb,eq_of_beq h];rfl
theorem len4'{α β:Type}{f:α→β}{xs:List α}(h:(xs.length==4)=false):((↑(xs.map f).length:Int) != 4)=true:=by
 rw[zb]
 have:=ne_of_beq_false h
 simp only[bne_iff_ne,zcc];omega
def qba(g:Graph)(w:Worker):Bool:=
 qa5 g w.queue&&(qa5 g w.staged&&(qa5 g w.inputs&&(qef w.cells&&((w.sums.length==4)&&((w.black.length==4)&&((w.caps.length==4)&&(!anyI (inBad w.inputs) 0 w.inputs&&(!(w.sums.any qdN)&&!anyI (qdO w.dones) 0 w.dones))))))))
theorem Worker.staged_le{w:Worker}(h:w.sz≤8388608):w.staged.length≤8388608:=by simp only[Worker.sz]at h;omega
theorem Worker.cells_le'{w:Worker}(h:w.sz≤8388608):w.cells.length≤8388608:=by simp only[Worker.sz]at h;omega
theorem Worker.sums_le{w:Worker}(h:w.sz≤8388608):w.sums.length≤8388608:=by simp only[Worker.sz]at h;omega
theorem Worker.dones_le'{w:Worker}(h:w.sz≤8388608):w.dones.length≤8388608:=by simp only[Worker.sz]at h;omega
end Go.Proofs.YtenekpkjlgddnaaGreat
namespace Go.Proofs.YtenekpkjlgddnaaGreat
open Go.Sx Go.RowKit Go.Proofs.Tryz
theorem qvC(w:Worker)(hl:w.inputs.length≤8388608):
  (anyI (inBad w.inputs) 0 w.inputs=false∧qai prog (qab f60 0) (qa9 (w.inputs.map Record.e) 0 (w.queue.map Record.e) (w.staged.map Record.e) (w.inputs.map Record.e) (w.cells.map Cell.e) (w.sums.map eI) (w.black.map eB) (w.caps.map eB) (w.dones.map Done.e)) (.exit 0) (qc4 (w.queue.map Record.e) (w.staged.map Record.e) (w.inputs.map Record.e) (w.cells.map Cell.e) (w.sums.map eI) (w.black.map eB) (w.caps.map eB) (w.dones.map Done.e)))∨
  (anyI (inBad w.inputs) 0 w.inputs=true∧qai prog (qab f60 0) (qa9 (w.inputs.map Record.e) 0 (w.queue.map Record.e) (w.staged.map Record.e) (w.inputs.map Record.e) (w.cells.map Cell.e) (w.sums.map eI) (w.black.map eB) (w.caps.map eB) (w.dones.map Done.e)) .ret (qeU false)):=
 qeL (P:=prog) (c:=(qab f60 0)) w.inputs (inBad w.inputs) (fun i=>qa9 (w.inputs.map Record.e) i (w.queue.map Record.e) (w.staged.map Record.e) (w.inputs.map Record.e) (w.cells.map Cell.e) (w.sums.map eI) (w.black.map eB) (w.caps.map eB) (w.dones.map Done.e)) qaE (qaj 0)
  (fun i a ha h=>by
   have hi:=lt_of ha
   obtain⟨h1,h2,rfl | ⟨j,b,rfl,hb,h3⟩⟩:=qvB ha h
   ·exact qt6 ⟨lt1 (lt_of ha),lt0,lt2 (lt_of ha),qad Record.e ha,h1,h2,dF (by omega),up1 (lt_of ha) hl,trivial⟩
   ·exact qt5 ⟨lt1 (lt_of ha),lt0,lt2 (lt_of ha),qad Record.e ha,h1,h2,dT (by omega),⟨by omega,by omega⟩,by omega,qlq hb,qlp Record.e hb,h3,up1 (lt_of ha) hl,trivial⟩)
  (fun i a ha h=>by
   have hi:=lt_of ha
   rcases qvA ha h with h1 | ⟨h1,h2⟩ | ⟨h1,h2,j,b,rfl,hb,h3⟩
   ·exact qt2 ⟨lt1 (lt_of ha),lt0,lt2 (lt_of ha),qad Record.e ha,h1,trivial⟩
   ·exact qt3 ⟨lt1 (lt_of ha),lt0,lt2 (lt_of ha),qad Record.e ha,h1,h2,trivial⟩
   ·exact qt4 ⟨lt1 (lt_of ha),lt0,lt2 (lt_of ha),qad Record.e ha,h1,h2,dT (by omega),⟨by omega,by omega⟩,by omega,qlq hb,qlp Record.e hb,h3,trivial⟩)
  (qt7 ⟨ge1,trivial⟩)
theorem qlr(xs:List Done)(i:Nat)(e:Int)(r:Bool)(h:(xs.take i).any (fun q=>q.epoch==e)=r)(hl:xs.length≤8388608):Rt 66 [.one (.sl 2 ((xs.map Done.e).take i)),.one (I e)] [.one (B r)]:=by
 have c:=qk9 (xs.take i) e (by rw[zay];omega)
 rw[zcr,h]at c
 exact c
theorem qvD(w:Worker)(hl:w.dones.length≤8388608):
  (anyI (qdO w.dones) 0 w.dones=false∧qai prog (qab f60 2) (qcp (w.dones.map Done.e) 0 (w.queue.map Record.e) (w.staged.map Record.e) (w.inputs.map Record.e) (w.cells.map Cell.e) (w.sums.map eI) (w.black.map eB) (w.caps.map eB) (w.dones.map Done.e)) (.exit 4) qh6)∨
  (anyI (qdO w.dones) 0 w.dones=true∧qai prog (qab f60 2) (qcp (w.dones.map Done.e) 0 (w.queue.map Record.e) (w.staged.map Record.e) (w.inputs.map Record.e) (w.cells.map Cell.e) (w.sums.map eI) (w.black.map eB) (w.caps.map eB) (w.dones.map Done.e)) .ret (qf1 false)):=
 qeL (P:=prog) (c:=(qab f60 2)) w.dones (qdO w.dones) (fun i=>qcp (w.dones.map Done.e) i (w.queue.map Record.e) (w.staged.map Record.e) (w.inputs.map Record.e) (w.cells.map Cell.e) (w.sums.map eI) (w.black.map eB) (w.caps.map eB) (w.dones.map Done.e)) qaE (qaj 4)
  (fun i a ha h=>by
   have hi:=lt_of ha
   simp only[qdO,zy,zX]at h
   exact qui ⟨lt1 (lt_of ha),lt0,lt2 (lt_of ha),qad Done.e ha,qay _ _ _ true h.1,rfl,Int.le_refl 0,(lt0:(0:Int)≤(i:Int)),(show (i:Int)≤_ by rw[zb];omega),qlr w.dones i a.epoch false h.2 hl,rfl,up1 (lt_of ha) hl,trivial⟩)
  (fun i a ha h=>by
   have hi:=lt_of ha
   cases h1:inR a.epoch 0 3 with
   | false=>exact qug ⟨lt1 (lt_of ha),lt0,lt2 (lt_of ha),qad Done.e ha,qay _ _ _ false h1,rfl,trivial⟩
   | true=>
    simp only[qdO,h1,zZ,zal]at h
    exact quh ⟨lt1 (lt_of ha),lt0,lt2 (lt_of ha),qad Done.e ha,qay _ _ _ true h1,rfl,Int.le_refl 0,(lt0:(0:Int)≤(i:Int)),(show (i:Int)≤_ by rw[zb];omega),qlr w.dones i a.epoch true h hl,rfl,trivial⟩)
  (quj ⟨ge1,trivial⟩)
theorem qf5(g:Graph)(w:Worker)(hg:g.sz≤8388608)(hw:w.sz≤8388608):Rt 60 [.agg g.e,.agg w.e] [.one (B (qba g w))]:=by
 unfold qba
 cases h1:qa5 g w.queue with
 | false=>exact qtY ⟨qdM g _ _ h1 hg (Worker.queue_le hw),rfl,trivial⟩
 | true=>
 have c1:=qdM g _ _ h1 hg (Worker.queue_le hw)
 cases h2:qa5 g w.staged with
 | false=>exact qtZ ⟨c1,rfl,qdM g _ _ h2 hg (Worker.staged_le hw),rfl,trivial⟩
 | true=>
 have c2:=qdM g _ _ h2 hg (Worker.staged_le hw)
 cases h3:qa5 g w.inputs with
 | false=>exact qt0 ⟨c1,rfl,c2,rfl,qdM g _ _ h3 hg (Worker.inputs_le hw),rfl,trivial⟩
 | true=>
 have c3:=qdM g _ _ h3 hg (Worker.inputs_le hw)
 cases h4:qef w.cells with
 | false=>exact qt1 ⟨c1,rfl,c2,rfl,c3,rfl,qln _ _ h4 (Worker.cells_le' hw),rfl,trivial⟩
 | true=>
 have c4:=qln _ _ h4 (Worker.cells_le' hw)
 rcases qvC w (Worker.inputs_le hw) with⟨h8,l8⟩ | ⟨h8,l8⟩
 case inr=>
  rw[h8]
  simp only[zZ,Bool.false_and,Bool.and_false]
  exact qt8 ⟨c1,rfl,c2,rfl,c3,rfl,c4,rfl,l8,trivial⟩
 cases h5:(w.sums.length==4) with
 | false=>exact qt9 ⟨c1,rfl,c2,rfl,c3,rfl,c4,rfl,l8,len4' h5,trivial⟩
 | true=>
 cases h6:(w.black.length==4) with
 | false=>exact qua ⟨c1,rfl,c2,rfl,c3,rfl,c4,rfl,l8,len4 h5,len4' h6,trivial⟩
 | true=>
 cases h7:(w.caps.length==4) with
 | false=>exact qub ⟨c1,rfl,c2,rfl,c3,rfl,c4,rfl,l8,len4 h5,len4 h6,len4' h7,trivial⟩
 | true=>
 have l9:=qa7 (P:=prog) (c:=(qab f60 1)) w.sums qdN (fun i=>qc5 (w.queue.map Record.e) (w.staged.map Record.e) (w.inputs.map Record.e) (w.cells.map Cell.e) (w.sums.map eI) (w.black.map eB) (w.caps.map eB) (w.dones.map Done.e) i) (X:=fun _ _=>qh4 false) qaE (qaj 2)
  (fun i a ha h=>qud ⟨lt1 (lt_of ha),lt0,lt2 (lt_of ha),qad eI ha,qay _ _ _ true (by simpa[qdN]using h),rfl,up1 (lt_of ha) (Worker.sums_le hw),trivial⟩)
  (fun i a ha h=>quc ⟨lt1 (lt_of ha),lt0,lt2 (lt_of ha),qad eI ha,qay _ _ _ false (by simpa[qdN]using h),rfl,trivial⟩)
  (que ⟨ge1,trivial⟩)
 rw[h8]
 rcases l9 with⟨_,_,h9,l9⟩ | ⟨_,_,_,_,_,_,h9,l9⟩
 case inr=>rw[h9];exact quf ⟨c1,rfl,c2,rfl,c3,rfl,c4,rfl,l8,len4 h5,len4 h6,len4 h7,l9,trivial⟩
 rw[h9]
 rcases qvD w (Worker.dones_le' hw) with⟨h10,l10⟩ | ⟨h10,l10⟩
 ·rw[h10];exact qul ⟨c1,rfl,c2,rfl,c3,rfl,c4,rfl,l8,len4 h5,len4 h6,len4 h7,l9,l10,trivial⟩
 ·rw[h10];exact quk ⟨c1,rfl,c2,rfl,c3,rfl,c4,rfl,l8,len4 h5,len4 h6,len4 h7,l9,l10,trivial⟩
end Go.Proofs.YtenekpkjlgddnaaGreat
namespace Go.Proofs.YtenekpkjlgddnaaGreat
open Go.Sx Go.RowKit Go.Proofs.Tryz
theorem graph_sz1{c:Cluster}(h:c.sz≤8388608):c.graph.sz≤8388608:=by simp only[Cluster.sz]at h;omega
theorem qvE{c:Cluster}(h:c.sz≤8388608):c.tokens.length≤8388608:=by simp only[Cluster.sz,szS]at h;omega
theorem qf6{c:Cluster}(h:c.sz≤8388608):c.news.length≤8388608:=by simp only[Cluster.sz,szS]at h;omega
def qb1(g:Graph)(i:Nat)(l:Link):Bool:=
 !qbr l||((l.cap != g.cap)||(!qa5 g l.queue||((i:Int).tdiv g.workers==(i:Int).tmod g.workers&&decide ((l.queue.length:Int)>0))))
def qct(n:Int)(t:Token):Bool:=!inR t.place 0 (n-1)||((!t.going&&t.place != 0)||!inR t.sum (-1000000) 1000000)
def qcc(n:Int)(x:News):Bool:=!inR x.dest 0 (n-1)||!inR x.epoch 0 3
def qam(c:Cluster):Bool:=
 qak c.graph&&(((c.workers.length:Int)==c.graph.workers)&&(((c.links.length:Int)==c.graph.workers*c.graph.workers)&&((c.tokens.length==4)&&(!(c.workers.any fun w=>!qba c.graph w)&&(!(anyI (qb1 c.graph) 0 c.links)&&(!(c.tokens.any (qct c.graph.workers))&&!(c.news.any (qcc c.graph.workers))))))))
theorem qcF{g:Graph}(h:qak g=true):1≤g.workers∧g.workers≤4:=by
 simp only[qak,zj,inR,zi]at h
 omega
theorem qib(i:Nat)(n:Int)(hi:i≤8388608)(hn:1≤n):inInt .i64 ((i:Int).tdiv n):=by
 have h1:0≤(i:Int).tdiv n:=Int.tdiv_nonneg (by omega) (by omega)
 have h2:(i:Int).tdiv n≤(i:Int):=Int.tdiv_le_self _ (by omega)
 exact⟨by omega,by omega⟩
theorem qvF{c:Cluster}(h:c.wf){l:Link}(hl:l∈c.links):l.got≤9223372036854775807:=by
 have:=(Cluster.link_wf h hl).got_ok
 simp only[inInt]at this
 exact this.2
def GotLe(c:Cluster):Prop:=∀l∈c.links,l.got≤9223372036854775807
theorem GotLe.of{c:Cluster}(h:c.wf):GotLe c:=fun _ hl=>qvF h hl
theorem qvG(c:Cluster)(hc:c.sz≤8388608)(hn:(c.workers.length:Int)=c.graph.workers):
  ((c.workers.any fun w=>!qba c.graph w)=false∧qai prog (qab f47 0) (qb0 c.graph.workers (c.workers.map Worker.e) 0 (c.graph.nodes.map Node.e) c.graph.workers c.graph.cap (c.workers.map Worker.e) (c.links.map Link.e) (c.tokens.map Token.e) (c.news.map News.e)) (.exit 0) (qed c.graph.workers (c.graph.nodes.map Node.e) c.graph.workers c.graph.cap (c.workers.map Worker.e) (c.links.map Link.e) (c.tokens.map Token.e) (c.news.map News.e)))∨
  ((c.workers.any fun w=>!qba c.graph w)=true∧qai prog (qab f47 0) (qb0 c.graph.workers (c.workers.map Worker.e) 0 (c.graph.nodes.map Node.e) c.graph.workers c.graph.cap (c.workers.map Worker.e) (c.links.map Link.e) (c.tokens.map Token.e) (c.news.map News.e)) .ret (qf2 false)):=by
 have hl:=Cluster.wlen_le hc
 have l:=qa7 (P:=prog) (c:=(qab f47 0)) c.workers (fun w=>!qba c.graph w) (fun i=>qb0 c.graph.workers (c.workers.map Worker.e) i (c.graph.nodes.map Node.e) c.graph.workers c.graph.cap (c.workers.map Worker.e) (c.links.map Link.e) (c.tokens.map Token.e) (c.news.map News.e)) (X:=fun _ _=>qf2 false) qaE (qaj 0)
  (fun i a ha h=>by
   have k:=qf5 c.graph a (graph_sz1 hc) (Cluster.worker_sz hc (qaq ha))
   rw[show qba c.graph a=true by simpa using h]at k
   exact quF ⟨lt1 (lt_of ha),lt0,lt2 (lt_of ha),qad Worker.e ha,k,rfl,up1 (lt_of ha) hl,trivial⟩)
  (fun i a ha h=>by
   have k:=qf5 c.graph a (graph_sz1 hc) (Cluster.worker_sz hc (qaq ha))
   rw[show qba c.graph a=false by simpa using h]at k
   exact quE ⟨lt1 (lt_of ha),lt0,lt2 (lt_of ha),qad Worker.e ha,k,rfl,trivial⟩)
  (quG ⟨ge1,trivial⟩)
 rcases l with⟨_,_,h1,h2⟩ | ⟨_,_,_,_,_,_,h1,h2⟩
 ·exact .inl ⟨h1,h2⟩
 ·exact .inr ⟨h1,h2⟩
theorem qvH(c:Cluster)(hc:c.sz≤8388608)(hw:GotLe c)(hn:1≤c.graph.workers):
  (anyI (qb1 c.graph) 0 c.links=false∧qai prog (qab f47 1) (qbj c.graph.workers (c.links.map Link.e) 0 (c.graph.nodes.map Node.e) c.graph.workers c.graph.cap (c.workers.map Worker.e) (c.links.map Link.e) (c.tokens.map Token.e) (c.news.map News.e)) (.exit 2) (qeV c.graph.workers (c.graph.nodes.map Node.e) c.graph.workers c.graph.cap (c.workers.map Worker.e) (c.links.map Link.e) (c.tokens.map Token.e) (c.news.map News.e)))∨
  (anyI (qb1 c.graph) 0 c.links=true∧qai prog (qab f47 1) (qbj c.graph.workers (c.links.map Link.e) 0 (c.graph.nodes.map Node.e) c.graph.workers c.graph.cap (c.workers.map Worker.e) (c.links.map Link.e) (c.tokens.map Token.e) (c.news.map News.e)) .ret (qee false)):=by
 have hl:=Cluster.llen_le hc
 have kl:∀(i:Nat) (a:Link),c.links[i]?=some a→∀r,qbr a=r→Rt 63 [.agg a.e] [.one (B r)]:=fun i a ha r h=>h▸qf4 a (Cluster.link_sz hc (qaq ha)) (hw _ (qaq ha))
 have kr:∀(i:Nat) (a:Link),c.links[i]?=some a→∀r,qa5 c.graph a.queue=r→Rt 65 [.agg c.graph.e,.one (.sl 5 (a.queue.map Record.e))] [.one (B r)]:=fun i a ha r h=>qdM c.graph _ r h (graph_sz1 hc) (Cluster.link_sz hc (qaq ha))
 exact qeL (P:=prog) (c:=(qab f47 1)) c.links (qb1 c.graph) (fun i=>qbj c.graph.workers (c.links.map Link.e) i (c.graph.nodes.map Node.e) c.graph.workers c.graph.cap (c.workers.map Worker.e) (c.links.map Link.e) (c.tokens.map Token.e) (c.news.map News.e)) qaE (qaj 2)
  (fun i a ha h=>by
   have hi:=lt_of ha
   simp only[qb1,zy,zX]at h
   obtain⟨h1,h2,h3,h4⟩:=h
   cases h5:((i:Int).tdiv c.graph.workers==(i:Int).tmod c.graph.workers) with
   | true=>
    rw[h5,zbl]at h4
    exact quM ⟨lt1 (lt_of ha),lt0,lt2 (lt_of ha),qad Link.e ha,kl i a ha _ h1,rfl,h2,kr i a ha _ h3,rfl,by omega,qib i _ (by omega) hn,by omega,h5,by rw[zb];exact h4,up1 hi hl,trivial⟩
   | false=>exact quN ⟨lt1 (lt_of ha),lt0,lt2 (lt_of ha),qad Link.e ha,kl i a ha _ h1,rfl,h2,kr i a ha _ h3,rfl,by omega,qib i _ (by omega) hn,by omega,h5,up1 hi hl,trivial⟩)
  (fun i a ha h=>by
   have hi:=lt_of ha
   cases h1:qbr a with
   | false=>exact quI ⟨lt1 (lt_of ha),lt0,lt2 (lt_of ha),qad Link.e ha,kl i a ha _ h1,rfl,trivial⟩
   | true=>
   cases h2:(a.cap != c.graph.cap) with
   | true=>exact quJ ⟨lt1 (lt_of ha),lt0,lt2 (lt_of ha),qad Link.e ha,kl i a ha _ h1,rfl,h2,trivial⟩
   | false=>
   cases h3:qa5 c.graph a.queue with
   | false=>exact quK ⟨lt1 (lt_of ha),lt0,lt2 (lt_of ha),qad Link.e ha,kl i a ha _ h1,rfl,h2,kr i a ha _ h3,rfl,trivial⟩
   | true=>
   simp only[qb1,h1,h2,h3,zZ,zal,zj]at h
   exact quL ⟨lt1 (lt_of ha),lt0,lt2 (lt_of ha),qad Link.e ha,kl i a ha _ h1,rfl,h2,kr i a ha _ h3,rfl,by omega,qib i _ (by omega) hn,by omega,h.1,by rw[zb];exact h.2,trivial⟩)
  (quO ⟨ge1,trivial⟩)
theorem qvI(c:Cluster)(hc:c.sz≤8388608)(hn:1≤c.graph.workers∧c.graph.workers≤4):
  ((c.tokens.any (qct c.graph.workers))=false∧qai prog (qab f47 2) (qbq c.graph.workers (c.tokens.map Token.e) 0 (c.graph.nodes.map Node.e) c.graph.workers c.graph.cap (c.workers.map Worker.e) (c.links.map Link.e) (c.tokens.map Token.e) (c.news.map News.e)) (.exit 4) (qf3 c.graph.workers (c.graph.nodes.map Node.e) c.graph.workers c.graph.cap (c.workers.map Worker.e) (c.links.map Link.e) (c.tokens.map Token.e) (c.news.map News.e)))∨
  ((c.tokens.any (qct c.graph.workers))=true∧qai prog (qab f47 2) (qbq c.graph.workers (c.tokens.map Token.e) 0 (c.graph.nodes.map Node.e) c.graph.workers c.graph.cap (c.workers.map Worker.e) (c.links.map Link.e) (c.tokens.map Token.e) (c.news.map News.e)) .ret (qdK false)):=by
 have hl:=qvE hc
 have l:=qa7 (P:=prog) (c:=(qab f47 2)) c.tokens (qct c.graph.workers) (fun i=>qbq c.graph.workers (c.tokens.map Token.e) i (c.graph.nodes.map Node.e) c.graph.workers c.graph.cap (c.workers.map Worker.e) (c.links.map Link.e) (c.tokens.map Token.e) (c.news.map News.e)) (X:=fun _ _=>qdK false) qaE (qaj 4)
  (fun i a ha h=>by
   have hi:=lt_of ha
   simp only[qct,zy,zX]at h
   obtain⟨h1,h2,h3⟩:=h
   cases hg:a.going with
   | false=>
    rw[hg,zbc,zbl]at h2
    exact quT ⟨lt1 (lt_of ha),lt0,lt2 (lt_of ha),qad Token.e ha,⟨by omega,by omega⟩,qay _ _ _ true h1,rfl,by rw[hg];rfl,h2,qay _ _ _ true h3,rfl,up1 hi hl,trivial⟩
   | true=>exact quV ⟨lt1 (lt_of ha),lt0,lt2 (lt_of ha),qad Token.e ha,⟨by omega,by omega⟩,qay _ _ _ true h1,rfl,by rw[hg];rfl,qay _ _ _ true h3,rfl,up1 hi hl,trivial⟩)
  (fun i a ha h=>by
   have hi:=lt_of ha
   cases h1:inR a.place 0 (c.graph.workers-1) with
   | false=>exact quQ ⟨lt1 (lt_of ha),lt0,lt2 (lt_of ha),qad Token.e ha,⟨by omega,by omega⟩,qay _ _ _ false h1,rfl,trivial⟩
   | true=>
   simp only[qct,h1,zZ,zal]at h
   cases hg:a.going with
   | false=>
    rw[hg,zbc,zbl]at h
    cases h2:(a.place != 0) with
    | true=>exact quR ⟨lt1 (lt_of ha),lt0,lt2 (lt_of ha),qad Token.e ha,⟨by omega,by omega⟩,qay _ _ _ true h1,rfl,by rw[hg];rfl,h2,trivial⟩
    | false=>
     rw[h2,zal]at h
     exact quS ⟨lt1 (lt_of ha),lt0,lt2 (lt_of ha),qad Token.e ha,⟨by omega,by omega⟩,qay _ _ _ true h1,rfl,by rw[hg];rfl,h2,qay _ _ _ false (by simpa using h),rfl,trivial⟩
   | true=>
    rw[hg,zZ,Bool.false_and,zal]at h
    exact quU ⟨lt1 (lt_of ha),lt0,lt2 (lt_of ha),qad Token.e ha,⟨by omega,by omega⟩,qay _ _ _ true h1,rfl,by rw[hg];rfl,qay _ _ _ false (by simpa using h),rfl,trivial⟩)
  (quW ⟨ge1,trivial⟩)
 rcases l with⟨_,_,h1,h2⟩ | ⟨_,_,_,_,_,_,h1,h2⟩
 ·exact .inl ⟨h1,h2⟩
 ·exact .inr ⟨h1,h2⟩
theorem qvJ(c:Cluster)(hc:c.sz≤8388608)(hn:1≤c.graph.workers∧c.graph.workers≤4):
  ((c.news.any (qcc c.graph.workers))=false∧qai prog (qab f47 3) (qcq c.graph.workers (c.news.map News.e) 0) (.exit 6) qh8)∨
  ((c.news.any (qcc c.graph.workers))=true∧qai prog (qab f47 3) (qcq c.graph.workers (c.news.map News.e) 0) .ret (qeW false)):=by
 have hl:=qf6 hc
 have l:=qa7 (P:=prog) (c:=(qab f47 3)) c.news (qcc c.graph.workers) (fun i=>qcq c.graph.workers (c.news.map News.e) i) (X:=fun _ _=>qeW false) qaE (qaj 6)
  (fun i a ha h=>by
   have hi:=lt_of ha
   simp only[qcc,zy,zX]at h
   exact qu0 ⟨lt1 (lt_of ha),lt0,lt2 (lt_of ha),qad News.e ha,⟨by omega,by omega⟩,qay _ _ _ true h.1,rfl,qay _ _ _ true h.2,rfl,up1 hi hl,trivial⟩)
  (fun i a ha h=>by
   have hi:=lt_of ha
   cases h1:inR a.dest 0 (c.graph.workers-1) with
   | false=>exact quY ⟨lt1 (lt_of ha),lt0,lt2 (lt_of ha),qad News.e ha,⟨by omega,by omega⟩,qay _ _ _ false h1,rfl,trivial⟩
   | true=>
    simp only[qcc,h1,zZ,zal]at h
    exact quZ ⟨lt1 (lt_of ha),lt0,lt2 (lt_of ha),qad News.e ha,⟨by omega,by omega⟩,qay _ _ _ true h1,rfl,qay _ _ _ false (by simpa using h),rfl,trivial⟩)
  (qu1 ⟨ge1,trivial⟩)
 rcases l with⟨_,_,h1,h2⟩ | ⟨_,_,_,_,_,_,h1,h2⟩
 ·exact .inl ⟨h1,h2⟩
 ·exact .inr ⟨h1,h2⟩
theorem qf7(c:Cluster)(hc:c.sz≤8388608)(hw:GotLe c):Rt 47 [.agg c.e] [.one (B (qam c))]:=by
 have hg:=qeb c.graph (graph_sz1 hc)
 unfold qam
 cases h1:qak c.graph with
 | false=>rw[h1]at hg;exact quA ⟨hg,rfl,trivial⟩
 | true=>
 rw[h1]at hg
 have hn:=qcF h1
 have hq:inInt .i64 (c.graph.workers*c.graph.workers):=by
  have h3:c.graph.workers=1∨c.graph.workers=2∨c.graph.workers=3∨c.graph.workers=4:=by omega
  rcases h3 with h3 | h3 | h3 | h3<;>(rw[h3];exact⟨by decide,by decide⟩)
 cases h2:((c.workers.length:Int)==c.graph.workers) with
 | false=>exact quB ⟨hg,rfl,by rw[zb];simpa using h2,trivial⟩
 | true=>
 have v2:((↑(c.workers.map Worker.e).length:Int) != c.graph.workers)=false:=by rw[zb];simpa using h2
 cases h3:((c.links.length:Int)==c.graph.workers*c.graph.workers) with
 | false=>exact quC ⟨hg,rfl,v2,hq,by rw[zb];simpa using h3,trivial⟩
 | true=>
 have v3:((↑(c.links.map Link.e).length:Int) != c.graph.workers*c.graph.workers)=false:=by rw[zb];simpa using h3
 cases h4:(c.tokens.length==4) with
 | false=>exact quD ⟨hg,rfl,v2,hq,v3,len4' h4,trivial⟩
 | true=>
 rcases qvG c hc (eq_of_beq h2) with⟨h5,l5⟩ | ⟨h5,l5⟩
 case inr=>rw[h5];exact quH ⟨hg,rfl,v2,hq,v3,len4 h4,l5,trivial⟩
 rw[h5]
 rcases qvH c hc hw hn.1 with⟨h6,l6⟩ | ⟨h6,l6⟩
 case inr=>rw[h6];exact quP ⟨hg,rfl,v2,hq,v3,len4 h4,l5,l6,trivial⟩
 rw[h6]
 rcases qvI c hc hn with⟨h7,l7⟩ | ⟨h7,l7⟩
 case inr=>rw[h7];exact quX ⟨hg,rfl,v2,hq,v3,len4 h4,l5,l6,l7,trivial⟩
 rw[h7]
 rcases qvJ c hc hn with⟨h8,l8⟩ | ⟨h8,l8⟩
 ·rw[h8];exact qu3 ⟨hg,rfl,v2,hq,v3,len4 h4,l5,l6,l7,l8,trivial⟩
 ·rw[h8];exact qu2 ⟨hg,rfl,v2,hq,v3,len4 h4,l5,l6,l7,l8,trivial⟩
end Go.Proofs.YtenekpkjlgddnaaGreat
namespace Go.Proofs.YtenekpkjlgddnaaGreat
open Go.Sx Go.RowKit Go.Proofs.Tryz
def cutAt{α:Type}(xs:List α)(k:Nat):List α:=xs.take k++xs.drop (k+1)
def rec0:Record:=⟨0,⟨0,0⟩,0,0⟩
def incAt(xs:List Int)(e d:Int):List Int:=xs.set e.toNat (xs.getD e.toNat 0+d)
def qaP(l:Link)(r:Record):Link×Bool:=
 if qbr l&&qao r&&l.credits != 0&&decide (l.sent<1000000000) then (⟨l.cap,l.queue++[r],l.credits-1,l.back,l.sent+1,l.got⟩,true) else (l,false)
def qaD(l:Link):Link×Record×Bool:=
 if qbr l then match l.queue with
  | []=>(l,rec0,false)
  | r::q=>(⟨l.cap,q,l.credits,l.back+1,l.sent,l.got+1⟩,r,true)
 else (l,rec0,false)
def qbe(l:Link):Link×Bool:=
 if qbr l&&l.back != 0 then (⟨l.cap,l.queue,l.credits+1,l.back-1,l.sent,l.got⟩,true) else (l,false)
def qaY(g:Graph)(w:Worker):Worker×Bool:=
 if qak g&&qba g w then match w.staged,w.queue with
  | [],r::q=>(⟨q,(qaO g w.cells r).2.1,w.inputs,(qaO g w.cells r).1,w.sums,w.black,(if capped g r then w.caps.set r.stamp.epoch.toNat true else w.caps),w.dones⟩,true)
  | _,_=>(w,false)
 else (w,false)
def qaZ(g:Graph)(w:Worker):Worker×Bool:=
 if qak g&&qba g w then match w.staged,w.queue,w.inputs with
  | [],[],r::t=>(⟨[r],[],t,w.cells,w.sums,w.black,w.caps,w.dones⟩,true)
  | _,_,_=>(w,false)
 else (w,false)
def qbC(w:Worker)(t:List Record):Worker:=⟨w.queue,t,w.inputs,w.cells,w.sums,w.black,w.caps,w.dones⟩
def kept(w:Worker)(r:Record):Worker:=⟨w.queue++[r],w.staged,w.inputs,w.cells,w.sums,w.black,w.caps,w.dones⟩
def received(w:Worker)(r:Record):Worker:=⟨w.queue++[r],w.staged,w.inputs,w.cells,incAt w.sums r.stamp.epoch (-1),w.black.set r.stamp.epoch.toNat true,w.caps,w.dones⟩
def qc7(w:Worker)(e:Int):Worker:=⟨w.queue,w.staged,w.inputs,w.cells,incAt w.sums e 1,w.black,w.caps,w.dones⟩
def qcd(w:Worker)(e:Int):Worker:=⟨w.queue,w.staged,w.inputs,w.cells,w.sums,w.black.set e.toNat false,w.caps,w.dones⟩
def told(w:Worker)(e:Int)(b:Bool):Worker:=⟨w.queue,w.staged,w.inputs,w.cells,w.sums,w.black,w.caps,w.dones++[⟨e,b⟩]⟩
def hears(w:Worker)(n:News):Worker:=if qdI w n.epoch then w else told w n.epoch n.capped
def qic(w:Worker)(e:Int):Bool:=w.inputs.any fun r=>decide (r.stamp.epoch≤e)
def qvK(w:Worker)(e:Int):Nat:=(qdH e w.queue).length+(qdH e w.staged).length
def qeX(w:Worker)(e:Int):Bool:=!qic w e&&qvK w e==0
def setW(c:Cluster)(i:Int)(x:Worker):Cluster:=⟨c.graph,c.workers.set i.toNat x,c.links,c.tokens,c.news⟩
def setL(c:Cluster)(i:Int)(l:Link):Cluster:=⟨c.graph,c.workers,c.links.set i.toNat l,c.tokens,c.news⟩
def setT(c:Cluster)(i:Int)(t:Token):Cluster:=⟨c.graph,c.workers,c.links,c.tokens.set i.toNat t,c.news⟩
def setN(c:Cluster)(n:List News):Cluster:=⟨c.graph,c.workers,c.links,c.tokens,n⟩
def wAt(c:Cluster)(i:Int):Option Worker:=if 0≤i then c.workers[i.toNat]? else none
def lAt(c:Cluster)(i:Int):Option Link:=if 0≤i then c.links[i.toNat]? else none
def tAt(c:Cluster)(i:Int):Option Token:=if 0≤i then c.tokens[i.toNat]? else none
def qaQ(g:Graph)(a b:Int):Int:=if inR a 0 (g.workers-1)&&inR b 0 (g.workers-1) then a*g.workers+b else -1
def qbO(c:Cluster)(w:Int):Cluster×Bool:=
 if qam c then match wAt c w with
  | some x=>(setW c w (qaY c.graph x).1,(qaY c.graph x).2)
  | none=>(c,false)
 else (c,false)
def qbP(c:Cluster)(w:Int):Cluster×Bool:=
 if qam c then match wAt c w with
  | some x=>(setW c w (qaZ c.graph x).1,(qaZ c.graph x).2)
  | none=>(c,false)
 else (c,false)
def qc8(c:Cluster)(w:Int)(x:Worker)(r:Record)(t:List Record)(o:Int):Cluster×Bool:=
 if o=w then (setW c w (kept (qbC x t) r),true)
 else match lAt c (qaQ c.graph w o) with
  | some l=>if (qaP l r).2 then (setW (setL c (qaQ c.graph w o) (qaP l r).1) w (qc7 (qbC x t) r.stamp.epoch),true) else (c,false)
  | none=>(c,false)
def qbs(c:Cluster)(w:Int):Cluster×Bool:=
 if qam c then match wAt c w with
  | some x=>match x.staged with
   | r::t=>qc8 c w x r t (qbk r.key c.graph.workers)
   | []=>(c,false)
  | none=>(c,false)
 else (c,false)
def qbQ(c:Cluster)(a b:Int):Cluster×Bool:=
 if qam c&&a != b then match lAt c (qaQ c.graph a b),wAt c b with
  | some l,some x=>if (qaD l).2.2 then (setW (setL c (qaQ c.graph a b) (qaD l).1) b (received x (qaD l).2.1),true) else (c,false)
  | _,_=>(c,false)
 else (c,false)
def qbR(c:Cluster)(a b:Int):Cluster×Bool:=
 if qam c&&a != b then match lAt c (qaQ c.graph a b) with
  | some l=>(setL c (qaQ c.graph a b) (qbe l).1,(qbe l).2)
  | none=>(c,false)
 else (c,false)
def qa2(n:Nat)(e:Int)(b:Bool):List News:=(List.range n).map fun k:Nat=>⟨(k:Int)+1,e,b⟩
def qaK(c:Cluster)(e:Int)(t:Token)(x:Worker):Cluster×Bool:=
 if qeX x e then
  if !t.going then (setW (setT c e ⟨true,(c.workers.length:Int)-1,0,false,x.caps.getD e.toNat false⟩) t.place (qcd x e),true)
  else if 0<t.place then
   if inR (t.sum+x.sums.getD e.toNat 0) (-1000000) 1000000 then
    (setW (setT c e ⟨true,t.place-1,t.sum+x.sums.getD e.toNat 0,t.black||x.black.getD e.toNat false,t.capped||x.caps.getD e.toNat false⟩) t.place (qcd x e),true)
   else (c,false)
  else if !t.black&&!x.black.getD e.toNat false&&t.sum+x.sums.getD e.toNat 0==0 then
   (setN (setW (setT c e ⟨false,t.place,t.sum,t.black,t.capped⟩) 0 (told x e (t.capped||x.caps.getD e.toNat false))) (c.news++qa2 (c.workers.length-1) e (t.capped||x.caps.getD e.toNat false)),true)
  else (setT c e ⟨false,t.place,t.sum,t.black,t.capped⟩,true)
 else (c,false)
def qbt(c:Cluster)(e:Int):Cluster×Bool:=
 if qam c&&inR e 0 3 then match wAt c 0,tAt c e with
  | some x0,some t=>if qdI x0 e then (c,false) else match wAt c t.place with
   | some x=>qaK c e t x
   | none=>(c,false)
  | _,_=>(c,false)
 else (c,false)
def qbS(c:Cluster)(w:Int):Cluster×Bool:=
 match c.news.findIdx? (fun n=>n.dest==w) with
 | some k=>if qam c then match c.news[k]?,wAt c w with
   | some n,some x=>(setN (setW c w (hears x n)) (cutAt c.news k),true)
   | _,_=>(c,false)
  else (c,false)
 | none=>(c,false)
def stepPick(c:Cluster)(p:Pick):Cluster×Bool:=
 if p.kind=1 then qbO c p.a else if p.kind=2 then qbP c p.a else if p.kind=3 then qbs c p.a
 else if p.kind=4 then qbQ c p.a p.b else if p.kind=5 then qbR c p.a p.b else if p.kind=6 then qbt c p.a
 else if p.kind=7 then qbS c p.a else (c,false)
end Go.Proofs.YtenekpkjlgddnaaGreat
namespace Go.Proofs.YtenekpkjlgddnaaGreat
open Go.Sx Go.RowKit Go.Proofs.Tryz
section
variable {α : Type}
theorem qvL{p:Nat→α→Bool}{xs:List α}(h:anyI p 0 xs=false){i:Nat}{a:α}(ha:xs[i]?=some a):p i a=false:=by
 have:=qfQ h i a ha
 rwa[zv]at this
end
theorem qbD{c:Cluster}:qam c=true↔qak c.graph=true∧(c.workers.length:Int)=c.graph.workers∧(c.links.length:Int)=c.graph.workers*c.graph.workers∧c.tokens.length=4∧(c.workers.any fun w=>!qba c.graph w)=false∧anyI (qb1 c.graph) 0 c.links=false∧c.tokens.any (qct c.graph.workers)=false∧c.news.any (qcc c.graph.workers)=false:=by
 simp only[qam,zj,zS,zE]
theorem qcG{c:Cluster}{i:Int}{x:Worker}(h:wAt c i=some x):0≤i∧i.toNat<c.workers.length∧c.workers[i.toNat]?=some x:=by
 unfold wAt at h
 split at h
 ·exact⟨‹_›,lt_of h,h⟩
 ·cases h
theorem qeg{c:Cluster}{i:Int}{x:Link}(h:lAt c i=some x):0≤i∧i.toNat<c.links.length∧c.links[i.toNat]?=some x:=by
 unfold lAt at h
 split at h
 ·exact⟨‹_›,lt_of h,h⟩
 ·cases h
theorem qls{c:Cluster}{i:Int}{x:Token}(h:tAt c i=some x):0≤i∧i.toNat<c.tokens.length∧c.tokens[i.toNat]?=some x:=by
 unfold tAt at h
 split at h
 ·exact⟨‹_›,lt_of h,h⟩
 ·cases h
theorem qid{c:Cluster}{i:Int}{x:Worker}(h:qam c=true)(hx:wAt c i=some x):qba c.graph x=true:=by
 have h5:=(qbD.1 h).2.2.2.2.1
 rw[zP]at h5
 simpa using h5 x (qaq (qcG hx).2.2)
theorem qvM{c:Cluster}{i:Int}{x:Link}(h:qam c=true)(hx:lAt c i=some x):qb1 c.graph i.toNat x=false:=
 qvL (qbD.1 h).2.2.2.2.2.1 (qeg hx).2.2
theorem qvN{c:Cluster}{i:Int}{x:Token}(h:qam c=true)(hx:tAt c i=some x):qct c.graph.workers x=false:=by
 have h5:=(qbD.1 h).2.2.2.2.2.2.1
 rw[zP]at h5
 simpa using h5 x (qaq (qls hx).2.2)
theorem qvO{c:Cluster}{i:Int}{x:Worker}(hx:wAt c i=some x):setW c i x=c:=by
 obtain⟨_,h2,h3⟩:=qcG hx
 have:c.workers.set i.toNat x=c.workers:=by
  rw[zu h2]at h3
  rw[←zx h3]
  exact List.set_getElem_self h2
 unfold setW
 rw[this]
theorem qeY{g:Graph}{w:Worker}:qba g w=true↔qa5 g w.queue=true∧qa5 g w.staged=true∧qa5 g w.inputs=true∧qef w.cells=true∧w.sums.length=4∧w.black.length=4∧w.caps.length=4∧anyI (inBad w.inputs) 0 w.inputs=false∧w.sums.any qdN=false∧anyI (qdO w.dones) 0 w.dones=false:=by
 simp only[qba,zj,zS,zE]
theorem qie{g:Graph}{r:Record}{q:List Record}:qa5 g (r::q)=true↔qcE g r=false∧qa5 g q=true:=by
 simp only[qa5,zcg,zS,zy]
theorem qvP{g:Graph}{w:Worker}{r:Record}{t:List Record}(h:qba g w=true)(hs:w.staged=r::t):qba g (qbC w t)=true∧qcE g r=false:=by
 obtain⟨h1,h2,h3⟩:=qeY.1 h
 rw[hs,qie]at h2
 exact⟨qeY.2 ⟨h1,h2.2,h3⟩,h2.1⟩
theorem qif{g:Graph}{r:Record}(h:qcE g r=false):0≤r.stamp.epoch∧r.stamp.epoch≤3:=by
 simp only[qcE,qao,qaV,inR,zy,zX,zj,zi]at h
 omega
end Go.Proofs.YtenekpkjlgddnaaGreat
namespace Go.Proofs.YtenekpkjlgddnaaGreat
open Go.Sx Go.RowKit Go.Proofs.Tryz
theorem qf8{l:Link}:qbr l=true↔inR l.cap 1 4=true∧inR l.credits 0 l.cap=true∧inR l.back 0 l.cap=true∧l.credits+l.back+l.queue.length=l.cap∧inR l.sent 0 1000000000=true∧0≤l.got∧l.got=l.sent-l.queue.length∧(l.queue.any fun r=>!qao r)=false:=by
 simp only[qbr,zj,zS,zE,zi,and_assoc]
theorem qlt{g:Graph}{i:Nat}{l:Link}:qb1 g i l=false↔qbr l=true∧l.cap=g.cap∧qa5 g l.queue=true∧((i:Int).tdiv g.workers=(i:Int).tmod g.workers→l.queue=[]):=by
 simp only[qb1,zy,zX,bne_eq_false_iff_eq,Bool.and_eq_false_imp,zE,zf]
 refine and_congr_right fun _=>and_congr_right fun _=>and_congr_right fun _=>imp_congr_right fun _=>?_
 cases l.queue with
 | nil=>simp
 | cons a q=>simp
theorem qvQ{g:Graph}{i:Nat}{l:Link}(h:qb1 g i l=false)(hs:(qaD l).2.2=true):qb1 g i (qaD l).1=false∧qcE g (qaD l).2.1=false:=by
 obtain⟨h1,h2,h3,h4⟩:=qlt.1 h
 obtain⟨k1,k2,k3,k4,k5,k6,k7,k8⟩:=qf8.1 h1
 unfold qaD at hs ⊢
 rw[zp h1]at hs ⊢
 split
 ·rename_i hq
  rw[hq]at hs
  cases hs
 ·rename_i r q hq
  rw[hq]at h3 k8 k4 k7 h4
  rw[qie]at h3
  rw[zcg,zy]at k8
  simp only[zq]at k4 k7
  refine⟨qlt.2 ⟨qf8.2 ⟨k1,k2,?_,?_,k5,?_,?_,k8.2⟩,h2,h3.2,fun e=>absurd (h4 e) (by simp)⟩,h3.1⟩
  ·simp only[inR,zi]at k2 k3 ⊢;omega
  ·dsimp only;omega
  ·dsimp only;omega
  ·dsimp only;omega
theorem qlu{g:Graph}{a b:Int}(hn:1≤g.workers∧g.workers≤4)(ha:inR a 0 (g.workers-1)=true)(hb:inR b 0 (g.workers-1)=true):
  qaQ g a b=a*g.workers+b∧0≤a*g.workers+b∧a*g.workers+b<g.workers*g.workers∧(a*g.workers+b).tdiv g.workers=a∧(a*g.workers+b).tmod g.workers=b:=by
 have e:qaQ g a b=a*g.workers+b:=by unfold qaQ;rw[ha,hb];rfl
 simp only[inR,zi]at ha hb
 generalize g.workers=n at*
 have h0:0≤a*n+b:=by have:=Int.mul_nonneg ha.1 (show 0≤n by omega);omega
 rw[Int.tdiv_eq_ediv_of_nonneg h0,Int.tmod_eq_emod_of_nonneg h0]
 have hn4:n=1∨n=2∨n=3∨n=4:=by omega
 refine⟨e,h0,?_⟩
 rcases hn4 with rfl | rfl | rfl | rfl<;>omega
theorem qf9{g:Graph}{a b:Int}(h:(inR a 0 (g.workers-1)&&inR b 0 (g.workers-1))=false):qaQ g a b=-1:=by
 unfold qaQ;rw[h];rfl
theorem qvR(key:Int){n:Int}(hn:1≤n):inR (qbk key n) 0 (n-1)=true:=by
 have h1:=qh9 key n (by omega)
 have h2:=Int.tmod_lt_of_pos key (show 0<n by omega)
 unfold qbk
 rw[zo (by omega)]
 simp only[inR,zi]
 split<;>omega
theorem qig{c:Cluster}(h:qam c=true){a b:Int}(ha:inR a 0 (c.graph.workers-1)=true)(hb:inR b 0 (c.graph.workers-1)=true):∃l,lAt c (qaQ c.graph a b)=some l:=by
 obtain⟨h1,h2,h3,_⟩:=qbD.1 h
 obtain⟨e,h0,hlt,_⟩:=qlu (qcF h1) ha hb
 rw[e]
 unfold lAt
 rw[zp h0]
 exact qah (by omega)
theorem qga{c:Cluster}{i:Int}(h0:0≤i)(h1:i<c.workers.length):∃x,wAt c i=some x:=by
 unfold wAt
 rw[zp h0]
 exact qah (by omega)
theorem qvS{c:Cluster}(h:qam c=true){e:Int}(he:inR e 0 3=true):∃t,tAt c e=some t:=by
 have h4:=(qbD.1 h).2.2.2.1
 simp only[inR,zi]at he
 unfold tAt
 rw[zp he.1]
 exact qah (by omega)
theorem qvT{n:Int}{t:Token}:qct n t=false↔(0≤t.place∧t.place≤n-1)∧(t.going=false→t.place=0)∧(-1000000≤t.sum∧t.sum≤1000000):=by
 simp only[qct,inR,zy,zX,zi,Bool.and_eq_false_imp,zS,bne_eq_false_iff_eq]
theorem qlv{c:Cluster}{i j:Int}{l:Link}:wAt (setL c i l) j=wAt c j:=rfl
theorem qlw{c:Cluster}{i j:Int}{t:Token}:wAt (setT c i t) j=wAt c j:=rfl
theorem qvU{n e:Int}{b:Bool}{m:Nat}(hm:(m:Int)=n-1)(he:inR e 0 3=true):(qa2 m e b).any (qcc n)=false:=by
 rw[zP]
 intro x hx
 simp only[qa2,zbm,List.mem_range]at hx
 obtain⟨k,hk,rfl⟩:=hx
 have h1:inR ((k:Int)+1) 0 (n-1)=true:=by simp only[inR,zi];omega
 simp only[qcc,h1,he,zZ,Bool.or_false,zao,not_false_eq_true]
theorem qvV{c:Cluster}{k:Nat}{n:News}(h:qam c=true)(hn:c.news[k]?=some n):qcc c.graph.workers n=false:=by
 have h8:=(qbD.1 h).2.2.2.2.2.2.2
 rw[zP]at h8
 simpa using h8 n (qaq hn)
theorem qih{α:Type}{sz:α→Nat}{y:α}(x:α):∀{xs:List α} {i:Nat},xs[i]?=some y→szS sz (xs.set i x)+sz y=szS sz xs+sz x
 | [],i,h=>by simp at h
 | a::xs,0,h=>by
  obtain rfl:a=y:=by simpa using h
  simp only[szS,List.set_cons_zero,zq,zav,zcw]
  omega
 | a::xs,i+1,h=>by
  have:=qih (sz:=sz) x (xs:=xs) (i:=i) (by simpa using h)
  simp only[szS,List.set_cons_succ,zq,zav,zcw]at this ⊢
  omega
theorem qc9{c:Cluster}{i:Int}{x y:Worker}(h:wAt c i=some y):(setW c i x).sz+y.sz=c.sz+x.sz:=by
 have:=qih (sz:=Worker.sz) x (qcG h).2.2
 simp only[setW,Cluster.sz]
 omega
theorem qii{c:Cluster}{i:Int}{x y:Link}(h:lAt c i=some y):(setL c i x).sz+y.sz=c.sz+x.sz:=by
 have:=qih (sz:=Link.sz) x (qeg h).2.2
 simp only[setL,Cluster.sz]
 omega
theorem qij{c:Cluster}{i:Int}{x:Token}:(setT c i x).sz=c.sz:=by
 simp only[setT,Cluster.sz,zn]
theorem qlx{c:Cluster}{x:List News}:(setN c x).sz+c.news.length=c.sz+x.length:=by
 simp only[setN,Cluster.sz]
 omega
theorem qvW(g:Graph)(w:Worker):(qaY g w).1.sz≤w.sz+2:=by
 unfold qaY
 split
 ·rename_i hc
  rw[zj]at hc
  split
  ·rename_i r q h1 h2
   have:=qvv hc.1 w.cells r
   simp only[Worker.sz,h1,h2,zq,zh]
   split<;>(try simp only[zn])<;>omega
  ·exact Nat.le_add_right _ _
 ·exact Nat.le_add_right _ _
theorem qvX(g:Graph)(w:Worker):(qaZ g w).1.sz≤w.sz:=by
 unfold qaZ
 split
 ·split
  ·rename_i r t h1 h2 h3
   simp only[Worker.sz,h1,h2,h3,zq,zh]
   omega
  ·exact zO _
 ·exact zO _
theorem qly{w:Worker}{r:Record}{t:List Record}(h:w.staged=r::t):(qbC w t).sz+1=w.sz:=by
 simp only[qbC,Worker.sz,h,zq];omega
theorem qvY(w:Worker)(r:Record):(kept w r).sz=w.sz+1:=by
 simp only[kept,Worker.sz,zab,zq,zh];omega
theorem qvZ(w:Worker)(e:Int):(qc7 w e).sz=w.sz:=by
 simp only[qc7,incAt,Worker.sz,zn]
theorem qv0(w:Worker)(r:Record):(received w r).sz=w.sz+1:=by
 simp only[received,incAt,Worker.sz,zn,zab,zq,zh];omega
theorem qv1(w:Worker)(e:Int):(qcd w e).sz=w.sz:=by
 simp only[qcd,Worker.sz,zn]
theorem qlz(w:Worker)(e:Int)(b:Bool):(told w e b).sz=w.sz+1:=by
 simp only[told,Worker.sz,zab,zq,zh];omega
theorem qv2(w:Worker)(n:News):(hears w n).sz≤w.sz+1:=by
 unfold hears
 split
 ·omega
 ·rw[qlz];omega
theorem qv3(l:Link)(r:Record):(qaP l r).1.sz≤l.sz+1:=by
 unfold qaP
 split<;>simp[Link.sz]
theorem qv4(l:Link):(qaD l).1.sz≤l.sz:=by
 unfold qaD
 split
 ·split
  ·exact zO _
  ·rename_i h;simp[Link.sz,h]
 ·exact zO _
theorem qv5(l:Link):(qbe l).1.sz=l.sz:=by
 unfold qbe
 split<;>rfl
theorem qv6{α:Type}(xs:List α)(k:Nat):(cutAt xs k).length≤xs.length:=by
 simp only[cutAt,zab,zay,List.length_drop];omega
theorem qv7{c:Cluster}{e:Int}{t:Token}{x:Worker}(hw:c.workers.length≤4)(hx:wAt c t.place=some x)(h0:0≤t.place):(qaK c e t x).1.sz≤c.sz+4:=by
 unfold qaK
 have w1:∀t',(setW (setT c e t') t.place (qcd x e)).sz+x.sz=c.sz+x.sz:=fun t'=>by
  have:=qc9 (c:=setT c e t') (x:=qcd x e) (qlw.trans hx)
  rwa[qij,qv1]at this
 split
 ·split
  ·have:=w1 ⟨true,(c.workers.length:Int)-1,0,false,x.caps.getD e.toNat false⟩
   dsimp only;omega
  ·split
   ·split
    ·have:=w1 ⟨true,t.place-1,t.sum+x.sums.getD e.toNat 0,t.black||x.black.getD e.toNat false,t.capped||x.caps.getD e.toNat false⟩
     dsimp only;omega
    ·dsimp only;omega
   ·rename_i hp
    have e0:t.place=0:=by omega
    split
    ·rw[e0]at hx
     have a:=qc9 (c:=setT c e ⟨false,t.place,t.sum,t.black,t.capped⟩) (x:=told x e (t.capped||x.caps.getD e.toNat false)) (qlw.trans hx)
     rw[qij,qlz]at a
     have b:=qlx (c:=setW (setT c e ⟨false,t.place,t.sum,t.black,t.capped⟩) 0 (told x e (t.capped||x.caps.getD e.toNat false))) (x:=c.news++qa2 (c.workers.length-1) e (t.capped||x.caps.getD e.toNat false))
     have d:(setW (setT c e ⟨false,t.place,t.sum,t.black,t.capped⟩) 0 (told x e (t.capped||x.caps.getD e.toNat false))).news=c.news:=rfl
     rw[d]at b
     simp only[zab,qa2,zb,zct]at b
     dsimp only
     simp only[qa2]
     omega
    ·dsimp only;rw[qij];omega
 ·dsimp only;omega
theorem qv8{c:Cluster}(h:qam c=true):c.workers.length≤4:=by
 obtain⟨h1,h2,_⟩:=qbD.1 h
 have:=qcF h1
 omega
theorem qv9(c:Cluster)(p:Pick):(stepPick c p).1.sz≤c.sz+4:=by
 have k0:c.sz≤c.sz+4:=by omega
 unfold stepPick
 split
 ·unfold qbO
  split
  ·split
   ·rename_i x hx
    have:=qc9 (x:=(qaY c.graph x).1) hx
    have:=qvW c.graph x
    dsimp only;omega
   ·exact k0
  ·exact k0
 split
 ·unfold qbP
  split
  ·split
   ·rename_i x hx
    have:=qc9 (x:=(qaZ c.graph x).1) hx
    have:=qvX c.graph x
    dsimp only;omega
   ·exact k0
  ·exact k0
 split
 ·unfold qbs
  split
  ·split
   ·rename_i x hx
    split
    ·rename_i r t hs
     have hu:=qly hs
     unfold qc8
     split
     ·have:=qc9 (x:=kept (qbC x t) r) hx
      rw[qvY]at this
      dsimp only;omega
     ·split
      ·rename_i l hl
       split
       ·have a:=qii (x:=(qaP l r).1) hl
        have b:=qc9 (c:=setL c (qaQ c.graph p.a (qbk r.key c.graph.workers)) (qaP l r).1) (x:=qc7 (qbC x t) r.stamp.epoch) (qlv.trans hx)
        rw[qvZ]at b
        have:=qv3 l r
        dsimp only;omega
       ·exact k0
      ·exact k0
    ·exact k0
   ·exact k0
  ·exact k0
 split
 ·unfold qbQ
  split
  ·split
   ·rename_i l x hl hx
    split
    ·have a:=qii (x:=(qaD l).1) hl
     have b:=qc9 (c:=setL c (qaQ c.graph p.a p.b) (qaD l).1) (x:=received x (qaD l).2.1) (qlv.trans hx)
     rw[qv0]at b
     have:=qv4 l
     dsimp only;omega
    ·exact k0
   ·exact k0
  ·exact k0
 split
 ·unfold qbR
  split
  ·split
   ·rename_i l hl
    have a:=qii (x:=(qbe l).1) hl
    have:=qv5 l
    dsimp only;omega
   ·exact k0
  ·exact k0
 split
 ·unfold qbt
  split
  ·rename_i hc
   rw[zj]at hc
   split
   ·rename_i x0 t h0 ht
    split
    ·exact k0
    ·split
     ·rename_i x hx;exact qv7 (qv8 hc.1) hx (qcG hx).1
     ·exact k0
   ·exact k0
  ·exact k0
 split
 ·unfold qbS
  split
  ·rename_i k hk
   split
   ·split
    ·rename_i n x hn hx
     have a:=qc9 (x:=hears x n) hx
     have b:=qlx (c:=setW c p.a (hears x n)) (x:=cutAt c.news k)
     have d:(setW c p.a (hears x n)).news=c.news:=rfl
     rw[d]at b
     have:=qv2 x n
     have:=qv6 c.news k
     dsimp only;omega
    ·exact k0
   ·exact k0
  ·exact k0
 ·exact k0
end Go.Proofs.YtenekpkjlgddnaaGreat
