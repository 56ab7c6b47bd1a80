/- WorkerOk: what program and reference compute. -/
import Derived.Test.YtdkobdhckkjmeaaGreatP21
set_option linter.unusedVariables false
set_option linter.unusedSimpArgs false
namespace Go.Proofs.YtdkobdhckkjmeaaGreat
open Go.Sx Go.RowKit Go.Proofs.Tryz
def inBad(xs:List Record)(i:Nat)(r:Record):Bool:=
 r.op != 0||r.stamp.turn != 0||(match i with | 0=>false | j+1=>match xs[j]? with | some q=>decide (q.stamp.epoch>r.stamp.epoch) | none=>false)
theorem qrH{xs:List Record}{i:Nat}{a:Record}(ha:xs[i]?=some a)(h:inBad xs i a=true):
  (a.op != 0)=true∨((a.op != 0)=false∧(a.stamp.turn != 0)=true)∨((a.op != 0)=false∧(a.stamp.turn != 0)=false∧∃j b,i=j+1∧xs[j]?=some b∧decide (b.stamp.epoch>a.stamp.epoch)=true):=by
 unfold inBad at h;cases h1:(a.op != 0) with
 | true=>exact .inl rfl
 | false=>
 cases h2:(a.stamp.turn != 0) with
 | true=>exact .inr (.inl ⟨rfl,rfl⟩)
 | false=>
 rw[h1,h2,zal,zal]at h;cases i with
 | zero=>cases h
 | succ j=>
  have hj:j<xs.length:=by have:=lt_of ha;omega
  obtain⟨b,hb⟩:=qal hj;simp only[hb]at h;exact .inr (.inr ⟨rfl,rfl,j,b,rfl,hb,h⟩)
theorem qrI{xs:List Record}{i:Nat}{a:Record}(ha:xs[i]?=some a)(h:inBad xs i a=false):
  (a.op != 0)=false∧(a.stamp.turn != 0)=false∧(i=0∨∃j b,i=j+1∧xs[j]?=some b∧decide (b.stamp.epoch>a.stamp.epoch)=false):=by
 unfold inBad at h;rw[zy,zy]at h;obtain⟨⟨h1,h2⟩,h⟩:=h;refine⟨h1,h2,?_⟩;cases i with
 | zero=>exact .inl rfl
 | succ j=>
  have hj:j<xs.length:=by have:=lt_of ha;omega
  obtain⟨b,hb⟩:=qal hj;simp only[hb]at h;exact .inr ⟨j,b,rfl,hb,h⟩
theorem qjV{α:Type}(f:α→List D){xs:List α}{j:Nat}{b:α}(h:xs[j]?=some b):(xs.map f)[(((j+1:Nat):Int)-1).toNat]?=some (f b):=by
 rw[show (((j+1:Nat):Int)-1)=(j:Int) by omega];exact qac f h
theorem qjW{α β:Type}{f:α→β}{xs:List α}{j:Nat}{b:α}(h:xs[j]?=some b):(((j+1:Nat):Int)-1)<(↑(xs.map f).length:Int):=by
 have:=lt_of h;rw[zb];omega
def qcy(n:Int):Bool:=!inR n (-1000000) 1000000
def qbT(xs:List Done)(i:Nat)(d:Done):Bool:=!inR d.epoch 0 3||(xs.take i).any (fun q=>q.epoch==d.epoch)
theorem len4{α β:Type}{f:α→β}{xs:List α}(h:(xs.length==4)=true):((↑(xs.map f).length:Int) != 4)=false:=by
 rw[zb,eq_of_beq h];rfl
theorem len4'{α β:Type}{f:α→β}{xs:List α}(h:(xs.length==4)=false):((↑(xs.map f).length:Int) != 4)=true:=by
 rw[zb];have:=ne_of_beq_false h;simp only[bne_iff_ne,zcc];omega
def qaJ(g:Graph)(w:Worker):Bool:=
 qaV g w.queue&&(qaV g w.staged&&(qaV g w.inputs&&(qbI w.cells&&((w.sums.length==4)&&((w.black.length==4)&&((w.caps.length==4)&&(!anyI (inBad w.inputs) 0 w.inputs&&(!(w.sums.any qcy)&&!anyI (qbT w.dones) 0 w.dones))))))))
theorem Worker.staged_le{w:Worker}(h:w.sz≤8388608):w.staged.length≤8388608:=by simp only[Worker.sz]at h;omega
theorem Worker.cells_le'{w:Worker}(h:w.sz≤8388608):w.cells.length≤8388608:=by simp only[Worker.sz]at h;omega
theorem Worker.sums_le{w:Worker}(h:w.sz≤8388608):w.sums.length≤8388608:=by simp only[Worker.sz]at h;omega
theorem Worker.dones_le'{w:Worker}(h:w.sz≤8388608):w.dones.length≤8388608:=by simp only[Worker.sz]at h;omega
theorem qIg(w:Worker)(hl:w.inputs.length≤8388608):
  (anyI (inBad w.inputs) 0 w.inputs=false∧qam prog (qaa f175 0) (qci (w.queue.map Record.e) (w.staged.map Record.e) (w.inputs.map Record.e) (w.cells.map Cell.e) (w.sums.map eI) (w.black.map eB) (w.caps.map eB) (w.dones.map Done.e) 0) (.exit 0) (qhC (w.queue.map Record.e) (w.staged.map Record.e) (w.inputs.map Record.e) (w.cells.map Cell.e) (w.sums.map eI) (w.black.map eB) (w.caps.map eB) (w.dones.map Done.e)))∨
  (anyI (inBad w.inputs) 0 w.inputs=true∧qam prog (qaa f175 0) (qci (w.queue.map Record.e) (w.staged.map Record.e) (w.inputs.map Record.e) (w.cells.map Cell.e) (w.sums.map eI) (w.black.map eB) (w.caps.map eB) (w.dones.map Done.e) 0) .ret (qhB false)):=
 qdn (P:=prog) (c:=(qaa f175 0)) w.inputs (inBad w.inputs) (fun i=>qci (w.queue.map Record.e) (w.staged.map Record.e) (w.inputs.map Record.e) (w.cells.map Cell.e) (w.sums.map eI) (w.black.map eB) (w.caps.map eB) (w.dones.map Done.e) i) qaE (qaf 0)
  (fun i a ha h=>by
   have hi:=lt_of ha;obtain⟨h1,h2,rfl | ⟨j,b,rfl,hb,h3⟩⟩:=qrI ha h
   ·exact qAQ ⟨lt1 (lt_of ha),lt0,lt2 (lt_of ha),qac Record.e ha,h1,lt0,lt2 (lt_of ha),qac Record.e ha,h2,dF (by omega),up1 (lt_of ha) hl,trivial⟩
   ·exact qAP ⟨lt1 (lt_of ha),lt0,lt2 (lt_of ha),qac Record.e ha,h1,lt0,lt2 (lt_of ha),qac Record.e ha,h2,dT (by omega),⟨by omega,by omega⟩,by omega,qjW hb,qjV Record.e hb,lt0,lt2 (lt_of ha),qac Record.e ha,h3,up1 (lt_of ha) hl,trivial⟩)
  (fun i a ha h=>by
   have hi:=lt_of ha;rcases qrH ha h with h1 | ⟨h1,h2⟩ | ⟨h1,h2,j,b,rfl,hb,h3⟩
   ·exact qAM ⟨lt1 (lt_of ha),lt0,lt2 (lt_of ha),qac Record.e ha,h1,trivial⟩
   ·exact qAN ⟨lt1 (lt_of ha),lt0,lt2 (lt_of ha),qac Record.e ha,h1,lt0,lt2 (lt_of ha),qac Record.e ha,h2,trivial⟩
   ·exact qAO ⟨lt1 (lt_of ha),lt0,lt2 (lt_of ha),qac Record.e ha,h1,lt0,lt2 (lt_of ha),qac Record.e ha,h2,dT (by omega),⟨by omega,by omega⟩,by omega,qjW hb,qjV Record.e hb,lt0,lt2 (lt_of ha),qac Record.e ha,h3,trivial⟩)
  (qAR ⟨ge1,trivial⟩)
theorem qIh(w:Worker)(hl:w.dones.length≤8388608):
  (anyI (qbT w.dones) 0 w.dones=false∧qam prog (qaa f175 2) (qdr (w.queue.map Record.e) (w.staged.map Record.e) (w.inputs.map Record.e) (w.cells.map Cell.e) (w.sums.map eI) (w.black.map eB) (w.caps.map eB) (w.dones.map Done.e) 0) (.exit 4) qmz)∨
  (anyI (qbT w.dones) 0 w.dones=true∧qam prog (qaa f175 2) (qdr (w.queue.map Record.e) (w.staged.map Record.e) (w.inputs.map Record.e) (w.cells.map Cell.e) (w.sums.map eI) (w.black.map eB) (w.caps.map eB) (w.dones.map Done.e) 0) .ret (qjE false)):=by
 have inner:∀(i:Nat) (a:Done),w.dones[i]?=some a→
   (((w.dones.take i).any (fun q=>q.epoch==a.epoch))=false∧qam prog (qaa f175 3) (qdT (w.queue.map Record.e) (w.staged.map Record.e) (w.inputs.map Record.e) (w.cells.map Cell.e) (w.sums.map eI) (w.black.map eB) (w.caps.map eB) (w.dones.map Done.e) i 0) (.exit 6) (qmy (w.queue.map Record.e) (w.staged.map Record.e) (w.inputs.map Record.e) (w.cells.map Cell.e) (w.sums.map eI) (w.black.map eB) (w.caps.map eB) (w.dones.map Done.e) i))∨
   (((w.dones.take i).any (fun q=>q.epoch==a.epoch))=true∧qam prog (qaa f175 3) (qdT (w.queue.map Record.e) (w.staged.map Record.e) (w.inputs.map Record.e) (w.cells.map Cell.e) (w.sums.map eI) (w.black.map eB) (w.caps.map eB) (w.dones.map Done.e) i 0) .ret (qjF false)):=by
  intro i a ha;have hi:=lt_of ha;have hlen:(w.dones.take i).length=i:=by rw[zay];omega
  have tk:∀{k:Nat} {b:Done},(w.dones.take i)[k]?=some b→k<i∧w.dones[k]?=some b:=fun {k b} h=>by
   have hk:=lt_of h;rw[hlen]at hk;rw[zF,zp hk]at h;exact⟨hk,h⟩
  have l:=qaW (P:=prog) (c:=(qaa f175 3)) (w.dones.take i) (fun q=>q.epoch==a.epoch) (fun k=>qdT (w.queue.map Record.e) (w.staged.map Record.e) (w.inputs.map Record.e) (w.cells.map Cell.e) (w.sums.map eI) (w.black.map eB) (w.caps.map eB) (w.dones.map Done.e) i k) (X:=fun _ _=>qjF false) qaE (qaf 6)
   (fun k b hb h=>by
    obtain⟨hk,hb⟩:=tk hb;exact qAZ ⟨dT (by omega),lt0,lt2 (lt_of hb),qac Done.e hb,lt0,lt2 (lt_of ha),qac Done.e ha,h,up1 (lt_of hb) hl,trivial⟩)
   (fun k b hb h=>by
    obtain⟨hk,hb⟩:=tk hb;exact qAY ⟨dT (by omega),lt0,lt2 (lt_of hb),qac Done.e hb,lt0,lt2 (lt_of ha),qac Done.e ha,h,trivial⟩)
   (qA0 ⟨dF (by rw[hlen];omega),trivial⟩)
  rcases l with⟨_,_,h1,h2⟩ | ⟨_,_,_,_,_,_,h1,h2⟩
  ·exact .inl ⟨h1,h2⟩
  ·exact .inr ⟨h1,h2⟩
 exact qdn (P:=prog) (c:=(qaa f175 2)) w.dones (qbT w.dones) (fun i=>qdr (w.queue.map Record.e) (w.staged.map Record.e) (w.inputs.map Record.e) (w.cells.map Cell.e) (w.sums.map eI) (w.black.map eB) (w.caps.map eB) (w.dones.map Done.e) i) qaE (qaf 4)
  (fun i a ha h=>by
   simp only[qbT,zy,zX]at h;rcases inner i a ha with⟨e,l⟩ | ⟨e,l⟩
   ·exact qA2 ⟨lt1 (lt_of ha),lt0,lt2 (lt_of ha),qac Done.e ha,qaK _ _ _ true h.1,rfl,l,up1 (lt_of ha) hl,trivial⟩
   ·rw[h.2]at e;cases e)
  (fun i a ha h=>by
   cases h1:inR a.epoch 0 3 with
   | false=>exact qAX ⟨lt1 (lt_of ha),lt0,lt2 (lt_of ha),qac Done.e ha,qaK _ _ _ false h1,rfl,trivial⟩
   | true=>
    simp only[qbT,h1,zZ,zal]at h;rcases inner i a ha with⟨e,l⟩ | ⟨e,l⟩
    ·rw[h]at e;cases e
    ·exact qA1 ⟨lt1 (lt_of ha),lt0,lt2 (lt_of ha),qac Done.e ha,qaK _ _ _ true h1,rfl,l,trivial⟩)
  (qA3 ⟨ge1,trivial⟩)
theorem qrJ(g:Graph)(w:Worker)(hg:g.sz≤8388608)(hw:w.sz≤8388608):Rt 175 [.agg g.e,.agg w.e] [.one (B (qaJ g w))]:=by
 unfold qaJ;cases h1:qaV g w.queue with
 | false=>exact qAF ⟨qfx g _ _ h1 hg (Worker.queue_le hw),rfl,trivial⟩
 | true=>
 have c1:=qfx g _ _ h1 hg (Worker.queue_le hw);cases h2:qaV g w.staged with
 | false=>exact qAG ⟨c1,rfl,qfx g _ _ h2 hg (Worker.staged_le hw),rfl,trivial⟩
 | true=>
 have c2:=qfx g _ _ h2 hg (Worker.staged_le hw);cases h3:qaV g w.inputs with
 | false=>exact qAH ⟨c1,rfl,c2,rfl,qfx g _ _ h3 hg (Worker.inputs_le hw),rfl,trivial⟩
 | true=>
 have c3:=qfx g _ _ h3 hg (Worker.inputs_le hw);cases h4:qbI w.cells with
 | false=>exact qAI ⟨c1,rfl,c2,rfl,c3,rfl,qrE _ _ h4 (Worker.cells_le' hw),rfl,trivial⟩
 | true=>
 have c4:=qrE _ _ h4 (Worker.cells_le' hw);cases h5:(w.sums.length==4) with
 | false=>exact qAJ ⟨c1,rfl,c2,rfl,c3,rfl,c4,rfl,len4' h5,trivial⟩
 | true=>
 cases h6:(w.black.length==4) with
 | false=>exact qAK ⟨c1,rfl,c2,rfl,c3,rfl,c4,rfl,len4 h5,len4' h6,trivial⟩
 | true=>
 cases h7:(w.caps.length==4) with
 | false=>exact qAL ⟨c1,rfl,c2,rfl,c3,rfl,c4,rfl,len4 h5,len4 h6,len4' h7,trivial⟩
 | true=>
 have hs4:w.sums.length=4:=eq_of_beq h5;rcases qIg w (Worker.inputs_le hw) with⟨h8,l8⟩ | ⟨h8,l8⟩
 case inr=>rw[h8];exact qAS ⟨c1,rfl,c2,rfl,c3,rfl,c4,rfl,len4 h5,len4 h6,len4 h7,l8,trivial⟩
 have l9:=qaW (P:=prog) (c:=(qaa f175 1)) w.sums qcy (fun i=>qek (w.queue.map Record.e) (w.staged.map Record.e) (w.inputs.map Record.e) (w.cells.map Cell.e) (w.sums.map eI) (w.black.map eB) (w.caps.map eB) (w.dones.map Done.e) i) (X:=fun _ _=>qmw false) qaE (qaf 2)
  (fun i a ha h=>qAU ⟨dT (by have:=lt_of ha;omega),lt0,lt2 (lt_of ha),qac eI ha,qaK _ _ _ true (by simpa[qcy]using h),rfl,up1 (lt_of ha) (Worker.sums_le hw),trivial⟩)
  (fun i a ha h=>qAT ⟨dT (by have:=lt_of ha;omega),lt0,lt2 (lt_of ha),qac eI ha,qaK _ _ _ false (by simpa[qcy]using h),rfl,trivial⟩)
  (qAV ⟨dF (by omega),trivial⟩)
 rw[h8];rcases l9 with⟨_,_,h9,l9⟩ | ⟨_,_,_,_,_,_,h9,l9⟩
 case inr=>rw[h9];exact qAW ⟨c1,rfl,c2,rfl,c3,rfl,c4,rfl,len4 h5,len4 h6,len4 h7,l8,l9,trivial⟩
 rw[h9];rcases qIh w (Worker.dones_le' hw) with⟨h10,l10⟩ | ⟨h10,l10⟩
 ·rw[h10];exact qA5 ⟨c1,rfl,c2,rfl,c3,rfl,c4,rfl,len4 h5,len4 h6,len4 h7,l8,l9,l10,trivial⟩
 ·rw[h10];exact qA4 ⟨c1,rfl,c2,rfl,c3,rfl,c4,rfl,len4 h5,len4 h6,len4 h7,l8,l9,l10,trivial⟩
end Go.Proofs.YtdkobdhckkjmeaaGreat
namespace Go.Proofs.YtdkobdhckkjmeaaGreat
open Go.Sx Go.RowKit Go.Proofs.Tryz
theorem qIi(w:Worker)(hl:w.inputs.length≤8388608):
  (anyI (inBad w.inputs) 0 w.inputs=false∧qam prog (qaa f172 0) (qbS (w.inputs.map Record.e) 0 (w.queue.map Record.e) (w.staged.map Record.e) (w.inputs.map Record.e) (w.cells.map Cell.e) (w.sums.map eI) (w.black.map eB) (w.caps.map eB) (w.dones.map Done.e)) (.exit 0) (qel (w.queue.map Record.e) (w.staged.map Record.e) (w.inputs.map Record.e) (w.cells.map Cell.e) (w.sums.map eI) (w.black.map eB) (w.caps.map eB) (w.dones.map Done.e)))∨
  (anyI (inBad w.inputs) 0 w.inputs=true∧qam prog (qaa f172 0) (qbS (w.inputs.map Record.e) 0 (w.queue.map Record.e) (w.staged.map Record.e) (w.inputs.map Record.e) (w.cells.map Cell.e) (w.sums.map eI) (w.black.map eB) (w.caps.map eB) (w.dones.map Done.e)) .ret (qhD false)):=
 qdn (P:=prog) (c:=(qaa f172 0)) w.inputs (inBad w.inputs) (fun i=>qbS (w.inputs.map Record.e) i (w.queue.map Record.e) (w.staged.map Record.e) (w.inputs.map Record.e) (w.cells.map Cell.e) (w.sums.map eI) (w.black.map eB) (w.caps.map eB) (w.dones.map Done.e)) qaE (qaf 0)
  (fun i a ha h=>by
   have hi:=lt_of ha;obtain⟨h1,h2,rfl | ⟨j,b,rfl,hb,h3⟩⟩:=qrI ha h
   ·exact qBe ⟨lt1 (lt_of ha),lt0,lt2 (lt_of ha),qac Record.e ha,h1,h2,dF (by omega),up1 (lt_of ha) hl,trivial⟩
   ·exact qBd ⟨lt1 (lt_of ha),lt0,lt2 (lt_of ha),qac Record.e ha,h1,h2,dT (by omega),⟨by omega,by omega⟩,by omega,qjW hb,qjV Record.e hb,h3,up1 (lt_of ha) hl,trivial⟩)
  (fun i a ha h=>by
   have hi:=lt_of ha;rcases qrH ha h with h1 | ⟨h1,h2⟩ | ⟨h1,h2,j,b,rfl,hb,h3⟩
   ·exact qBa ⟨lt1 (lt_of ha),lt0,lt2 (lt_of ha),qac Record.e ha,h1,trivial⟩
   ·exact qBb ⟨lt1 (lt_of ha),lt0,lt2 (lt_of ha),qac Record.e ha,h1,h2,trivial⟩
   ·exact qBc ⟨lt1 (lt_of ha),lt0,lt2 (lt_of ha),qac Record.e ha,h1,h2,dT (by omega),⟨by omega,by omega⟩,by omega,qjW hb,qjV Record.e hb,h3,trivial⟩)
  (qBf ⟨ge1,trivial⟩)
theorem qrK(xs:List Done)(i:Nat)(e:Int)(r:Bool)(h:(xs.take i).any (fun q=>q.epoch==e)=r)(hl:xs.length≤8388608):Rt 271 [.one (.sl 2 ((xs.map Done.e).take i)),.one (I e)] [.one (B r)]:=by
 have c:=qqJ (xs.take i) e (by rw[zay];omega);rw[zcr,h]at c;exact c
theorem qIj(w:Worker)(hl:w.dones.length≤8388608):
  (anyI (qbT w.dones) 0 w.dones=false∧qam prog (qaa f172 2) (qds (w.dones.map Done.e) 0 (w.queue.map Record.e) (w.staged.map Record.e) (w.inputs.map Record.e) (w.cells.map Cell.e) (w.sums.map eI) (w.black.map eB) (w.caps.map eB) (w.dones.map Done.e)) (.exit 4) qmC)∨
  (anyI (qbT w.dones) 0 w.dones=true∧qam prog (qaa f172 2) (qds (w.dones.map Done.e) 0 (w.queue.map Record.e) (w.staged.map Record.e) (w.inputs.map Record.e) (w.cells.map Cell.e) (w.sums.map eI) (w.black.map eB) (w.caps.map eB) (w.dones.map Done.e)) .ret (qjG false)):=
 qdn (P:=prog) (c:=(qaa f172 2)) w.dones (qbT w.dones) (fun i=>qds (w.dones.map Done.e) i (w.queue.map Record.e) (w.staged.map Record.e) (w.inputs.map Record.e) (w.cells.map Cell.e) (w.sums.map eI) (w.black.map eB) (w.caps.map eB) (w.dones.map Done.e)) qaE (qaf 4)
  (fun i a ha h=>by
   have hi:=lt_of ha;simp only[qbT,zy,zX]at h;exact qBq ⟨lt1 (lt_of ha),lt0,lt2 (lt_of ha),qac Done.e ha,qaO _ _ _ true h.1,rfl,Int.le_refl 0,(lt0:(0:Int)≤(i:Int)),(show (i:Int)≤_ by rw[zb];omega),qrK w.dones i a.epoch false h.2 hl,rfl,up1 (lt_of ha) hl,trivial⟩)
  (fun i a ha h=>by
   have hi:=lt_of ha;cases h1:inR a.epoch 0 3 with
   | false=>exact qBo ⟨lt1 (lt_of ha),lt0,lt2 (lt_of ha),qac Done.e ha,qaO _ _ _ false h1,rfl,trivial⟩
   | true=>
    simp only[qbT,h1,zZ,zal]at h;exact qBp ⟨lt1 (lt_of ha),lt0,lt2 (lt_of ha),qac Done.e ha,qaO _ _ _ true h1,rfl,Int.le_refl 0,(lt0:(0:Int)≤(i:Int)),(show (i:Int)≤_ by rw[zb];omega),qrK w.dones i a.epoch true h hl,rfl,trivial⟩)
  (qBr ⟨ge1,trivial⟩)
theorem qjX(g:Graph)(w:Worker)(hg:g.sz≤8388608)(hw:w.sz≤8388608):Rt 172 [.agg g.e,.agg w.e] [.one (B (qaJ g w))]:=by
 unfold qaJ;cases h1:qaV g w.queue with
 | false=>exact qA6 ⟨qfy g _ _ h1 hg (Worker.queue_le hw),rfl,trivial⟩
 | true=>
 have c1:=qfy g _ _ h1 hg (Worker.queue_le hw);cases h2:qaV g w.staged with
 | false=>exact qA7 ⟨c1,rfl,qfy g _ _ h2 hg (Worker.staged_le hw),rfl,trivial⟩
 | true=>
 have c2:=qfy g _ _ h2 hg (Worker.staged_le hw);cases h3:qaV g w.inputs with
 | false=>exact qA8 ⟨c1,rfl,c2,rfl,qfy g _ _ h3 hg (Worker.inputs_le hw),rfl,trivial⟩
 | true=>
 have c3:=qfy g _ _ h3 hg (Worker.inputs_le hw);cases h4:qbI w.cells with
 | false=>exact qA9 ⟨c1,rfl,c2,rfl,c3,rfl,qrF _ _ h4 (Worker.cells_le' hw),rfl,trivial⟩
 | true=>
 have c4:=qrF _ _ h4 (Worker.cells_le' hw);rcases qIi w (Worker.inputs_le hw) with⟨h8,l8⟩ | ⟨h8,l8⟩
 case inr=>
  rw[h8];simp only[zZ,Bool.false_and,Bool.and_false];exact qBg ⟨c1,rfl,c2,rfl,c3,rfl,c4,rfl,l8,trivial⟩
 cases h5:(w.sums.length==4) with
 | false=>exact qBh ⟨c1,rfl,c2,rfl,c3,rfl,c4,rfl,l8,len4' h5,trivial⟩
 | true=>
 cases h6:(w.black.length==4) with
 | false=>exact qBi ⟨c1,rfl,c2,rfl,c3,rfl,c4,rfl,l8,len4 h5,len4' h6,trivial⟩
 | true=>
 cases h7:(w.caps.length==4) with
 | false=>exact qBj ⟨c1,rfl,c2,rfl,c3,rfl,c4,rfl,l8,len4 h5,len4 h6,len4' h7,trivial⟩
 | true=>
 have l9:=qaW (P:=prog) (c:=(qaa f172 1)) w.sums qcy (fun i=>qem (w.queue.map Record.e) (w.staged.map Record.e) (w.inputs.map Record.e) (w.cells.map Cell.e) (w.sums.map eI) (w.black.map eB) (w.caps.map eB) (w.dones.map Done.e) i) (X:=fun _ _=>qmA false) qaE (qaf 2)
  (fun i a ha h=>qBl ⟨lt1 (lt_of ha),lt0,lt2 (lt_of ha),qac eI ha,qaO _ _ _ true (by simpa[qcy]using h),rfl,up1 (lt_of ha) (Worker.sums_le hw),trivial⟩)
  (fun i a ha h=>qBk ⟨lt1 (lt_of ha),lt0,lt2 (lt_of ha),qac eI ha,qaO _ _ _ false (by simpa[qcy]using h),rfl,trivial⟩)
  (qBm ⟨ge1,trivial⟩)
 rw[h8];rcases l9 with⟨_,_,h9,l9⟩ | ⟨_,_,_,_,_,_,h9,l9⟩
 case inr=>rw[h9];exact qBn ⟨c1,rfl,c2,rfl,c3,rfl,c4,rfl,l8,len4 h5,len4 h6,len4 h7,l9,trivial⟩
 rw[h9];rcases qIj w (Worker.dones_le' hw) with⟨h10,l10⟩ | ⟨h10,l10⟩
 ·rw[h10];exact qBt ⟨c1,rfl,c2,rfl,c3,rfl,c4,rfl,l8,len4 h5,len4 h6,len4 h7,l9,l10,trivial⟩
 ·rw[h10];exact qBs ⟨c1,rfl,c2,rfl,c3,rfl,c4,rfl,l8,len4 h5,len4 h6,len4 h7,l9,l10,trivial⟩
end Go.Proofs.YtdkobdhckkjmeaaGreat
