import Derived.Test.YtdkobdhckkjmeaaGreatP72
import Derived.Test.YtdkobdhckkjmeaaGreatP61
import Derived.Test.YtdkobdhckkjmeaaGreatP18
import Derived.Test.YtdkobdhckkjmeaaGreatG4
import Derived.Test.YtdkobdhckkjmeaaGreatP43
import Derived.Test.YtdkobdhckkjmeaaGreatP21
set_option linter.unusedVariables false
set_option linter.unusedSimpArgs false
namespace Go.Proofs.YtdkobdhckkjmeaaGreat
open Go.Sx Go.RowKit
theorem spec_Kept_ret(w:Worker)(r:Record)(hw:w.sz≤8388608):Rt 347 [.agg w.e,.agg r.e] [.agg (kept w r).e]:=by
 have hq:w.queue.length≤8388608:=by simp only[Worker.sz]at hw;omega
 rw[qnD];exact spec_Kept_p0 ⟨qLa w hw,one_m hq,one_x hq,qat (Record.flat r),trivial⟩
theorem spec_Received_ret(w:Worker)(r:Record)(hw:w.sz≤8388608)(h4:w.sums.length=4)(hb:w.black.length=4)(he:0≤r.stamp.epoch∧r.stamp.epoch≤3)(hs:-1000000≤w.sums.getD r.stamp.epoch.toNat 0∧w.sums.getD r.stamp.epoch.toNat 0≤1000000):
  Rt 336 [.agg w.e,.agg r.e] [.agg (received w r).e]:=by
 have k:=spec_Kept_ret w r hw;rw[qnD]at k;rw[qOs];obtain⟨s1,s2⟩:=int4 h4 he;obtain⟨b1,b2⟩:=bool4 hb he;have hif:(↑(w.sums.map eI).length:Int)-1=3:=by rw[zb,h4];rfl
 exact spec_Received_p0 _ _ _ _ _ _ _ _ _ _ _ _ _ _ _ _ _ _ _ _ _ _ _ _ _ ⟨k,⟨by rw[hif];omega,by rw[hif];omega⟩,qaK _ _ _ true (by rw[hif];simp only[inR,zi];omega),rfl,dT b1,he.1,s1,s2,⟨by omega,by omega⟩,he.1,s1,s2,he.1,b1,b2,trivial⟩
theorem spec_Unstaged_ret(w:Worker)(r:Record)(t:List Record)(hw:w.sz≤8388608)(h:w.staged=r::t):Rt 338 [.agg w.e] [.agg (qbf w t).e,.agg r.e,.one (B true)]:=by
 have hl:w.staged.length≤8388608:=by simp only[Worker.sz]at hw;omega
 have e:(qbf w t).e=[.sl 5 (w.queue.map Record.e),.sl 5 ([]++((w.staged.map Record.e).drop 1).take ((w.staged.map Record.e).length-1)),.sl 5 (w.inputs.map Record.e),.sl 4 (w.cells.map Cell.e),.sl 1 (w.sums.map eI),.sl 1 (w.black.map eB),.sl 1 (w.caps.map eB),.sl 2 (w.dones.map Done.e)]:=by rw[qib h];rfl
 rw[e];exact spec_Unstaged_p1 ⟨qLa w hw,len_t h,by decide,qcp h,qcX h,cut_a,cut_b h,cut_c,qgS h hl,qgT h hl,qgU h,trivial⟩
theorem spec_Unstaged_none(w:Worker)(hw:w.sz≤8388608)(h:w.staged=[]):Rt 338 [.agg w.e] [.agg w.e,.agg (⟨0,⟨0,0⟩,0,0⟩:Record).e,.one (B false)]:=
 spec_Unstaged_p0 ⟨qLa w hw,len_f h,trivial⟩
theorem spec_WorkOn_ret(g:Graph)(w:Worker)(hg:g.sz≤8388608)(hw:w.sz≤8388608):Rt 80 [.agg g.e,.agg w.e] [.agg (qaY g w).1.e,.one (B (qaY g w).2)]:=by
 have cp:=qLa w hw;have k:=qjC g hg;have kw:=qrV g w hg hw;have hcl:w.cells.length≤8388608:=by simp only[Worker.sz]at hw;omega
 have hql:w.queue.length≤8388608:=by simp only[Worker.sz]at hw;omega
 cases h1:qaw g with
 | false=>
  rw[h1]at k;rw[show qaY g w=(w,false) by unfold qaY;simp[h1]];exact spec_WorkOn_p0 ⟨cp,k,rfl,trivial⟩
 | true=>
 rw[h1]at k;cases h2:qaJ g w with
 | false=>
  rw[h2]at kw;rw[show qaY g w=(w,false) by unfold qaY;simp[h2]];exact spec_WorkOn_p1 ⟨cp,k,rfl,kw,rfl,trivial⟩
 | true=>
 rw[h2]at kw;have hu:qaY g w=match w.staged,w.queue with
  | [],r::q=>(⟨q,(qau g w.cells r).2.1,w.inputs,(qau g w.cells r).1,w.sums,w.black,(if capped g r then w.caps.set r.stamp.epoch.toNat true else w.caps),w.dones⟩,true)
  | _,_=>(w,false):=by unfold qaY;rw[h1,h2];rfl
 cases h3:w.staged with
 | cons r q=>
  rw[show qaY g w=(w,false) by rw[hu,h3]];exact spec_WorkOn_p2 ⟨cp,k,rfl,kw,rfl,pos_t h3,trivial⟩
 | nil=>
 cases h4:w.queue with
 | nil=>
  rw[show qaY g w=(w,false) by rw[hu,h3,h4]];exact spec_WorkOn_p3 ⟨cp,k,rfl,kw,rfl,pos_f h3,len_f h4,trivial⟩
 | cons r q=>
  have st:=qIJ g w.cells r hg hcl;have ca:=qIM g r hg;obtain⟨k1,_,_,_,_,_,k7,_⟩:=qbd.1 h2;rw[h4,qdb]at k1;have he:=qdC k1.1;obtain⟨c1,c2⟩:=bool4 k7 he;cases h5:capped g r with
  | true=>
   rw[h5]at ca;rw[show qaY g w=(⟨q,(qau g w.cells r).2.1,w.inputs,(qau g w.cells r).1,w.sums,w.black,w.caps.set r.stamp.epoch.toNat true,w.dones⟩,true) by rw[hu,h3,h4];simp only[h5,zbb]];have e:Worker.e ⟨q,(qau g w.cells r).2.1,w.inputs,(qau g w.cells r).1,w.sums,w.black,w.caps.set r.stamp.epoch.toNat true,w.dones⟩=[.sl 5 ([]++((w.queue.map Record.e).drop 1).take ((w.queue.map Record.e).length-1)),.sl 5 ((qau g w.cells r).2.1.map Record.e),.sl 5 (w.inputs.map Record.e),.sl 4 ((qau g w.cells r).1.map Cell.e),.sl 1 (w.sums.map eI),.sl 1 (w.black.map eB),.sl 1 ((w.caps.map eB).set r.stamp.epoch.toNat [B true]),.sl 2 (w.dones.map Done.e)]:=by
    rw[qib h4];simp only[Worker.e,zau];rfl
   dsimp only;rw[e];exact spec_WorkOn_p4 _ _ _ _ _ _ _ _ _ _ _ _ _ _ _ _ _ _ _ _ _ _ _ _ _ _ _ _ _ _ _ ⟨cp,k,rfl,kw,rfl,pos_f h3,len_t h4,by decide,qcp h4,qcX h4,st,cut_a,cut_b h4,cut_c,qgS h4 hql,qgT h4 hql,qgU h4,ca,rfl,he.1,c1,c2,trivial⟩
  | false=>
   rw[h5]at ca;rw[show qaY g w=(⟨q,(qau g w.cells r).2.1,w.inputs,(qau g w.cells r).1,w.sums,w.black,w.caps,w.dones⟩,true) by rw[hu,h3,h4];simp only[h5];rfl];have e:Worker.e ⟨q,(qau g w.cells r).2.1,w.inputs,(qau g w.cells r).1,w.sums,w.black,w.caps,w.dones⟩=[.sl 5 ([]++((w.queue.map Record.e).drop 1).take ((w.queue.map Record.e).length-1)),.sl 5 ((qau g w.cells r).2.1.map Record.e),.sl 5 (w.inputs.map Record.e),.sl 4 ((qau g w.cells r).1.map Cell.e),.sl 1 (w.sums.map eI),.sl 1 (w.black.map eB),.sl 1 (w.caps.map eB),.sl 2 (w.dones.map Done.e)]:=by
    rw[qib h4];rfl
   dsimp only;rw[e];exact spec_WorkOn_p5 ⟨cp,k,rfl,kw,rfl,pos_f h3,len_t h4,by decide,qcp h4,qcX h4,st,cut_a,cut_b h4,cut_c,qgS h4 hql,qgT h4 hql,qgU h4,ca,rfl,trivial⟩
theorem spec_TakeInput_ret(g:Graph)(w:Worker)(hg:g.sz≤8388608)(hw:w.sz≤8388608):Rt 335 [.agg g.e,.agg w.e] [.agg (qaZ g w).1.e,.one (B (qaZ g w).2)]:=by
 have cp:=qLa w hw;have k:=qjC g hg;have kw:=qrV g w hg hw;have hq:w.queue.length≤8388608:=by simp only[Worker.sz]at hw;omega
 have hil:w.inputs.length≤8388608:=by simp only[Worker.sz]at hw;omega
 cases h1:qaw g with
 | false=>
  rw[h1]at k;rw[show qaZ g w=(w,false) by unfold qaZ;simp[h1]];exact spec_TakeInput_p0 ⟨cp,k,rfl,trivial⟩
 | true=>
 rw[h1]at k;cases h2:qaJ g w with
 | false=>
  rw[h2]at kw;rw[show qaZ g w=(w,false) by unfold qaZ;simp[h2]];exact spec_TakeInput_p1 ⟨cp,k,rfl,kw,rfl,trivial⟩
 | true=>
 rw[h2]at kw;have hu:qaZ g w=match w.staged,w.queue,w.inputs with
  | [],[],r::t=>(⟨[r],[],t,w.cells,w.sums,w.black,w.caps,w.dones⟩,true)
  | _,_,_=>(w,false):=by unfold qaZ;rw[h1,h2];rfl
 cases h3:w.staged with
 | cons r q=>
  rw[show qaZ g w=(w,false) by rw[hu,h3]];exact spec_TakeInput_p2 ⟨cp,k,rfl,kw,rfl,pos_t h3,trivial⟩
 | nil=>
 cases h4:w.queue with
 | cons r q=>
  rw[show qaZ g w=(w,false) by rw[hu,h3,h4]];exact spec_TakeInput_p3 ⟨cp,k,rfl,kw,rfl,pos_f h3,pos_t h4,trivial⟩
 | nil=>
 cases h5:w.inputs with
 | nil=>
  rw[show qaZ g w=(w,false) by rw[hu,h3,h4,h5]];exact spec_TakeInput_p4 ⟨cp,k,rfl,kw,rfl,pos_f h3,pos_f h4,len_f h5,trivial⟩
 | cons r t=>
  rw[show qaZ g w=(⟨[r],[],t,w.cells,w.sums,w.black,w.caps,w.dones⟩,true) by rw[hu,h3,h4,h5]];have e:Worker.e ⟨[r],[],t,w.cells,w.sums,w.black,w.caps,w.dones⟩=[.sl 5 (w.queue.map Record.e++[r.e]),.sl 5 (w.staged.map Record.e),.sl 5 ([]++((w.inputs.map Record.e).drop 1).take ((w.inputs.map Record.e).length-1)),.sl 4 (w.cells.map Cell.e),.sl 1 (w.sums.map eI),.sl 1 (w.black.map eB),.sl 1 (w.caps.map eB),.sl 2 (w.dones.map Done.e)]:=by
   rw[qib h5,h4,h3];rfl
  dsimp only;rw[e];exact spec_TakeInput_p5 ⟨cp,k,rfl,kw,rfl,pos_f h3,pos_f h4,len_t h5,by decide,qcp h5,qcX h5,one_m hq,one_x hq,qat (Record.flat r),cut_a,cut_b h5,cut_c,qgS h5 hil,qgT h5 hil,qgU h5,trivial⟩
end Go.Proofs.YtdkobdhckkjmeaaGreat
namespace Go.Proofs.YtdkobdhckkjmeaaGreat
open Go.Sx Go.RowKit
inductive Step (c:Cluster) (p:Pick):Cluster→Prop
 | work (x:Worker) (r:Record) (q:List Record) (hk:p.kind=1) (hx:wAt c p.a=some x) (hs:x.staged=[]) (hq:x.queue=r::q):
   Step c p (setW c p.a ⟨q,(qau c.graph x.cells r).2.1,x.inputs,(qau c.graph x.cells r).1,x.sums,x.black,(if capped c.graph r then x.caps.set r.stamp.epoch.toNat true else x.caps),x.dones⟩)
 | input (x:Worker) (r:Record) (t:List Record) (hk:p.kind=2) (hx:wAt c p.a=some x) (hs:x.staged=[]) (hq:x.queue=[]) (hi:x.inputs=r::t):
   Step c p (setW c p.a ⟨[r],[],t,x.cells,x.sums,x.black,x.caps,x.dones⟩)
 | keep (x:Worker) (r:Record) (t:List Record) (hk:p.kind=3) (hx:wAt c p.a=some x) (hs:x.staged=r::t) (ho:qax r.key c.graph.workers=p.a):
   Step c p (setW c p.a (kept (qbf x t) r))
 | send (x:Worker) (r:Record) (t:List Record) (l:Link) (hk:p.kind=3) (hx:wAt c p.a=some x) (hs:x.staged=r::t) (ho:qax r.key c.graph.workers≠p.a)
   (hl:lAt c (qav c.graph p.a (qax r.key c.graph.workers))=some l) (h:(qay l r).2=true):
   Step c p (setW (setL c (qav c.graph p.a (qax r.key c.graph.workers)) (qay l r).1) p.a (qbZ (qbf x t) r.stamp.epoch))
 | take (l:Link) (x:Worker) (hk:p.kind=4) (hab:p.a≠p.b) (hl:lAt c (qav c.graph p.a p.b)=some l) (hx:wAt c p.b=some x) (h:(qaq l).2.2=true):
   Step c p (setW (setL c (qav c.graph p.a p.b) (qaq l).1) p.b (received x (qaq l).2.1))
 | credit (l:Link) (hk:p.kind=5) (hab:p.a≠p.b) (hl:lAt c (qav c.graph p.a p.b)=some l) (h:(qaQ l).2=true):
   Step c p (setL c (qav c.graph p.a p.b) (qaQ l).1)
 | token (t:Token) (x x0:Worker) (hk:p.kind=6) (he:inR p.a 0 3=true) (h0:wAt c 0=some x0) (hd:qaz x0 p.a=false) (ht:tAt c p.a=some t) (hx:wAt c t.place=some x) (h:(tokenAt c p.a t x).2=true):
   Step c p (tokenAt c p.a t x).1
 | hear (k:Nat) (n:News) (x:Worker) (hk:p.kind=7) (hn:c.news[k]?=some n) (hd:n.dest=p.a) (hx:wAt c p.a=some x):
   Step c p (setN (setW c p.a (hears x n)) (cutAt c.news k))
theorem qOy(g:Graph)(w:Worker):((qaY g w).2=false∧(qaY g w).1=w)∨
  ((qaY g w).2=true∧∃r q,w.staged=[]∧w.queue=r::q∧(qaY g w).1=⟨q,(qau g w.cells r).2.1,w.inputs,(qau g w.cells r).1,w.sums,w.black,(if capped g r then w.caps.set r.stamp.epoch.toNat true else w.caps),w.dones⟩):=by
 unfold qaY;split
 ·split
  ·rename_i r q hs hq;exact .inr ⟨rfl,r,q,hs,hq,rfl⟩
  ·exact .inl ⟨rfl,rfl⟩
 ·exact .inl ⟨rfl,rfl⟩
theorem qOz(g:Graph)(w:Worker):((qaZ g w).2=false∧(qaZ g w).1=w)∨
  ((qaZ g w).2=true∧∃r t,w.staged=[]∧w.queue=[]∧w.inputs=r::t∧(qaZ g w).1=⟨[r],[],t,w.cells,w.sums,w.black,w.caps,w.dones⟩):=by
 unfold qaZ;split
 ·split
  ·rename_i r t hs hq hi;exact .inr ⟨rfl,r,t,hs,hq,hi,rfl⟩
  ·exact .inl ⟨rfl,rfl⟩
 ·exact .inl ⟨rfl,rfl⟩
theorem qic{l:Link}{r:Record}(h:(qay l r).2=true):qbq l=true∧l.credits≠0∧l.sent<1000000000∧(qay l r).1=⟨l.cap,l.queue++[r],l.credits-1,l.back,l.sent+1,l.got⟩:=by
 unfold qay at h ⊢;split
 ·rename_i hc;simp only[zj,bne_iff_ne,zcc,zi]at hc;exact⟨hc.1.1.1,hc.1.2,hc.2,rfl⟩
 ·rename_i hc;rw[zo hc]at h;cases h
theorem qfI{l:Link}(h:(qaq l).2.2=true):qbq l=true∧∃r q,l.queue=r::q∧(qaq l).2.1=r∧(qaq l).1=⟨l.cap,q,l.credits,l.back+1,l.sent,l.got+1⟩:=by
 unfold qaq at h ⊢;split
 ·rename_i hc;rw[zp hc]at h;refine⟨hc,?_⟩;cases hq:l.queue with
  | nil=>rw[hq]at h;cases h
  | cons r q=>exact⟨r,q,rfl,rfl,rfl⟩
 ·rename_i hc;rw[zo hc]at h;cases h
theorem qfJ(l:Link):((qaQ l).2=false∧(qaQ l).1=l)∨((qaQ l).2=true∧qbq l=true∧l.back≠0∧(qaQ l).1=⟨l.cap,l.queue,l.credits+1,l.back-1,l.sent,l.got⟩):=by
 unfold qaQ;split
 ·rename_i hc;simp only[zj,bne_iff_ne,zcc]at hc;exact .inr ⟨rfl,hc.1,hc.2,rfl⟩
 ·exact .inl ⟨rfl,rfl⟩
theorem qcY (c : Cluster) (e : Int) (t : Token) (x : Worker) : ((tokenAt c e t x).2 = false ∧ (tokenAt c e t x).1 = c) ∨ ((tokenAt c e t x).2 = true ∧ qbF x e = true ∧
    ((t.going = false ∧ (tokenAt c e t x).1 = setW (setT c e ⟨true, (c.workers.length : Int) - 1, 0, false, x.caps.getD e.toNat false⟩) t.place (qaA x e)) ∨
     (t.going = true ∧ 0 < t.place ∧ (tokenAt c e t x).1 = setW (setT c e ⟨true, t.place - 1, t.sum + x.sums.getD e.toNat 0, t.black || x.black.getD e.toNat false, t.capped || x.caps.getD e.toNat false⟩) t.place (qaA x e)) ∨
     (t.going = true ∧ ¬ 0 < t.place ∧ (t.black = false ∧ x.black.getD e.toNat false = false ∧ t.sum + x.sums.getD e.toNat 0 = 0) ∧
       (tokenAt c e t x).1 = setN (setW (setT c e ⟨false, t.place, t.sum, t.black, t.capped⟩) 0 (told x e (t.capped || x.caps.getD e.toNat false))) (c.news ++ qaR (c.workers.length - 1) e (t.capped || x.caps.getD e.toNat false))) ∨
     (t.going = true ∧ ¬ 0 < t.place ∧ ¬ (t.black = false ∧ x.black.getD e.toNat false = false ∧ t.sum + x.sums.getD e.toNat 0 = 0) ∧ (tokenAt c e t x).1 = setT c e ⟨false, t.place, t.sum, t.black, t.capped⟩))) := by
  unfold tokenAt;split
  case isFalse => exact .inl ⟨rfl, rfl⟩
  rename_i hp;cases hg : t.going with
  | false => exact .inr ⟨rfl, hp, .inl ⟨rfl, rfl⟩⟩
  | true =>
    rw [zo (by simp)];split
    · rename_i h0;split
      · exact .inr ⟨rfl, hp, .inr (.inl ⟨rfl, h0, rfl⟩)⟩
      · exact .inl ⟨rfl, rfl⟩
    · rename_i h0;split
      · rename_i hc;simp only [zj, zS, zE] at hc;exact .inr ⟨rfl, hp, .inr (.inr (.inl ⟨rfl, h0, ⟨hc.1.1, hc.1.2, hc.2⟩, rfl⟩))⟩
      · rename_i hc;refine .inr ⟨rfl, hp, .inr (.inr (.inr ⟨rfl, h0, fun hn => hc ?_, rfl⟩))⟩;simp only [zj, zS, zE];exact ⟨⟨hn.1, hn.2.1⟩, hn.2.2⟩
theorem qfK(c:Cluster)(p:Pick):((stepPick c p).2=false∧(stepPick c p).1=c)∨(qai c=true∧(stepPick c p).2=true∧Step c p (stepPick c p).1):=by
 unfold stepPick;split
 ·rename_i hk;unfold qbr;split
  case isFalse=>exact .inl ⟨rfl,rfl⟩
  rename_i hok;cases hx:wAt c p.a with
  | none=>exact .inl ⟨rfl,rfl⟩
  | some x=>
   rcases qOy c.graph x with⟨h1,h2⟩ | ⟨h1,r,q,hs,hq,h2⟩
   ·exact .inl ⟨h1,by dsimp only;rw[h2];exact qdV hx⟩
   ·refine .inr ⟨hok,h1,?_⟩;dsimp only;rw[h2];exact .work x r q hk hx hs hq
 split
 ·rename_i hk;unfold qbs;split
  case isFalse=>exact .inl ⟨rfl,rfl⟩
  rename_i hok;cases hx:wAt c p.a with
  | none=>exact .inl ⟨rfl,rfl⟩
  | some x=>
   rcases qOz c.graph x with⟨h1,h2⟩ | ⟨h1,r,t,hs,hq,hi,h2⟩
   ·exact .inl ⟨h1,by dsimp only;rw[h2];exact qdV hx⟩
   ·refine .inr ⟨hok,h1,?_⟩;dsimp only;rw[h2];exact .input x r t hk hx hs hq hi
 split
 ·rename_i hk;unfold qbk;split
  case isFalse=>exact .inl ⟨rfl,rfl⟩
  rename_i hok;cases hx:wAt c p.a with
  | none=>exact .inl ⟨rfl,rfl⟩
  | some x=>
   dsimp only;cases hs:x.staged with
   | nil=>exact .inl ⟨rfl,rfl⟩
   | cons r t=>
    dsimp only;unfold qc9;split
    ·rename_i ho;exact .inr ⟨hok,rfl,.keep x r t hk hx hs ho⟩
    ·rename_i ho;cases hl:lAt c (qav c.graph p.a (qax r.key c.graph.workers)) with
     | none=>exact .inl ⟨rfl,rfl⟩
     | some l=>
      dsimp only;split
      ·rename_i h;exact .inr ⟨hok,rfl,.send x r t l hk hx hs ho hl h⟩
      ·exact .inl ⟨rfl,rfl⟩
 split
 ·rename_i hk;unfold qbw;split
  case isFalse=>exact .inl ⟨rfl,rfl⟩
  rename_i hc;simp only[zj,bne_iff_ne,zcc]at hc;cases hl:lAt c (qav c.graph p.a p.b) with
  | none=>exact .inl ⟨rfl,rfl⟩
  | some l=>
   cases hx:wAt c p.b with
   | none=>exact .inl ⟨rfl,rfl⟩
   | some x=>
    dsimp only;split
    ·rename_i h;exact .inr ⟨hc.1,rfl,.take l x hk hc.2 hl hx h⟩
    ·exact .inl ⟨rfl,rfl⟩
 split
 ·rename_i hk;unfold qbt;split
  case isFalse=>exact .inl ⟨rfl,rfl⟩
  rename_i hc;simp only[zj,bne_iff_ne,zcc]at hc;cases hl:lAt c (qav c.graph p.a p.b) with
  | none=>exact .inl ⟨rfl,rfl⟩
  | some l=>
   rcases qfJ l with⟨h1,h2⟩ | ⟨h1,_⟩
   ·exact .inl ⟨h1,by dsimp only;rw[h2];exact qJc hl⟩
   ·exact .inr ⟨hc.1,h1,.credit l hk hc.2 hl h1⟩
 split
 ·rename_i hk;unfold qbc;split
  case isFalse=>exact .inl ⟨rfl,rfl⟩
  rename_i hc;simp only[zj]at hc;cases h0:wAt c 0 with
  | none=>exact .inl ⟨rfl,rfl⟩
  | some x0=>
   cases ht:tAt c p.a with
   | none=>exact .inl ⟨rfl,rfl⟩
   | some t=>
    dsimp only;cases hd:qaz x0 p.a with
    | true=>exact .inl ⟨rfl,rfl⟩
    | false=>
     rw[zo (by simp)];cases hx:wAt c t.place with
     | none=>exact .inl ⟨rfl,rfl⟩
     | some x=>
      dsimp only;rcases qcY c p.a t x with h1 | ⟨h1,_⟩
      ·exact .inl h1
      ·exact .inr ⟨hc.1,h1,.token t x x0 hk hc.2 h0 hd ht hx h1⟩
 split
 ·rename_i hk;unfold qbx;cases hf:c.news.findIdx? (fun n=>n.dest==p.a) with
  | none=>exact .inl ⟨rfl,rfl⟩
  | some k=>
   dsimp only;split
   case isFalse=>exact .inl ⟨rfl,rfl⟩
   rename_i hok;cases hn:c.news[k]? with
   | none=>exact .inl ⟨rfl,rfl⟩
   | some n=>
    cases hx:wAt c p.a with
    | none=>exact .inl ⟨rfl,rfl⟩
    | some x=>
     dsimp only;have hd:n.dest=p.a:=by
      have:=zai.1 hf;obtain⟨hl,hp,_⟩:=this;rw[zu hl]at hn;rw[zx hn]at hp;simpa using hp
     exact .inr ⟨hok,rfl,.hear k n x hk hn hd hx⟩
 ·exact .inl ⟨rfl,rfl⟩
theorem qOA{c:Cluster}{p:Pick}(h:(stepPick c p).2=false):(stepPick c p).1=c:=by
 rcases qfK c p with⟨_,h2⟩ | ⟨_,h2,_⟩
 ·exact h2
 ·rw[h]at h2;cases h2
end Go.Proofs.YtdkobdhckkjmeaaGreat
namespace Go.Proofs.YtdkobdhckkjmeaaGreat
open Go.Sx Go.RowKit Go.Sort
def sumS{α:Type}(f:α→Nat)(xs:List α):Nat:=(xs.map f).sum
theorem qkg{α:Type}{f:α→Nat}{y:α}(x:α){xs:List α}{i:Nat}(h:xs[i]?=some y):sumS f (xs.set i x)+f y=sumS f xs+f x:=by
 have:=qj3 (sz:=f) x h;simp only[szS,zn]at this;unfold sumS;omega
end Go.Proofs.YtdkobdhckkjmeaaGreat
namespace Go.Proofs.YtdkobdhckkjmeaaGreat
open Go.Sx Go.RowKit
def sE(e:Int)(x:Worker):Int:=x.sums.getD e.toNat 0
def bE(e:Int)(x:Worker):Bool:=x.black.getD e.toNat false
def cE(e:Int)(x:Worker):Bool:=x.caps.getD e.toNat false
def preS(e:Int)(c:Cluster)(k:Nat):Int:=((c.workers.take k).map (sE e)).sum
def infl(e:Int)(c:Cluster):Nat:=sumS (qbp e) c.links
def quiet(e:Int)(c:Cluster):Prop:=(∀x∈c.workers,qbF x e=true)∧infl e c=0
def Good(e:Int)(c:Cluster)(t:Token):Prop:=
 ((∀(i:Nat) x,t.place<i→c.workers[i]?=some x→qbF x e=true∧(cE e x=true→t.capped=true))∧preS e c (t.place+1).toNat+t.sum=infl e c)∨
 0<preS e c (t.place+1).toNat+t.sum∨(∃(i:Nat) (x:Worker),(i:Int)≤t.place∧c.workers[i]?=some x∧bE e x=true)∨t.black=true
structure Inv (e:Int) (c:Cluster):Prop where
 total:preS e c c.workers.length=infl e c
 token:∀t,tAt c e=some t→t.going=true→Good e c t
 tells:(toldW c e||toldN c e)=true→quiet e c
theorem qgW{α:Type}(f:α→Int){y:α}(x:α):∀{xs:List α} {i k:Nat},xs[i]?=some y→(((xs.set i x).take k).map f).sum=((xs.take k).map f).sum+(if i<k then f x-f y else 0)
 | [],_,_,h=>by simp at h
 | a::xs,0,0,h=>by simp
 | a::xs,0,k+1,h=>by
  obtain rfl:a=y:=by simpa using h
  simp only[List.set_cons_zero,List.take_succ_cons,zav,zcw];rw[zp (by omega)];omega
 | a::xs,i+1,0,h=>by simp
 | a::xs,i+1,k+1,h=>by
  have ih:=qgW f x (xs:=xs) (i:=i) (k:=k) (by simpa using h);simp only[List.set_cons_succ,List.take_succ_cons,zav,zcw,ih];by_cases hk:i<k
  ·rw[zp hk,zp (by omega)];omega
  ·rw[zo hk,zo (by omega)];omega
theorem qeC{α:Type}{xs:List α}{i j:Nat}{y z:α}(h:(xs.set i y)[j]?=some z):(j=i∧z=y)∨(j≠i∧xs[j]?=some z):=by
 rw[zad]at h;split at h
 ·rename_i hij;split at h
  ·exact .inl ⟨hij.symm,(zx h).symm⟩
  ·cases h
 ·exact .inr ⟨fun q=>‹¬i=j› q.symm,h⟩
theorem qcL{α:Type}{xs:List α}{i:Nat}{x y:α}(h:xs[i]?=some x):(xs.set i y)[i]?=some y:=by
 rw[zad,zp rfl,zp (lt_of h)]
theorem qid{α:Type}{xs:List α}{i j:Nat}{y z:α}(h:xs[j]?=some z)(hj:j≠i):(xs.set i y)[j]?=some z:=by
 rw[zad,zo (fun q=>hj q.symm),h]
theorem qie{α:Type}{xs:List α}{i:Nat}{x:α}(h:xs[i]?=some x):xs.set i x=xs:=by
 have hl:=lt_of h;rw[zu hl]at h;rw[←zx h];exact List.set_getElem_self hl
theorem Inv.worker{e i:Int}{c d:Cluster}{x y:Worker}(h:Inv e c)(hx:wAt c i=some x)(hw:d.workers=c.workers.set i.toNat y)(ht:tAt d e=tAt c e)
  (htold:(toldW d e||toldN d e)=true→(toldW c e||toldN c e)=true)
  (hc:(sE e y=sE e x∧(bE e x=true→bE e y=true)∧infl e d=infl e c∧(qbF x e=true→qbF y e=true∧cE e y=cE e x))∨
   (qbF x e=false∧sE e y=sE e x+1∧(bE e x=true→bE e y=true)∧infl e d=infl e c+1)∨
   (infl e c=infl e d+1∧sE e y=sE e x-1∧bE e y=true)):Inv e d:=by
 obtain⟨i0,i1,i2⟩:=qaC hx;have hlen:d.workers.length=c.workers.length:=by rw[hw,zn]
 have hpre:∀k,preS e d k=preS e c k+(if i.toNat<k then sE e y-sE e x else 0):=fun k=>by
  unfold preS;rw[hw];exact qgW (sE e) y i2
 have hmem:x∈c.workers:=qag i2;refine⟨?_,fun t hT hg=>?_,fun hT=>?_⟩
 ·rw[hpre,hlen,zp i1,h.total];rcases hc with⟨h1,_,h3,_⟩ | ⟨_,h2,_,h4⟩ | ⟨h1,h2,_⟩<;>omega
 ·have hG:=h.token t (ht▸hT) hg;unfold Good at hG ⊢;rw[hpre];have hP3:(bE e x=true→bE e y=true)→(∃(j:Nat) (z:Worker),(j:Int)≤t.place∧c.workers[j]?=some z∧bE e z=true)→∃(j:Nat) (z:Worker),(j:Int)≤t.place∧d.workers[j]?=some z∧bE e z=true:=by
   rintro hb ⟨j,z,g1,g2,g3⟩;by_cases hj:j=i.toNat
   ·subst hj;rw[i2]at g2;cases g2;exact⟨_,y,g1,by rw[hw];exact qcL i2,hb g3⟩
   ·exact⟨j,z,g1,by rw[hw];exact qid g2 hj,g3⟩
  rcases hc with⟨h1,h2,h3,h4⟩ | ⟨h1,h2,h3,h4⟩ | ⟨h1,h2,h3⟩
  ·rcases hG with⟨ga,gb⟩ | g | g | g
   ·refine .inl ⟨fun j z hj hz=>?_,?_⟩
    ·rw[hw]at hz;rcases qeC hz with⟨rfl,rfl⟩ | ⟨_,hz⟩
     ·have:=ga _ x hj i2;obtain⟨k1,k2⟩:=h4 this.1;exact⟨k1,fun hcap=>this.2 (k2▸hcap)⟩
     ·exact ga j z hj hz
    ·split<;>omega
   ·exact .inr (.inl (by split<;>omega))
   ·exact .inr (.inr (.inl (hP3 h2 g)))
   ·exact .inr (.inr (.inr g))
  ·rcases hG with⟨ga,gb⟩ | g | g | g
   ·have hle:¬t.place<i.toNat:=fun hlt=>by
     have:=(ga _ x hlt i2).1;rw[h1]at this;cases this
    refine .inl ⟨fun j z hj hz=>?_,?_⟩
    ·rw[hw]at hz;rcases qeC hz with⟨rfl,rfl⟩ | ⟨_,hz⟩
     ·exact absurd hj hle
     ·exact ga j z hj hz
    ·rw[zp (by omega)];omega
   ·exact .inr (.inl (by split<;>omega))
   ·exact .inr (.inr (.inl (hP3 h3 g)))
   ·exact .inr (.inr (.inr g))
  ·by_cases hle:(i.toNat:Int)≤t.place
   ·exact .inr (.inr (.inl ⟨i.toNat,y,hle,by rw[hw];exact qcL i2,h3⟩))
   rw[zo (by omega)];rcases hG with⟨_,gb⟩ | g | ⟨j,z,g1,g2,g3⟩ | g
   ·exact .inr (.inl (by omega))
   ·exact .inr (.inl (by omega))
   ·exact .inr (.inr (.inl ⟨j,z,g1,by rw[hw];exact qid g2 (by omega),g3⟩))
   ·exact .inr (.inr (.inr g))
 ·obtain⟨q1,q2⟩:=h.tells (htold hT);have hp:=q1 x hmem;rcases hc with⟨_,_,h3,h4⟩ | ⟨h1,_⟩ | ⟨h1,_⟩
  ·refine⟨fun z hz=>?_,by omega⟩;rw[hw]at hz;rcases zbf hz with hz | rfl
   ·exact q1 z hz
   ·exact (h4 hp).1
  ·rw[hp]at h1;cases h1
  ·omega
theorem qcq{x:Worker}{e:Int}:qbF x e=true↔(∀r∈x.inputs,e<r.stamp.epoch)∧(∀r∈x.queue,r.stamp.epoch≠e)∧∀r∈x.staged,r.stamp.epoch≠e:=by
 simp only[qbF,qfA,qrY,qa6,zj,zS,zP,zi,zE];rw[show ∀a b:Nat,a+b=0↔a=0∧b=0 from fun a b=>by omega,List.length_eq_zero_iff,List.length_eq_zero_iff,List.filter_eq_nil_iff,List.filter_eq_nil_iff];simp only[zE,Int.not_le]
theorem qOB(g:Graph)(cs:List Cell)(r:Record):∀q∈(qau g cs r).2.1,q.stamp.epoch=r.stamp.epoch:=by
 intro q hq;unfold qau at hq;split at hq
 ·rename_i n _;unfold qas at hq;have hs:∀s:Stamp,s.epoch=r.stamp.epoch→∀k v,q∈sends n s k v→q.stamp.epoch=r.stamp.epoch:=by
   intro s hse k v hm;simp only[sends,zbm]at hm;obtain⟨o,_,rfl⟩:=hm;exact hse
  have hn:(qaG r.stamp).1.epoch=r.stamp.epoch:=by
   unfold qaG;split<;>rfl
  grind
 ·cases hq
theorem qfL{α:Type}{xs:List α}{i j:Nat}{a d:α}(h:i≠j):(xs.set i a).getD j d=xs.getD j d:=by
 simp only[zN,zad,zo h]
theorem qkh{α:Type}{xs:List α}{i:Nat}{a d:α}(h:i<xs.length):(xs.set i a).getD i d=a:=by
 simp[zN,h]
theorem qnE{c:Cluster}{i e:Int}{l m:Link}(h:lAt c i=some l):infl e (setL c i m)+qbp e l=infl e c+qbp e m:=by
 unfold infl;exact qkg m (qbl h).2.2
theorem qOC(e cap:Int)(q:List Record)(r:Record)(a b s g:Int)(l:Link)(hl:l.queue=q):qbp e ⟨cap,q++[r],a,b,s,g⟩=qbp e l+(if r.stamp.epoch=e then 1 else 0):=by
 simp only[qbp,qa6,List.filter_append,zab,hl,List.filter_cons,List.filter_nil,zE];split<;>rfl
theorem qOD(e:Int)(r:Record)(q:List Record)(l:Link)(hl:l.queue=r::q)(cap a b s g:Int):qbp e l=qbp e ⟨cap,q,a,b,s,g⟩+(if r.stamp.epoch=e then 1 else 0):=by
 simp only[qbp,qa6,hl,List.filter_cons,zE];split<;>simp
theorem qdg{c d:Cluster}{i e:Int}{x y:Worker}(hx:wAt c i=some x)(hd:d.workers=c.workers.set i.toNat y)(h:qaz y e=true→qaz x e=true∨toldN c e=true)(hn:toldN d e=true→toldN c e=true):
  (toldW d e||toldN d e)=true→(toldW c e||toldN c e)=true:=by
 simp only[zbi];rintro (hw | hw)
 ·unfold toldW at hw ⊢;rw[hd,zcj]at hw;obtain⟨z,hz,hdz⟩:=hw;rcases zbf hz with hz | rfl
  ·exact .inl (zcj.2 ⟨z,hz,hdz⟩)
  ·rcases h hdz with h1 | h1
   ·exact .inl (zcj.2 ⟨x,qag (qaC hx).2.2,h1⟩)
   ·exact .inr h1
 ·exact .inr (hn hw)
theorem qfM{a b:Int}(ha:0≤a)(hb:0≤b)(h:a≠b):a.toNat≠b.toNat:=by omega
theorem qtx{e f d:Int}(he:0≤e∧e≤3)(hf:0≤f∧f≤3){xs:List Int}(hl:xs.length=4):(incAt xs f d).getD e.toNat 0=xs.getD e.toNat 0+(if f=e then d else 0):=by
 unfold incAt;by_cases h:f=e
 ·subst h;rw[qkh (by omega),zp rfl]
 ·rw[qfL (qfM hf.1 he.1 h),zo h];omega
theorem qif{g:Graph}{w:Worker}(h:qaJ g w=true):w.sums.length=4∧w.black.length=4∧w.caps.length=4:=by
 obtain⟨_,_,_,_,h5,h6,h7,_⟩:=qbd.1 h;exact⟨h5,h6,h7⟩
theorem qnF{g:Graph}{xs:List Record}(h:qaV g xs=true){r:Record}(hr:r∈xs):0≤r.stamp.epoch∧r.stamp.epoch≤3:=by
 simp only[qaV,zS,zP]at h;exact qdC (g:=g) (by simpa using h r hr)
theorem qeD{x:Worker}{e f:Int}{b:Bool}:qaz (told x f b) e=(qaz x e||f==e):=by
 simp[qaz,told]
theorem qki{x:Worker}{n:News}{e:Int}:qaz (hears x n) e=(qaz x e||n.epoch==e):=by
 unfold hears;split
 ·rename_i h;by_cases he:n.epoch=e
  ·subst he;rw[h];rfl
  ·have:(n.epoch==e)=false:=by simpa using he
   rw[this,Bool.or_false]
 ·exact qeD
theorem qOE{x:Worker}{n:News}{e:Int}:qbF (hears x n) e=qbF x e:=by
 unfold hears;split<;>rfl
theorem qkj{x:Worker}{n:News}{e:Int}:sE e (hears x n)=sE e x∧bE e (hears x n)=bE e x∧cE e (hears x n)=cE e x:=by
 unfold hears;split<;>exact⟨rfl,rfl,rfl⟩
theorem qkk{e:Int}{c:Cluster}{k:Nat}{x:Worker}(h:c.workers[k]?=some x):preS e c (k+1)=preS e c k+sE e x:=by
 simp[preS,zbe,h]
theorem qeE{c:Cluster}{e f:Int}{t:Token}(he:0≤e)(hf:0≤f)(h:f≠e):(if 0≤e then (c.tokens.set f.toNat t)[e.toNat]? else none)=tAt c e:=by
 unfold tAt;rw[zad,zo (qfM hf he h)]
theorem qty{c:Cluster}{e f:Int}{n:Nat}{b:Bool}(h:f≠e):((c.news++qaR n f b).any fun x=>x.epoch==e)=toldN c e:=by
 rw[List.any_append];have:((qaR n f b).any fun x=>x.epoch==e)=false:=by
  rw[zP];intro x hx;simp only[qaR,zbm]at hx;obtain⟨_,_,rfl⟩:=hx;simpa using h
 rw[this,Bool.or_false];rfl
theorem Inv.tokenOther{e f:Int}{c:Cluster}{t:Token}{x:Worker}(h:Inv e c)(he:0≤e)(hf:0≤f)(hne:f≠e)(hx:wAt c t.place=some x):Inv e (tokenAt c f t x).1:=by
 have white:bE e (qaA x f)=bE e x:=by
  unfold bE qaA;exact qfL (qfM hf he hne)
 rcases qcY c f t x with⟨_,h2⟩ | ⟨_,_,h1⟩
 ·rw[h2];exact h
 rcases h1 with⟨_,h2⟩ | ⟨_,_,h2⟩ | ⟨_,h0,_,h2⟩ | ⟨_,_,_,h2⟩
 ·rw[h2];exact h.worker hx rfl (qeE he hf hne) (qdg hx rfl (fun k=>.inl k) id) (.inl ⟨rfl,fun k=>white.trans k,rfl,fun k=>⟨k,rfl⟩⟩)
 ·rw[h2];exact h.worker hx rfl (qeE he hf hne) (qdg hx rfl (fun k=>.inl k) id) (.inl ⟨rfl,fun k=>white.trans k,rfl,fun k=>⟨k,rfl⟩⟩)
 ·rw[h2];have hz:t.place=0:=by have:=(qaC hx).1;omega
  rw[hz]at hx;refine h.worker hx rfl (qeE he hf hne) (qdg hx rfl (fun k=>?_) (fun k=>(qty hne).symm.trans k)) (.inl ⟨rfl,id,rfl,fun k=>⟨k,rfl⟩⟩);rw[qeD]at k;have:(f==e)=false:=by simpa using hne
  rw[this,Bool.or_false]at k;exact .inl k
 ·rw[h2];exact h.worker (y:=x) hx (qie (qaC hx).2.2).symm (qeE he hf hne) (qdg hx (qie (qaC hx).2.2).symm (fun k=>.inl k) id) (.inl ⟨rfl,id,rfl,fun k=>⟨k,rfl⟩⟩)
theorem qOF{n:Int}(h:0≤n):(n+1).toNat=n.toNat+1:=by omega
theorem qOG{n:Int}:(n-1+1).toNat=n.toNat:=by rw[Int.sub_add_cancel]
theorem qig{c:Cluster}{e:Int}{t u:Token}(h:tAt c e=some t):(if 0≤e then (c.tokens.set e.toNat u)[e.toNat]? else none)=some u:=by
 obtain⟨h0,_,h2⟩:=qfC h;rw[zp h0];exact qcL h2
theorem Inv.over{e:Int}{c:Cluster}{t:Token}{x:Worker}(h:Inv e c)(ht:tAt c e=some t)(hg:t.going=true)(h0:¬0<t.place)(hx:wAt c t.place=some x)(hp:qbF x e=true)
  (hb:t.black=false∧x.black.getD e.toNat false=false∧t.sum+x.sums.getD e.toNat 0=0):quiet e c∧((t.capped||cE e x)=false→∀z∈c.workers,cE e z=false):=by
 have hz:t.place=0:=by have:=(qaC hx).1;omega
 obtain⟨_,_,x2⟩:=qaC hx;rw[hz]at x2;have hs:preS e c 1=sE e x:=by rw[qkk (k:=0) x2];simp[preS]
 have hG:=h.token t ht hg;unfold Good at hG;rw[hz]at hG;change ((_∧preS e c 1+t.sum=_)∨0<preS e c 1+t.sum∨_) at hG;rw[hs]at hG;have hb3:t.sum+sE e x=0:=hb.2.2;rcases hG with⟨ga,gb⟩ | g | ⟨i,z,g1,g2,g3⟩ | g
 ·have key:∀z∈c.workers,qbF z e=true∧(cE e z=true→(t.capped||cE e x)=true):=by
   intro z hz;obtain⟨i,hi⟩:=List.getElem?_of_mem hz;by_cases h1:i=0
   ·subst h1;rw[show c.workers[0]?=some x from x2]at hi;cases hi;exact⟨hp,fun k=>by rw[k,Bool.or_true]⟩
   ·obtain⟨k1,k2⟩:=ga i z (by omega) hi;exact⟨k1,fun k=>by rw[k2 k,Bool.true_or]⟩
  refine⟨⟨fun z hz=>(key z hz).1,by omega⟩,fun hcap z hz=>?_⟩;cases hcz:cE e z with
  | false=>rfl
  | true=>rw[(key z hz).2 hcz]at hcap;cases hcap
 ·omega
 ·have:i=0:=by omega
  subst this;rw[show c.workers[0]?=some x from x2]at g2;cases g2;rw[show bE e x=false from hb.2.1]at g3;cases g3
 ·rw[hb.1]at g;cases g
theorem Inv.tokenOwn{e:Int}{c:Cluster}{t:Token}{x:Worker}(h:Inv e c)(hok:qai c=true)(ht:tAt c e=some t)(hx:wAt c t.place=some x):Inv e (tokenAt c e t x).1:=by
 obtain⟨i0,i1,i2⟩:=qaC hx;obtain⟨_,_,hrest,_⟩:=qdD.1 (qgB hok ht);rcases qcY c e t x with⟨_,h2⟩ | ⟨_,hp,h1⟩
 ·rw[h2];exact h
 have whole:∀u:Token,(u.going=true→Good e (setW (setT c e u) t.place (qaA x e)) u)→Inv e (setW (setT c e u) t.place (qaA x e)):=by
  intro u hu;have hpre:∀k,preS e (setW (setT c e u) t.place (qaA x e)) k=preS e c k:=fun k=>by
   have:=qgW (sE e) (qaA x e) (k:=k) i2;rw[show sE e (qaA x e)=sE e x from rfl,Int.sub_self,ite_self,Int.add_zero]at this;exact this
  refine⟨?_,fun t' hT hg=>?_,fun hT=>?_⟩
  ·rw[hpre,show (setW (setT c e u) t.place (qaA x e)).workers.length=c.workers.length from zn];exact h.total
  ·rw[show tAt (setW (setT c e u) t.place (qaA x e)) e=some u from qig ht]at hT;cases hT;exact hu hg
  ·obtain⟨q1,q2⟩:=h.tells (qdg (c:=c) (d:=setW (setT c e u) t.place (qaA x e)) hx rfl (fun k=>.inl k) id hT);refine⟨fun z hz=>?_,q2⟩;rcases zbf hz with hz | rfl
   ·exact q1 z hz
   ·exact hp
 have pre':∀(u:Token) k,preS e (setW (setT c e u) t.place (qaA x e)) k=preS e c k:=fun u k=>by
  have:=qgW (sE e) (qaA x e) (k:=k) i2;rw[show sE e (qaA x e)=sE e x from rfl,Int.sub_self,ite_self,Int.add_zero]at this;exact this
 rcases h1 with⟨hg,h2⟩ | ⟨hg,h0,h2⟩ | ⟨hg,h0,hb,h2⟩ | ⟨hg,h0,hb,h2⟩
 ·rw[h2];refine whole _ fun _=>.inl ⟨fun j z hj hz=>?_,?_⟩
  ·have:=lt_of hz;rw[show (setW (setT c e _) t.place (qaA x e)).workers.length=c.workers.length from zn]at this;change (c.workers.length:Int)-1<j at hj;omega
  ·rw[pre'];change preS e c ((c.workers.length:Int)-1+1).toNat+0=infl e c;rw[show ((c.workers.length:Int)-1+1).toNat=c.workers.length by omega,Int.add_zero];exact h.total
 ·rw[h2];have hG:=h.token t ht hg;refine whole _ fun _=>?_
  unfold Good at hG ⊢;rw[pre'];change ((∀(i:Nat) z,t.place-1<i→_→_)∧preS e c (t.place-1+1).toNat+(t.sum+sE e x)=infl e c)∨0<preS e c (t.place-1+1).toNat+(t.sum+sE e x)∨(∃(i:Nat) (z:Worker),(i:Int)≤t.place-1∧_)∨(t.black||bE e x)=true;rw[qOF i0,qkk i2]at hG;rw[qOG];rcases hG with⟨ga,gb⟩ | g | ⟨i,z,g1,g2,g3⟩ | g
  ·refine .inl ⟨fun j z hj hz=>?_,by omega⟩;change (c.workers.set t.place.toNat (qaA x e))[j]?=some z at hz;rcases qeC hz with⟨rfl,rfl⟩ | ⟨hne,hz⟩
   ·exact⟨hp,fun k=>by change (t.capped||cE e x)=true;rw[show cE e x=true from k,Bool.or_true]⟩
   ·obtain⟨k1,k2⟩:=ga j z (by omega) hz;exact⟨k1,fun k=>by change (t.capped||cE e x)=true;rw[k2 k,Bool.true_or]⟩
  ·exact .inr (.inl (by omega))
  ·by_cases hi:i=t.place.toNat
   ·subst hi;rw[i2]at g2;cases g2;exact .inr (.inr (.inr (by rw[g3,Bool.or_true])))
   ·exact .inr (.inr (.inl ⟨i,z,by omega,qid g2 hi,g3⟩))
  ·exact .inr (.inr (.inr (by rw[g,Bool.true_or])))
 ·rw[h2];obtain⟨⟨q1,q2⟩,_⟩:=h.over ht hg h0 hx hp hb;have hz:t.place=0:=by omega
  rw[hz]at i2 i1;have hpre:∀k,((((c.workers.set 0 (told x e (t.capped||x.caps.getD e.toNat false))).take k).map (sE e)).sum)=preS e c k:=fun k=>by
   have:=qgW (sE e) (told x e (t.capped||x.caps.getD e.toNat false)) (k:=k) i2;rw[show sE e (told x e (t.capped||x.caps.getD e.toNat false))=sE e x from rfl,Int.sub_self,ite_self,Int.add_zero]at this;exact this
  refine⟨?_,fun t' hT hg'=>?_,fun _=>⟨fun z hz=>?_,q2⟩⟩
  ·refine (hpre _).trans ?_;rw[show (setN (setW (setT c e ⟨false,t.place,t.sum,t.black,t.capped⟩) 0 (told x e (t.capped||x.caps.getD e.toNat false))) (c.news++qaR (c.workers.length-1) e (t.capped||x.caps.getD e.toNat false))).workers.length=c.workers.length from zn];exact h.total
  ·change (if 0≤e then (c.tokens.set e.toNat _)[e.toNat]? else none)=some t' at hT;rw[qig ht]at hT;cases hT;cases hg'
  ·rcases zbf hz with hz | rfl
   ·exact q1 z hz
   ·exact hp
 ·rw[h2];refine⟨h.total,fun t' hT hg'=>?_,h.tells⟩;change (if 0≤e then (c.tokens.set e.toNat _)[e.toNat]? else none)=some t' at hT;rw[qig ht]at hT;cases hT;cases hg'
theorem Inv.step{e:Int}{c d:Cluster}{p:Pick}(h:Inv e c)(he:0≤e∧e≤3)(hok:qai c=true)(st:Step c p d):Inv e d:=by
 cases st with
 | work x r q hk hx hs hq=>
  have wk:=qbu hok hx;obtain⟨_,_,hl⟩:=qif wk;refine h.worker hx rfl rfl (qdg hx rfl (fun k=>.inl k) id) (.inl ⟨rfl,id,rfl,fun k=>?_⟩);obtain⟨k1,k2,k3⟩:=qcq.1 k;rw[hq]at k2;have kr:=k2 r (zm ..);refine⟨qcq.2 ⟨k1,fun a ha=>k2 a (zg _ ha),fun a ha=>?_⟩,?_⟩
  ·rw[qOB _ _ _ a ha];exact kr
  ·have hr:=qnF (qbd.1 wk).1 (r:=r) (by rw[hq];exact zm ..);unfold cE;dsimp only;split
   ·exact qfL (qfM hr.1 he.1 kr)
   ·rfl
 | input x r t hk hx hs hq hi=>
  refine h.worker hx rfl rfl (qdg hx rfl (fun k=>.inl k) id) (.inl ⟨rfl,id,rfl,fun k=>⟨?_,rfl⟩⟩);obtain⟨k1,k2,k3⟩:=qcq.1 k;rw[hi]at k1;refine qcq.2 ⟨fun a ha=>k1 a (zg _ ha),fun a ha=>?_,fun a ha=>by cases ha⟩;obtain rfl:a=r:=by simpa using ha
  have:=k1 a (zm ..);omega
 | keep x r t hk hx hs ho=>
  refine h.worker hx rfl rfl (qdg hx rfl (fun k=>.inl k) id) (.inl ⟨rfl,id,rfl,fun k=>⟨?_,rfl⟩⟩);obtain⟨k1,k2,k3⟩:=qcq.1 k;rw[hs]at k3;refine qcq.2 ⟨k1,fun a ha=>?_,fun a ha=>k3 a (zg _ ha)⟩;rcases zaz.1 ha with ha | ha
  ·exact k2 a ha
  ·obtain rfl:a=r:=by simpa using ha
   exact k3 a (zm ..)
 | send x r t l hk hx hs ho hl hsend=>
  obtain⟨_,_,_,e1⟩:=qic hsend;have wk:=qbu hok hx;obtain⟨hl4,_,_⟩:=qif wk;have hr:=qnF (qbd.1 wk).2.1 (r:=r) (by rw[hs];exact zm ..);have hf:=qnE (e:=e) (m:=(qay l r).1) hl;have hs4:sE e (qbZ (qbf x t) r.stamp.epoch)=sE e x+(if r.stamp.epoch=e then 1 else 0):=qtx he hr hl4;rw[e1,qOC e _ _ r _ _ _ _ l rfl]at hf;refine h.worker hx (d:=setW (setL c _ (qay l r).1) p.a _) rfl rfl (qdg hx rfl (fun k=>.inl k) id) ?_;have hfl:infl e (setW (setL c (qav c.graph p.a (qax r.key c.graph.workers)) (qay l r).1) p.a (qbZ (qbf x t) r.stamp.epoch))=infl e c+(if r.stamp.epoch=e then 1 else 0):=by
   rw[e1];change infl e (setL c _ _)=_;omega
  by_cases hre:r.stamp.epoch=e
  ·rw[zp hre]at hs4 hfl;refine .inr (.inl ⟨?_,hs4,id,hfl⟩);rw[zQ];intro k;obtain⟨_,_,k3⟩:=qcq.1 k;exact k3 r (by rw[hs];exact zm ..) hre
  ·rw[zo hre]at hs4 hfl;refine .inl ⟨by omega,id,by omega,fun k=>⟨?_,rfl⟩⟩;obtain⟨k1,k2,k3⟩:=qcq.1 k;rw[hs]at k3;exact qcq.2 ⟨k1,k2,fun a ha=>k3 a (zg _ ha)⟩
 | take l x hk hab hl hx ht=>
  obtain⟨_,r,q,hq,e2,e1⟩:=qfI ht;have wk:=qbu hok hx;obtain⟨hl4,hb4,_⟩:=qif wk;have hr:=qdC (qj2 (qda hok hl) ht).2;rw[e2]at hr;have hf:=qnE (e:=e) (m:=(qaq l).1) hl;have hs4:sE e (received x r)=sE e x+(if r.stamp.epoch=e then -1 else 0):=qtx he hr hl4;rw[e1,qOD e r q l hq l.cap l.credits (l.back+1) l.sent (l.got+1)]at hf;rw[e2];refine h.worker hx (d:=setW (setL c _ (qaq l).1) p.b _) rfl rfl (qdg hx rfl (fun k=>.inl k) id) ?_;have hfl:infl e (setW (setL c (qav c.graph p.a p.b) (qaq l).1) p.b (received x r))+(if r.stamp.epoch=e then 1 else 0)=infl e c:=by
   rw[e1];change infl e (setL c _ _)+_=_;omega
  by_cases hre:r.stamp.epoch=e
  ·rw[zp hre]at hs4 hfl;refine .inr (.inr ⟨hfl.symm,by omega,?_⟩);unfold bE received;dsimp only;rw[hre];exact qkh (by omega)
  ·rw[zo hre]at hs4 hfl;refine .inl ⟨by omega,fun k=>?_,by omega,fun k=>⟨?_,rfl⟩⟩
   ·unfold bE received;dsimp only;rw[qfL (qfM hr.1 he.1 hre)];exact k
   ·obtain⟨k1,k2,k3⟩:=qcq.1 k;refine qcq.2 ⟨k1,fun a ha=>?_,k3⟩;rcases zaz.1 ha with ha | ha
    ·exact k2 a ha
    ·obtain rfl:a=r:=by simpa using ha
     exact hre
 | credit l hk hab hl hc=>
  rcases qfJ l with⟨k,_⟩ | ⟨_,_,_,e1⟩
  ·rw[hc]at k;cases k
  have hf:=qnE (e:=e) (m:=(qaQ l).1) hl;have h2:qbp e (qaQ l).1=qbp e l:=by rw[e1];rfl
  have h3:infl e (setL c (qav c.graph p.a p.b) (qaQ l).1)=infl e c:=by omega
  refine⟨by rw[h3];exact h.total,fun t hT hg=>?_,fun hT=>⟨(h.tells hT).1,by rw[h3];exact (h.tells hT).2⟩⟩;have hG:=h.token t hT hg;unfold Good at hG ⊢;rw[h3];exact hG
 | token t x x0 hk hin h0 hd ht hx hdid=>
  simp only[inR,zi]at hin;by_cases hpe:p.a=e
  ·subst hpe;exact h.tokenOwn hok ht hx
  ·exact h.tokenOther he.1 hin.1 hpe hx
 | hear k n x hk hn hd hx=>
  obtain⟨k1,k2,k3⟩:=qkj (x:=x) (n:=n) (e:=e);refine h.worker hx rfl rfl (qdg hx rfl (fun q=>?_) (fun q=>?_)) (.inl ⟨k1,fun q=>k2.trans q,rfl,fun q=>⟨qOE.trans q,k3⟩⟩)
  ·rw[qki,zbi]at q;rcases q with q | q
   ·exact .inl q
   ·exact .inr (zcj.2 ⟨n,qag hn,q⟩)
  ·unfold toldN at q ⊢;rw[zcj]at q ⊢;obtain⟨m,hm,q⟩:=q;refine⟨m,?_,q⟩;change m∈cutAt c.news k at hm;unfold cutAt at hm;rcases zaz.1 hm with hm | hm
   ·exact zbh hm
   ·exact zbn hm
