/- The functions sz.. (printed by gentypes.py) -/
import Derived.Test.YtdanpadojemjeaaGreatT1
import Derived.Test.YtdanpadojemjeaaGreatGA
import Derived.Test.YtdanpadojemjeaaGreatGC
set_option linter.unusedVariables false
set_option linter.unusedSimpArgs false
namespace Go.Proofs.YtdanpadojemjeaaGreat
open Go.Sx Go.RowKit
theorem qnf(xs:List Int)(n:Int)(h0:0≤n)(h1:n≤8388608)(hl:(xs.length:Int)≤9223372036854775807):Rt 182 [.one (.sl 1 (xs.map eI)),.one (I n)] [.one (I (qaR n xs.length))]:=by
 have e:(xs.map eI).length=xs.length:=zb ..
 rw[←e]
 rw[←e]at hl
 unfold qaR
 split
 ·exact qr8 ⟨⟨by omega,by omega⟩,by simp only[zf];omega,trivial⟩
 ·exact qr7 ⟨⟨by omega,by omega⟩,by simp only[zi];omega,trivial⟩
theorem qng(xs:List Bool)(n:Int)(h0:0≤n)(h1:n≤8388608)(hl:(xs.length:Int)≤9223372036854775807):Rt 183 [.one (.sl 1 (xs.map eB)),.one (I n)] [.one (I (qaR n xs.length))]:=by
 have e:(xs.map eB).length=xs.length:=zb ..
 rw[←e]
 rw[←e]at hl
 unfold qaR
 split
 ·exact qsa ⟨⟨by omega,by omega⟩,by simp only[zf];omega,trivial⟩
 ·exact qr9 ⟨⟨by omega,by omega⟩,by simp only[zi];omega,trivial⟩
theorem qhQ(xs:List Record)(n:Int)(h0:0≤n)(h1:n≤8388608)(hl:(xs.length:Int)≤9223372036854775807):Rt 39 [.one (.sl 5 (xs.map Record.e)),.one (I n)] [.one (I (qaR n xs.length))]:=by
 have e:(xs.map Record.e).length=xs.length:=zb ..
 rw[←e]
 rw[←e]at hl
 unfold qaR
 split
 ·exact qr4 ⟨⟨by omega,by omega⟩,by simp only[zf];omega,trivial⟩
 ·exact qr3 ⟨⟨by omega,by omega⟩,by simp only[zi];omega,trivial⟩
theorem qtA(xs:List Cell)(n:Int)(h0:0≤n)(h1:n≤8388608)(hl:(xs.length:Int)≤9223372036854775807):Rt 181 [.one (.sl 4 (xs.map Cell.e)),.one (I n)] [.one (I (qaR n xs.length))]:=by
 have e:(xs.map Cell.e).length=xs.length:=zb ..
 rw[←e]
 rw[←e]at hl
 unfold qaR
 split
 ·exact qr6 ⟨⟨by omega,by omega⟩,by simp only[zf];omega,trivial⟩
 ·exact qr5 ⟨⟨by omega,by omega⟩,by simp only[zi];omega,trivial⟩
theorem qtB(xs:List Done)(n:Int)(h0:0≤n)(h1:n≤8388608)(hl:(xs.length:Int)≤9223372036854775807):Rt 184 [.one (.sl 2 (xs.map Done.e)),.one (I n)] [.one (I (qaR n xs.length))]:=by
 have e:(xs.map Done.e).length=xs.length:=zb ..
 rw[←e]
 rw[←e]at hl
 unfold qaR
 split
 ·exact qsc ⟨⟨by omega,by omega⟩,by simp only[zf];omega,trivial⟩
 ·exact qsb ⟨⟨by omega,by omega⟩,by simp only[zi];omega,trivial⟩
theorem qtC(xs:List Token)(n:Int)(h0:0≤n)(h1:n≤8388608)(hl:(xs.length:Int)≤9223372036854775807):Rt 53 [.one (.sl 5 (xs.map Token.e)),.one (I n)] [.one (I (qaR n xs.length))]:=by
 have e:(xs.map Token.e).length=xs.length:=zb ..
 rw[←e]
 rw[←e]at hl
 unfold qaR
 split
 ·exact qse ⟨⟨by omega,by omega⟩,by simp only[zf];omega,trivial⟩
 ·exact qsd ⟨⟨by omega,by omega⟩,by simp only[zi];omega,trivial⟩
theorem qtD(xs:List News)(n:Int)(h0:0≤n)(h1:n≤8388608)(hl:(xs.length:Int)≤9223372036854775807):Rt 54 [.one (.sl 3 (xs.map News.e)),.one (I n)] [.one (I (qaR n xs.length))]:=by
 have e:(xs.map News.e).length=xs.length:=zb ..
 rw[←e]
 rw[←e]at hl
 unfold qaR
 split
 ·exact qsg ⟨⟨by omega,by omega⟩,by simp only[zf];omega,trivial⟩
 ·exact qsf ⟨⟨by omega,by omega⟩,by simp only[zi];omega,trivial⟩
theorem qnh(x:Node)(n:Int)(h0:0≤n)(h1:n≤8388608)(hw:x.wf):Rt 162 [.agg x.e,.one (I n)] [.one (I (qaR n x.sz))]:=by
 have r0:=qnf x.outs (n) (by omega) (by omega) hw.outs_ok.1
 by_cases c0:((x.outs.length:Nat):Int)≤n
 case neg=>
  rw[qaD (by omega)]at r0
  rw[qaD (by simp only[Node.sz];omega)]
  exact qsh ⟨r0,rfl,trivial⟩
 rw[qa3 c0]at r0
 have e:qaR n x.sz=n-((x.outs.length:Nat):Int):=by
  rw[qa3 (by simp only[Node.sz];omega)]
  simp only[Node.sz]<;>omega
 rw[e]
 exact qsi ⟨r0,by simp only[zf];omega,trivial⟩
theorem qtE(xs:List Node)(n:Int)(h0:0≤n)(h1:n≤8388608)(hl:(xs.length:Int)≤9223372036854775807)(hw:∀x∈xs,x.wf):Rt 97 [.one (.sl 4 (xs.map Node.e)),.one (I n)] [.one (I (qaR n (szS Node.sz xs)))]:=by
 have e:(xs.map Node.e).length=xs.length:=zb ..
 by_cases c:(xs.length:Int)≤n
 case neg=>
  rw[qaD (by unfold szS;omega)]
  exact qsj ⟨⟨by omega,by omega⟩,by simp only[zi];omega,trivial⟩
 have step:∀i,i<xs.length→(sumTo Node.sz xs i:Int)≤n-xs.length→(sumTo Node.sz xs (i+1):Int)≤n-xs.length→
   Tr Tryz.prog (qaa Tryz.f97 0) (qc3 (xs.map Node.e) i (n-↑(xs.map Node.e).length-sumTo Node.sz xs i)) .normal (qc3 (xs.map Node.e) (i+1:Nat) (n-↑(xs.map Node.e).length-sumTo Node.sz xs (i+1))):=by
  intro i hi h2 h3
  obtain⟨a,ha⟩:=qah hi
  have hs:=qem (sz:=Node.sz) ha
  have r:=qnh a (n-↑(xs.map Node.e).length-sumTo Node.sz xs i) (by omega) (by omega) (hw a (qaq ha))
  rw[qa3 (by omega)]at r
  have e2:n-↑(xs.map Node.e).length-(sumTo Node.sz xs i:Int)-(a.sz:Int)=n-↑(xs.map Node.e).length-(sumTo Node.sz xs (i+1):Int):=by omega
  rw[e2]at r
  exact qsl ⟨lt1 hi,lt0,lt2 hi,qac Node.e ha,r,by simp only[zf];omega,upM hi hl,trivial⟩
 rcases qjP Node.sz xs (n-xs.length) (by omega) with h | ⟨i,a,ha,h2,h3,h4⟩
 ·have hle:=fun i=>qfH (sz:=Node.sz) (xs:=xs) (i:=i)
  have e1:qaR n (szS Node.sz xs)=n-↑(xs.map Node.e).length-sumTo Node.sz xs xs.length:=by
   rw[qa3 (by unfold szS;omega),qhM];unfold szS;omega
  rw[e1]
  have l:=qat (qaf 0) xs.length (fun i=>qc3 (xs.map Node.e) i (n-↑(xs.map Node.e).length-sumTo Node.sz xs i)) (fun i hi=>step i hi (by have:=hle i;omega) (by have:=hle (i+1);omega)) (qsm ⟨ge1,trivial⟩)
  simp only[qdD,Int.sub_zero,zck]at l
  exact qso ⟨⟨by omega,by omega⟩,by simp only[zf];omega,l,trivial⟩
 ·have hi:=lt_of ha
  have hle:=fun i=>qfH (sz:=Node.sz) (xs:=xs) (i:=i)
  have hs:=qem (sz:=Node.sz) ha
  have hb:=hle (i+1)
  rw[qaD (by unfold szS;omega)]
  have r:=qnh a (n-↑(xs.map Node.e).length-sumTo Node.sz xs i) (by omega) (by omega) (hw a (qaq ha))
  rw[qaD (by omega)]at r
  have l:=qat qav i (fun i=>qc3 (xs.map Node.e) i (n-↑(xs.map Node.e).length-sumTo Node.sz xs i)) (fun j hj=>step j (by omega) (h4 j (by omega)) (h4 (j+1) (by omega))) (qsk ⟨lt1 hi,lt0,lt2 hi,qac Node.e ha,r,rfl,trivial⟩)
  simp only[qdD,Int.sub_zero,zck]at l
  exact qsn ⟨⟨by omega,by omega⟩,by simp only[zf];omega,l,trivial⟩
theorem qni(x:Link)(n:Int)(h0:0≤n)(h1:n≤8388608)(hw:x.wf):Rt 111 [.agg x.e,.one (I n)] [.one (I (qaR n x.sz))]:=by
 have r0:=qhQ x.queue (n) (by omega) (by omega) hw.queue_ok.1
 by_cases c0:((x.queue.length:Nat):Int)≤n
 case neg=>
  rw[qaD (by omega)]at r0
  rw[qaD (by simp only[Link.sz];omega)]
  exact qsp ⟨r0,rfl,trivial⟩
 rw[qa3 c0]at r0
 have e:qaR n x.sz=n-((x.queue.length:Nat):Int):=by
  rw[qa3 (by simp only[Link.sz];omega)]
  simp only[Link.sz]<;>omega
 rw[e]
 exact qsq ⟨r0,by simp only[zf];omega,trivial⟩
theorem qtF(xs:List Link)(n:Int)(h0:0≤n)(h1:n≤8388608)(hl:(xs.length:Int)≤9223372036854775807)(hw:∀x∈xs,x.wf):Rt 52 [.one (.sl 6 (xs.map Link.e)),.one (I n)] [.one (I (qaR n (szS Link.sz xs)))]:=by
 have e:(xs.map Link.e).length=xs.length:=zb ..
 by_cases c:(xs.length:Int)≤n
 case neg=>
  rw[qaD (by unfold szS;omega)]
  exact qsr ⟨⟨by omega,by omega⟩,by simp only[zi];omega,trivial⟩
 have step:∀i,i<xs.length→(sumTo Link.sz xs i:Int)≤n-xs.length→(sumTo Link.sz xs (i+1):Int)≤n-xs.length→
   Tr Tryz.prog (qaa Tryz.f52 0) (qc4 (xs.map Link.e) i (n-↑(xs.map Link.e).length-sumTo Link.sz xs i)) .normal (qc4 (xs.map Link.e) (i+1:Nat) (n-↑(xs.map Link.e).length-sumTo Link.sz xs (i+1))):=by
  intro i hi h2 h3
  obtain⟨a,ha⟩:=qah hi
  have hs:=qem (sz:=Link.sz) ha
  have r:=qni a (n-↑(xs.map Link.e).length-sumTo Link.sz xs i) (by omega) (by omega) (hw a (qaq ha))
  rw[qa3 (by omega)]at r
  have e2:n-↑(xs.map Link.e).length-(sumTo Link.sz xs i:Int)-(a.sz:Int)=n-↑(xs.map Link.e).length-(sumTo Link.sz xs (i+1):Int):=by omega
  rw[e2]at r
  exact qst ⟨lt1 hi,lt0,lt2 hi,qac Link.e ha,r,by simp only[zf];omega,upM hi hl,trivial⟩
 rcases qjP Link.sz xs (n-xs.length) (by omega) with h | ⟨i,a,ha,h2,h3,h4⟩
 ·have hle:=fun i=>qfH (sz:=Link.sz) (xs:=xs) (i:=i)
  have e1:qaR n (szS Link.sz xs)=n-↑(xs.map Link.e).length-sumTo Link.sz xs xs.length:=by
   rw[qa3 (by unfold szS;omega),qhM];unfold szS;omega
  rw[e1]
  have l:=qat (qaf 0) xs.length (fun i=>qc4 (xs.map Link.e) i (n-↑(xs.map Link.e).length-sumTo Link.sz xs i)) (fun i hi=>step i hi (by have:=hle i;omega) (by have:=hle (i+1);omega)) (qsu ⟨ge1,trivial⟩)
  simp only[qdD,Int.sub_zero,zck]at l
  exact qsw ⟨⟨by omega,by omega⟩,by simp only[zf];omega,l,trivial⟩
 ·have hi:=lt_of ha
  have hle:=fun i=>qfH (sz:=Link.sz) (xs:=xs) (i:=i)
  have hs:=qem (sz:=Link.sz) ha
  have hb:=hle (i+1)
  rw[qaD (by unfold szS;omega)]
  have r:=qni a (n-↑(xs.map Link.e).length-sumTo Link.sz xs i) (by omega) (by omega) (hw a (qaq ha))
  rw[qaD (by omega)]at r
  have l:=qat qav i (fun i=>qc4 (xs.map Link.e) i (n-↑(xs.map Link.e).length-sumTo Link.sz xs i)) (fun j hj=>step j (by omega) (h4 j (by omega)) (h4 (j+1) (by omega))) (qss ⟨lt1 hi,lt0,lt2 hi,qac Link.e ha,r,rfl,trivial⟩)
  simp only[qdD,Int.sub_zero,zck]at l
  exact qsv ⟨⟨by omega,by omega⟩,by simp only[zf];omega,l,trivial⟩
theorem qtG(x:Graph)(n:Int)(h0:0≤n)(h1:n≤8388608)(hw:x.wf):Rt 38 [.agg x.e,.one (I n)] [.one (I (qaR n x.sz))]:=by
 have r0:=qtE x.nodes (n) (by omega) (by omega) hw.nodes_ok.1 hw.nodes_ok.2
 by_cases c0:((szS Node.sz x.nodes:Nat):Int)≤n
 case neg=>
  rw[qaD (by omega)]at r0
  rw[qaD (by simp only[Graph.sz];omega)]
  exact qsx ⟨r0,rfl,trivial⟩
 rw[qa3 c0]at r0
 have e:qaR n x.sz=n-((szS Node.sz x.nodes:Nat):Int):=by
  rw[qa3 (by simp only[Graph.sz];omega)]
  simp only[Graph.sz]<;>omega
 rw[e]
 exact qsy ⟨r0,by simp only[zf];omega,trivial⟩
theorem qnj(x:Worker)(n:Int)(h0:0≤n)(h1:n≤8388608)(hw:x.wf):Rt 110 [.agg x.e,.one (I n)] [.one (I (qaR n x.sz))]:=by
 have r0:=qhQ x.queue (n) (by omega) (by omega) hw.queue_ok.1
 by_cases c0:((x.queue.length:Nat):Int)≤n
 case neg=>
  rw[qaD (by omega)]at r0
  rw[qaD (by simp only[Worker.sz];omega)]
  exact qsz ⟨r0,rfl,trivial⟩
 rw[qa3 c0]at r0
 have r1:=qhQ x.staged (n-((x.queue.length:Nat):Int)) (by omega) (by omega) hw.staged_ok.1
 by_cases c1:((x.staged.length:Nat):Int)≤n-((x.queue.length:Nat):Int)
 case neg=>
  rw[qaD (by omega)]at r1
  rw[qaD (by simp only[Worker.sz];omega)]
  exact qsA ⟨r0,by simp only[zf];omega,r1,rfl,trivial⟩
 rw[qa3 c1]at r1
 have r2:=qhQ x.inputs (n-((x.queue.length:Nat):Int)-((x.staged.length:Nat):Int)) (by omega) (by omega) hw.inputs_ok.1
 by_cases c2:((x.inputs.length:Nat):Int)≤n-((x.queue.length:Nat):Int)-((x.staged.length:Nat):Int)
 case neg=>
  rw[qaD (by omega)]at r2
  rw[qaD (by simp only[Worker.sz];omega)]
  exact qsB ⟨r0,by simp only[zf];omega,r1,by simp only[zf];omega,r2,rfl,trivial⟩
 rw[qa3 c2]at r2
 have r3:=qtA x.cells (n-((x.queue.length:Nat):Int)-((x.staged.length:Nat):Int)-((x.inputs.length:Nat):Int)) (by omega) (by omega) hw.cells_ok.1
 by_cases c3:((x.cells.length:Nat):Int)≤n-((x.queue.length:Nat):Int)-((x.staged.length:Nat):Int)-((x.inputs.length:Nat):Int)
 case neg=>
  rw[qaD (by omega)]at r3
  rw[qaD (by simp only[Worker.sz];omega)]
  exact qsC ⟨r0,by simp only[zf];omega,r1,by simp only[zf];omega,r2,by simp only[zf];omega,r3,rfl,trivial⟩
 rw[qa3 c3]at r3
 have r4:=qnf x.sums (n-((x.queue.length:Nat):Int)-((x.staged.length:Nat):Int)-((x.inputs.length:Nat):Int)-((x.cells.length:Nat):Int)) (by omega) (by omega) hw.sums_ok.1
 by_cases c4:((x.sums.length:Nat):Int)≤n-((x.queue.length:Nat):Int)-((x.staged.length:Nat):Int)-((x.inputs.length:Nat):Int)-((x.cells.length:Nat):Int)
 case neg=>
  rw[qaD (by omega)]at r4
  rw[qaD (by simp only[Worker.sz];omega)]
  exact qsD ⟨r0,by simp only[zf];omega,r1,by simp only[zf];omega,r2,by simp only[zf];omega,r3,by simp only[zf];omega,r4,rfl,trivial⟩
 rw[qa3 c4]at r4
 have r5:=qng x.black (n-((x.queue.length:Nat):Int)-((x.staged.length:Nat):Int)-((x.inputs.length:Nat):Int)-((x.cells.length:Nat):Int)-((x.sums.length:Nat):Int)) (by omega) (by omega) hw.black_ok
 by_cases c5:((x.black.length:Nat):Int)≤n-((x.queue.length:Nat):Int)-((x.staged.length:Nat):Int)-((x.inputs.length:Nat):Int)-((x.cells.length:Nat):Int)-((x.sums.length:Nat):Int)
 case neg=>
  rw[qaD (by omega)]at r5
  rw[qaD (by simp only[Worker.sz];omega)]
  exact qsE ⟨r0,by simp only[zf];omega,r1,by simp only[zf];omega,r2,by simp only[zf];omega,r3,by simp only[zf];omega,r4,by simp only[zf];omega,r5,rfl,trivial⟩
 rw[qa3 c5]at r5
 have r6:=qng x.caps (n-((x.queue.length:Nat):Int)-((x.staged.length:Nat):Int)-((x.inputs.length:Nat):Int)-((x.cells.length:Nat):Int)-((x.sums.length:Nat):Int)-((x.black.length:Nat):Int)) (by omega) (by omega) hw.caps_ok
 by_cases c6:((x.caps.length:Nat):Int)≤n-((x.queue.length:Nat):Int)-((x.staged.length:Nat):Int)-((x.inputs.length:Nat):Int)-((x.cells.length:Nat):Int)-((x.sums.length:Nat):Int)-((x.black.length:Nat):Int)
 case neg=>
  rw[qaD (by omega)]at r6
  rw[qaD (by simp only[Worker.sz];omega)]
  exact qsF ⟨r0,by simp only[zf];omega,r1,by simp only[zf];omega,r2,by simp only[zf];omega,r3,by simp only[zf];omega,r4,by simp only[zf];omega,r5,by simp only[zf];omega,r6,rfl,trivial⟩
 rw[qa3 c6]at r6
 have r7:=qtB x.dones (n-((x.queue.length:Nat):Int)-((x.staged.length:Nat):Int)-((x.inputs.length:Nat):Int)-((x.cells.length:Nat):Int)-((x.sums.length:Nat):Int)-((x.black.length:Nat):Int)-((x.caps.length:Nat):Int)) (by omega) (by omega) hw.dones_ok.1
 by_cases c7:((x.dones.length:Nat):Int)≤n-((x.queue.length:Nat):Int)-((x.staged.length:Nat):Int)-((x.inputs.length:Nat):Int)-((x.cells.length:Nat):Int)-((x.sums.length:Nat):Int)-((x.black.length:Nat):Int)-((x.caps.length:Nat):Int)
 case neg=>
  rw[qaD (by omega)]at r7
  rw[qaD (by simp only[Worker.sz];omega)]
  exact qsG ⟨r0,by simp only[zf];omega,r1,by simp only[zf];omega,r2,by simp only[zf];omega,r3,by simp only[zf];omega,r4,by simp only[zf];omega,r5,by simp only[zf];omega,r6,by simp only[zf];omega,r7,rfl,trivial⟩
 rw[qa3 c7]at r7
 have e:qaR n x.sz=n-((x.queue.length:Nat):Int)-((x.staged.length:Nat):Int)-((x.inputs.length:Nat):Int)-((x.cells.length:Nat):Int)-((x.sums.length:Nat):Int)-((x.black.length:Nat):Int)-((x.caps.length:Nat):Int)-((x.dones.length:Nat):Int):=by
  rw[qa3 (by simp only[Worker.sz];omega)]
  simp only[Worker.sz]<;>omega
 rw[e]
 exact qsH ⟨r0,by simp only[zf];omega,r1,by simp only[zf];omega,r2,by simp only[zf];omega,r3,by simp only[zf];omega,r4,by simp only[zf];omega,r5,by simp only[zf];omega,r6,by simp only[zf];omega,r7,by simp only[zf];omega,trivial⟩
theorem qtH(xs:List Worker)(n:Int)(h0:0≤n)(h1:n≤8388608)(hl:(xs.length:Int)≤9223372036854775807)(hw:∀x∈xs,x.wf):Rt 51 [.one (.sl 8 (xs.map Worker.e)),.one (I n)] [.one (I (qaR n (szS Worker.sz xs)))]:=by
 have e:(xs.map Worker.e).length=xs.length:=zb ..
 by_cases c:(xs.length:Int)≤n
 case neg=>
  rw[qaD (by unfold szS;omega)]
  exact qsI ⟨⟨by omega,by omega⟩,by simp only[zi];omega,trivial⟩
 have step:∀i,i<xs.length→(sumTo Worker.sz xs i:Int)≤n-xs.length→(sumTo Worker.sz xs (i+1):Int)≤n-xs.length→
   Tr Tryz.prog (qaa Tryz.f51 0) (qc5 (xs.map Worker.e) i (n-↑(xs.map Worker.e).length-sumTo Worker.sz xs i)) .normal (qc5 (xs.map Worker.e) (i+1:Nat) (n-↑(xs.map Worker.e).length-sumTo Worker.sz xs (i+1))):=by
  intro i hi h2 h3
  obtain⟨a,ha⟩:=qah hi
  have hs:=qem (sz:=Worker.sz) ha
  have r:=qnj a (n-↑(xs.map Worker.e).length-sumTo Worker.sz xs i) (by omega) (by omega) (hw a (qaq ha))
  rw[qa3 (by omega)]at r
  have e2:n-↑(xs.map Worker.e).length-(sumTo Worker.sz xs i:Int)-(a.sz:Int)=n-↑(xs.map Worker.e).length-(sumTo Worker.sz xs (i+1):Int):=by omega
  rw[e2]at r
  exact qsK ⟨lt1 hi,lt0,lt2 hi,qac Worker.e ha,r,by simp only[zf];omega,upM hi hl,trivial⟩
 rcases qjP Worker.sz xs (n-xs.length) (by omega) with h | ⟨i,a,ha,h2,h3,h4⟩
 ·have hle:=fun i=>qfH (sz:=Worker.sz) (xs:=xs) (i:=i)
  have e1:qaR n (szS Worker.sz xs)=n-↑(xs.map Worker.e).length-sumTo Worker.sz xs xs.length:=by
   rw[qa3 (by unfold szS;omega),qhM];unfold szS;omega
  rw[e1]
  have l:=qat (qaf 0) xs.length (fun i=>qc5 (xs.map Worker.e) i (n-↑(xs.map Worker.e).length-sumTo Worker.sz xs i)) (fun i hi=>step i hi (by have:=hle i;omega) (by have:=hle (i+1);omega)) (qsL ⟨ge1,trivial⟩)
  simp only[qdD,Int.sub_zero,zck]at l
  exact qsN ⟨⟨by omega,by omega⟩,by simp only[zf];omega,l,trivial⟩
 ·have hi:=lt_of ha
  have hle:=fun i=>qfH (sz:=Worker.sz) (xs:=xs) (i:=i)
  have hs:=qem (sz:=Worker.sz) ha
  have hb:=hle (i+1)
  rw[qaD (by unfold szS;omega)]
  have r:=qnj a (n-↑(xs.map Worker.e).length-sumTo Worker.sz xs i) (by omega) (by omega) (hw a (qaq ha))
  rw[qaD (by omega)]at r
  have l:=qat qav i (fun i=>qc5 (xs.map Worker.e) i (n-↑(xs.map Worker.e).length-sumTo Worker.sz xs i)) (fun j hj=>step j (by omega) (h4 j (by omega)) (h4 (j+1) (by omega))) (qsJ ⟨lt1 hi,lt0,lt2 hi,qac Worker.e ha,r,rfl,trivial⟩)
  simp only[qdD,Int.sub_zero,zck]at l
  exact qsM ⟨⟨by omega,by omega⟩,by simp only[zf];omega,l,trivial⟩
theorem qtI(x:Cluster)(n:Int)(h0:0≤n)(h1:n≤8388608)(hw:x.wf):Rt 11 [.agg x.e,.one (I n)] [.one (I (qaR n x.sz))]:=by
 have r0:=qtG x.graph (n) (by omega) (by omega) hw.graph_ok
 by_cases c0:((x.graph.sz:Nat):Int)≤n
 case neg=>
  rw[qaD (by omega)]at r0
  rw[qaD (by simp only[Cluster.sz];omega)]
  exact qsO ⟨r0,rfl,trivial⟩
 rw[qa3 c0]at r0
 have r1:=qtH x.workers (n-((x.graph.sz:Nat):Int)) (by omega) (by omega) hw.workers_ok.1 hw.workers_ok.2
 by_cases c1:((szS Worker.sz x.workers:Nat):Int)≤n-((x.graph.sz:Nat):Int)
 case neg=>
  rw[qaD (by omega)]at r1
  rw[qaD (by simp only[Cluster.sz];omega)]
  exact qsP ⟨r0,by simp only[zf];omega,r1,rfl,trivial⟩
 rw[qa3 c1]at r1
 have r2:=qtF x.links (n-((x.graph.sz:Nat):Int)-((szS Worker.sz x.workers:Nat):Int)) (by omega) (by omega) hw.links_ok.1 hw.links_ok.2
 by_cases c2:((szS Link.sz x.links:Nat):Int)≤n-((x.graph.sz:Nat):Int)-((szS Worker.sz x.workers:Nat):Int)
 case neg=>
  rw[qaD (by omega)]at r2
  rw[qaD (by simp only[Cluster.sz];omega)]
  exact qsQ ⟨r0,by simp only[zf];omega,r1,by simp only[zf];omega,r2,rfl,trivial⟩
 rw[qa3 c2]at r2
 have r3:=qtC x.tokens (n-((x.graph.sz:Nat):Int)-((szS Worker.sz x.workers:Nat):Int)-((szS Link.sz x.links:Nat):Int)) (by omega) (by omega) hw.tokens_ok.1
 by_cases c3:((x.tokens.length:Nat):Int)≤n-((x.graph.sz:Nat):Int)-((szS Worker.sz x.workers:Nat):Int)-((szS Link.sz x.links:Nat):Int)
 case neg=>
  rw[qaD (by omega)]at r3
  rw[qaD (by simp only[Cluster.sz];omega)]
  exact qsR ⟨r0,by simp only[zf];omega,r1,by simp only[zf];omega,r2,by simp only[zf];omega,r3,rfl,trivial⟩
 rw[qa3 c3]at r3
 have r4:=qtD x.news (n-((x.graph.sz:Nat):Int)-((szS Worker.sz x.workers:Nat):Int)-((szS Link.sz x.links:Nat):Int)-((x.tokens.length:Nat):Int)) (by omega) (by omega) hw.news_ok.1
 by_cases c4:((x.news.length:Nat):Int)≤n-((x.graph.sz:Nat):Int)-((szS Worker.sz x.workers:Nat):Int)-((szS Link.sz x.links:Nat):Int)-((x.tokens.length:Nat):Int)
 case neg=>
  rw[qaD (by omega)]at r4
  rw[qaD (by simp only[Cluster.sz];omega)]
  exact qsS ⟨r0,by simp only[zf];omega,r1,by simp only[zf];omega,r2,by simp only[zf];omega,r3,by simp only[zf];omega,r4,rfl,trivial⟩
 rw[qa3 c4]at r4
 have e:qaR n x.sz=n-((x.graph.sz:Nat):Int)-((szS Worker.sz x.workers:Nat):Int)-((szS Link.sz x.links:Nat):Int)-((x.tokens.length:Nat):Int)-((x.news.length:Nat):Int):=by
  rw[qa3 (by simp only[Cluster.sz];omega)]
  simp only[Cluster.sz]<;>omega
 rw[e]
 exact qsT ⟨r0,by simp only[zf];omega,r1,by simp only[zf];omega,r2,by simp only[zf];omega,r3,by simp only[zf];omega,r4,by simp only[zf];omega,trivial⟩
end Go.Proofs.YtdanpadojemjeaaGreat
namespace Go.Proofs.YtdanpadojemjeaaGreat
open Go.Sx Go.RowKit
theorem toL{α:Type}{P:Program}{c:Code}{e:α→List D}{z:List D}{xs:List α}{st:Nat→List (List D)→St}{X:St}
  (hs:∀i a,xs[i]?=some a→i<xs.length→Tr P c (st i (qb0 e z xs i)) .normal (st (i+1) ((qb0 e z xs i).set ((i:Nat):Int).toNat (e a))))
  (hx:Tr P c (st xs.length (xs.map e)) (.exit 0) X):qam P c (st 0 (List.replicate (xs.map e).length z)) (.exit 0) X:=by
 have l:=qat (P:=P) (c:=c) (qaf 0) xs.length (fun i=>st i (qb0 e z xs i)) (fun i hi=>by
  obtain⟨a,ha⟩:=qah hi
  have t:=hs i a ha hi
  rw[qrv ha]at t
  exact t) (stE:=X) (by rw[qru];exact hx)
 rw[qrt]at l
 exact l
theorem qnk(xs:List Int)(hx0:xs.length≤8388608):Rt 191 [.one (.sl 1 (xs.map eI))] [.one (.sl 1 (xs.map eI))]:=by
 have hx:xs.length≤8388608:=hx0
 exact qs5 ⟨by omega,by omega,by simp only[zb];omega,by simp only[zb];omega,toL (e:=eI) (z:=[I 0]) (st:=fun i l=>qgy (xs.map eI) i l) (fun i a ha hi=>
  qs3 _ _ _ _ _ ⟨lt1 hi,lt0,lt2 hi,qac eI ha,lt0,qcZ hi,qc0 hi,up1 hi hx,trivial⟩) (qs4 ⟨ge1,trivial⟩),trivial⟩
theorem qnl(xs:List Bool)(hx0:xs.length≤8388608):Rt 192 [.one (.sl 1 (xs.map eB))] [.one (.sl 1 (xs.map eB))]:=by
 have hx:xs.length≤8388608:=hx0
 exact qs8 ⟨by omega,by omega,by simp only[zb];omega,by simp only[zb];omega,toL (e:=eB) (z:=[B false]) (st:=fun i l=>qgz (xs.map eB) i l) (fun i a ha hi=>
  qs6 _ _ _ _ _ ⟨lt1 hi,lt0,lt2 hi,qac eB ha,lt0,qcZ hi,qc0 hi,up1 hi hx,trivial⟩) (qs7 ⟨ge1,trivial⟩),trivial⟩
theorem qtJ(x:Stamp):Rt 172 [.agg x.e] [.agg x.e]:=qsU trivial
theorem qtK(x:Record):Rt 102 [.agg x.e] [.agg x.e]:=qsV ⟨qtJ x.stamp,trivial⟩
theorem qhR(xs:List Record)(hx0:xs.length≤8388608):Rt 42 [.one (.sl 5 (xs.map Record.e))] [.one (.sl 5 (xs.map Record.e))]:=by
 have hx:xs.length≤8388608:=hx0
 exact qsY ⟨by omega,by omega,by simp only[zb];omega,by simp only[zb];omega,toL (e:=Record.e) (z:=[I 0,I 0,I 0,I 0,I 0]) (st:=fun i l=>qgw (xs.map Record.e) i l) (fun i a ha hi=>
  qsW _ _ _ _ _ _ _ _ _ _ _ _ _ _ _ _ _ _ ⟨lt1 hi,lt0,lt2 hi,qac Record.e ha,qtK a,lt0,qcZ hi,qc0 hi,up1 hi hx,trivial⟩) (qsX ⟨ge1,trivial⟩),trivial⟩
theorem qtL(x:Cell):Rt 228 [.agg x.e] [.agg x.e]:=qsZ trivial
theorem qtM(xs:List Cell)(hx0:xs.length≤8388608):Rt 190 [.one (.sl 4 (xs.map Cell.e))] [.one (.sl 4 (xs.map Cell.e))]:=by
 have hx:xs.length≤8388608:=hx0
 exact qs2 ⟨by omega,by omega,by simp only[zb];omega,by simp only[zb];omega,toL (e:=Cell.e) (z:=[I 0,I 0,I 0,I 0]) (st:=fun i l=>qgx (xs.map Cell.e) i l) (fun i a ha hi=>
  qs0 _ _ _ _ _ _ _ _ _ _ _ _ _ _ _ ⟨lt1 hi,lt0,lt2 hi,qac Cell.e ha,qtL a,lt0,qcZ hi,qc0 hi,up1 hi hx,trivial⟩) (qs1 ⟨ge1,trivial⟩),trivial⟩
theorem qtN(x:Done):Rt 229 [.agg x.e] [.agg x.e]:=qs9 trivial
theorem qtO(xs:List Done)(hx0:xs.length≤8388608):Rt 193 [.one (.sl 2 (xs.map Done.e))] [.one (.sl 2 (xs.map Done.e))]:=by
 have hx:xs.length≤8388608:=hx0
 exact qtc ⟨by omega,by omega,by simp only[zb];omega,by simp only[zb];omega,toL (e:=Done.e) (z:=[I 0,B false]) (st:=fun i l=>qgA (xs.map Done.e) i l) (fun i a ha hi=>
  qta _ _ _ _ _ _ _ _ _ ⟨lt1 hi,lt0,lt2 hi,qac Done.e ha,qtN a,lt0,qcZ hi,qc0 hi,up1 hi hx,trivial⟩) (qtb ⟨ge1,trivial⟩),trivial⟩
theorem qtP(x:Token):Rt 117 [.agg x.e] [.agg x.e]:=qtd trivial
theorem qtQ(xs:List Token)(hx0:xs.length≤8388608):Rt 59 [.one (.sl 5 (xs.map Token.e))] [.one (.sl 5 (xs.map Token.e))]:=by
 have hx:xs.length≤8388608:=hx0
 exact qtg ⟨by omega,by omega,by simp only[zb];omega,by simp only[zb];omega,toL (e:=Token.e) (z:=[B false,I 0,I 0,B false,B false]) (st:=fun i l=>qgB (xs.map Token.e) i l) (fun i a ha hi=>
  qte _ _ _ _ _ _ _ _ _ _ _ _ _ _ _ _ _ _ ⟨lt1 hi,lt0,lt2 hi,qac Token.e ha,qtP a,lt0,qcZ hi,qc0 hi,up1 hi hx,trivial⟩) (qtf ⟨ge1,trivial⟩),trivial⟩
theorem qtR(x:News):Rt 118 [.agg x.e] [.agg x.e]:=qth trivial
theorem qtS(xs:List News)(hx0:xs.length≤8388608):Rt 60 [.one (.sl 3 (xs.map News.e))] [.one (.sl 3 (xs.map News.e))]:=by
 have hx:xs.length≤8388608:=hx0
 exact qtk ⟨by omega,by omega,by simp only[zb];omega,by simp only[zb];omega,toL (e:=News.e) (z:=[I 0,I 0,B false]) (st:=fun i l=>qgC (xs.map News.e) i l) (fun i a ha hi=>
  qti _ _ _ _ _ _ _ _ _ _ _ _ ⟨lt1 hi,lt0,lt2 hi,qac News.e ha,qtR a,lt0,qcZ hi,qc0 hi,up1 hi hx,trivial⟩) (qtj ⟨ge1,trivial⟩),trivial⟩
theorem qtT(x:Pick):Rt 23 [.agg x.e] [.agg x.e]:=qtz trivial
theorem qtU(x:Node)(hx:x.sz≤8388608):Rt 171 [.agg x.e] [.agg x.e]:=
 qtl ⟨qnk x.outs (by simp only[Node.sz]at hx;omega),trivial⟩
theorem qtV(xs:List Node)(hx0:szS Node.sz xs≤8388608):Rt 101 [.one (.sl 4 (xs.map Node.e))] [.one (.sl 4 (xs.map Node.e))]:=by
 have hx:xs.length≤8388608:=qfI hx0
 exact qto ⟨by omega,by omega,by simp only[zb];omega,by simp only[zb];omega,toL (e:=Node.e) (z:=[I 0,I 0,I 0,D.v (Value.slice none 0 0)]) (st:=fun i l=>qgD (xs.map Node.e) i l) (fun i a ha hi=>
  qtm _ _ _ _ _ _ _ _ _ _ _ _ _ _ _ ⟨lt1 hi,lt0,lt2 hi,qac Node.e ha,qtU a (qck hx0 (qaq ha)),lt0,qcZ hi,qc0 hi,up1 hi hx,trivial⟩) (qtn ⟨ge1,trivial⟩),trivial⟩
theorem qtW(x:Link)(hx:x.sz≤8388608):Rt 116 [.agg x.e] [.agg x.e]:=
 qtp ⟨qhR x.queue (by simp only[Link.sz]at hx;omega),trivial⟩
theorem qtX(xs:List Link)(hx0:szS Link.sz xs≤8388608):Rt 58 [.one (.sl 6 (xs.map Link.e))] [.one (.sl 6 (xs.map Link.e))]:=by
 have hx:xs.length≤8388608:=qfI hx0
 exact qts ⟨by omega,by omega,by simp only[zb];omega,by simp only[zb];omega,toL (e:=Link.e) (z:=[I 0,D.v (Value.slice none 0 0),I 0,I 0,I 0,I 0]) (st:=fun i l=>qgE (xs.map Link.e) i l) (fun i a ha hi=>
  qtq _ _ _ _ _ _ _ _ _ _ _ _ _ _ _ _ _ _ _ _ _ ⟨lt1 hi,lt0,lt2 hi,qac Link.e ha,qtW a (qck hx0 (qaq ha)),lt0,qcZ hi,qc0 hi,up1 hi hx,trivial⟩) (qtr ⟨ge1,trivial⟩),trivial⟩
theorem qtY(x:Graph)(hx:x.sz≤8388608):Rt 41 [.agg x.e] [.agg x.e]:=
 qtt ⟨qtV x.nodes (by simp only[Graph.sz]at hx;omega),trivial⟩
theorem qtZ(x:Worker)(hx:x.sz≤8388608):Rt 115 [.agg x.e] [.agg x.e]:=
 qtu ⟨qhR x.queue (by simp only[Worker.sz]at hx;omega),qhR x.staged (by simp only[Worker.sz]at hx;omega),qhR x.inputs (by simp only[Worker.sz]at hx;omega),qtM x.cells (by simp only[Worker.sz]at hx;omega),qnk x.sums (by simp only[Worker.sz]at hx;omega),qnl x.black (by simp only[Worker.sz]at hx;omega),qnl x.caps (by simp only[Worker.sz]at hx;omega),qtO x.dones (by simp only[Worker.sz]at hx;omega),trivial⟩
theorem qt0(xs:List Worker)(hx0:szS Worker.sz xs≤8388608):Rt 57 [.one (.sl 8 (xs.map Worker.e))] [.one (.sl 8 (xs.map Worker.e))]:=by
 have hx:xs.length≤8388608:=qfI hx0
 exact qtx ⟨by omega,by omega,by simp only[zb];omega,by simp only[zb];omega,toL (e:=Worker.e) (z:=[D.v (Value.slice none 0 0),D.v (Value.slice none 0 0),D.v (Value.slice none 0 0),D.v (Value.slice none 0 0),D.v (Value.slice none 0 0),D.v (Value.slice none 0 0),D.v (Value.slice none 0 0),D.v (Value.slice none 0 0)]) (st:=fun i l=>qgF (xs.map Worker.e) i l) (fun i a ha hi=>
  qtv _ _ _ _ _ _ _ _ _ _ _ _ _ _ _ _ _ _ _ _ _ _ _ _ _ _ _ ⟨lt1 hi,lt0,lt2 hi,qac Worker.e ha,qtZ a (qck hx0 (qaq ha)),lt0,qcZ hi,qc0 hi,up1 hi hx,trivial⟩) (qtw ⟨ge1,trivial⟩),trivial⟩
theorem qt1(x:Cluster)(hx:x.sz≤8388608):Rt 13 [.agg x.e] [.agg x.e]:=
 qty ⟨qtY x.graph (by simp only[Cluster.sz]at hx;omega),qt0 x.workers (by simp only[Cluster.sz]at hx;omega),qtX x.links (by simp only[Cluster.sz]at hx;omega),qtQ x.tokens (by simp only[Cluster.sz]at hx;omega),qtS x.news (by simp only[Cluster.sz]at hx;omega),trivial⟩
end Go.Proofs.YtdanpadojemjeaaGreat
namespace Go.Proofs.YtdanpadojemjeaaGreat
open Go.Sx Go.RowKit
theorem eqL{α:Type}[DecidableEq α]{P:Program}{c:Code}{e:α→List D}{xs ys:List α}{st:Nat→St}{X Y:St}{f:Nat}{args:List AD}
  (h0:((↑(xs.map e).length:Int) != (↑(ys.map e).length:Int))=true→Ret P f args [.one (B false)])
  (hs:∀i a,xs[i]?=some a→ys[i]?=some a→i<xs.length→i<ys.length→Tr P c (st i) .normal (st (i+1)))
  (hd:∀i a b,xs[i]?=some a→ys[i]?=some b→a≠b→i<xs.length→i<ys.length→Tr P c (st i) .ret X)
  (he:Tr P c (st xs.length) (.exit 0) Y)
  (ht:((↑(xs.map e).length:Int) != (↑(ys.map e).length:Int))=false→qam P c (st 0) (.exit 0) Y→Ret P f args [.one (B true)])
  (hf:((↑(xs.map e).length:Int) != (↑(ys.map e).length:Int))=false→qam P c (st 0) .ret X→Ret P f args [.one (B false)]):Ret P f args [.one (B (decide (xs=ys)))]:=by
 by_cases hl:xs.length=ys.length
 case neg=>
  rw[zv (fun e=>hl (by rw[e]))]
  exact h0 (by simp only[zb,bne_iff_ne,zcb];omega)
 have hz:((↑(xs.map e).length:Int) != (↑(ys.map e).length:Int))=false:=by simp[hl]
 have step:∀i,i<xs.length→xs[i]?=ys[i]?→Tr P c (st i) .normal (st (i+1)):=by
  intro i hi h
  obtain⟨a,ha⟩:=qah hi
  exact hs i a ha (h▸ha) hi (by omega)
 rcases qmG xs ys hl with he' | ⟨i,a,b,ha,hb,hab,hlt⟩
 ·rw[zav he']
  exact ht hz (qat (qaf 0) xs.length st (fun i hi=>step i hi (by rw[he'])) he)
 ·rw[zv (fun e=>by rw[e,hb]at ha;exact hab (zx ha).symm)]
  have hi:=lt_of ha
  exact hf hz (qat qav i st (fun j hj=>step j (by omega) (hlt j hj)) (hd i a b ha hb hab hi (by omega)))
theorem qt2(xs ys:List Int)(hx0:xs.length≤8388608):Rt 203 [.one (.sl 1 (xs.map eI)),.one (.sl 1 (ys.map eI))] [.one (B (decide (xs=ys)))]:=by
 have hx:xs.length≤8388608:=hx0
 exact eqL (e:=eI) (st:=fun i=>qes (xs.map eI) (ys.map eI) i) (fun h=>quN ⟨h,trivial⟩)
  (fun i a ha hb hi hj=>quP ⟨lt1 hi,lt0,lt2 hi,qac eI ha,lt0,lt2 hj,qac eI hb,by simp,up1 hi hx,trivial⟩)
  (fun i a b ha hb hab hi hj=>quO ⟨lt1 hi,lt0,lt2 hi,qac eI ha,lt0,lt2 hj,qac eI hb,by simp[hab],trivial⟩)
  (quQ ⟨ge1,trivial⟩) (fun h l=>quS ⟨h,l,trivial⟩) (fun h l=>quR _ _ false ⟨h,l,trivial⟩)
theorem qeo(xs ys:List Int)(r:Bool)(h:decide (xs=ys)=r)(hx0:xs.length≤8388608):Rt 203 [.one (.sl 1 (xs.map eI)),.one (.sl 1 (ys.map eI))] [.one (B r)]:=h▸qt2 xs ys hx0
theorem qt3(xs ys:List Bool)(hx0:xs.length≤8388608):Rt 29 [.one (.sl 1 (xs.map eB)),.one (.sl 1 (ys.map eB))] [.one (B (decide (xs=ys)))]:=by
 have hx:xs.length≤8388608:=hx0
 exact eqL (e:=eB) (st:=fun i=>qet (xs.map eB) (ys.map eB) i) (fun h=>quT ⟨h,trivial⟩)
  (fun i a ha hb hi hj=>quV ⟨lt1 hi,lt0,lt2 hi,qac eB ha,lt0,lt2 hj,qac eB hb,by simp,up1 hi hx,trivial⟩)
  (fun i a b ha hb hab hi hj=>quU ⟨lt1 hi,lt0,lt2 hi,qac eB ha,lt0,lt2 hj,qac eB hb,by revert hab;cases a<;>cases b<;>simp,trivial⟩)
  (quW ⟨ge1,trivial⟩) (fun h l=>quY ⟨h,l,trivial⟩) (fun h l=>quX _ _ false ⟨h,l,trivial⟩)
theorem qep(xs ys:List Bool)(r:Bool)(h:decide (xs=ys)=r)(hx0:xs.length≤8388608):Rt 29 [.one (.sl 1 (xs.map eB)),.one (.sl 1 (ys.map eB))] [.one (B r)]:=h▸qt3 xs ys hx0
theorem qt4(x y:Stamp):Rt 180 [.agg x.e,.agg y.e] [.one (B (decide (x=y)))]:=by
 obtain⟨a0,a1⟩:=x
 obtain⟨b0,b1⟩:=y
 by_cases h0:a0=b0
 case neg=>
  rw[zv (by simp[h0])]
  exact qun ⟨by simp[h0],trivial⟩
 by_cases h1:a1=b1
 case neg=>
  rw[zv (by simp[h1])]
  exact qup ⟨by simp[h0],by simp[h1],trivial⟩
 rw[zav (by simp[h0,h1])]
 exact quq ⟨by simp[h0],by simp[h1],trivial⟩
theorem qhS(x y:Stamp)(r:Bool)(h:decide (x=y)=r):Rt 180 [.agg x.e,.agg y.e] [.one (B r)]:=h▸qt4 x y
theorem qt5(x y:Record):Rt 108 [.agg x.e,.agg y.e] [.one (B (decide (x=y)))]:=by
 obtain⟨a0,a1,a2,a3⟩:=x
 obtain⟨b0,b1,b2,b3⟩:=y
 by_cases h0:a0=b0
 case neg=>
  rw[zv (by simp[h0])]
  exact qur ⟨by simp[h0],trivial⟩
 by_cases h1:a1=b1
 case neg=>
  rw[zv (by simp[h1])]
  exact qus ⟨by simp[h0],qhS a1 b1 false (by simp[h1]),rfl,trivial⟩
 by_cases h2:a2=b2
 case neg=>
  rw[zv (by simp[h2])]
  exact qut ⟨by simp[h0],qhS a1 b1 true (by simp[h1]),rfl,by simp[h2],trivial⟩
 by_cases h3:a3=b3
 case neg=>
  rw[zv (by simp[h3])]
  exact quu ⟨by simp[h0],qhS a1 b1 true (by simp[h1]),rfl,by simp[h2],by simp[h3],trivial⟩
 rw[zav (by simp[h0,h1,h2,h3])]
 exact quv ⟨by simp[h0],qhS a1 b1 true (by simp[h1]),rfl,by simp[h2],by simp[h3],trivial⟩
theorem qnm(x y:Record)(r:Bool)(h:decide (x=y)=r):Rt 108 [.agg x.e,.agg y.e] [.one (B r)]:=h▸qt5 x y
theorem qt6(xs ys:List Record)(hx0:xs.length≤8388608):Rt 46 [.one (.sl 5 (xs.map Record.e)),.one (.sl 5 (ys.map Record.e))] [.one (B (decide (xs=ys)))]:=by
 have hx:xs.length≤8388608:=hx0
 exact eqL (e:=Record.e) (st:=fun i=>qeq (xs.map Record.e) (ys.map Record.e) i) (fun h=>quw ⟨h,trivial⟩)
  (fun i a ha hb hi hj=>quy ⟨lt1 hi,lt0,lt2 hi,qac Record.e ha,lt0,lt2 hj,qac Record.e hb,qnm a a true (by simp),rfl,up1 hi hx,trivial⟩)
  (fun i a b ha hb hab hi hj=>qux ⟨lt1 hi,lt0,lt2 hi,qac Record.e ha,lt0,lt2 hj,qac Record.e hb,qnm a b false (by simp[hab]),rfl,trivial⟩)
  (quz ⟨ge1,trivial⟩) (fun h l=>quB ⟨h,l,trivial⟩) (fun h l=>quA _ _ false ⟨h,l,trivial⟩)
theorem qaX(xs ys:List Record)(r:Bool)(h:decide (xs=ys)=r)(hx0:xs.length≤8388608):Rt 46 [.one (.sl 5 (xs.map Record.e)),.one (.sl 5 (ys.map Record.e))] [.one (B r)]:=h▸qt6 xs ys hx0
theorem qt7(x y:Cell):Rt 106 [.agg x.e,.agg y.e] [.one (B (decide (x=y)))]:=by
 obtain⟨a0,a1,a2,a3⟩:=x
 obtain⟨b0,b1,b2,b3⟩:=y
 by_cases h0:a0=b0
 case neg=>
  rw[zv (by simp[h0])]
  exact quC ⟨by simp[h0],trivial⟩
 by_cases h1:a1=b1
 case neg=>
  rw[zv (by simp[h1])]
  exact quD ⟨by simp[h0],by simp[h1],trivial⟩
 by_cases h2:a2=b2
 case neg=>
  rw[zv (by simp[h2])]
  exact quE ⟨by simp[h0],by simp[h1],by simp[h2],trivial⟩
 by_cases h3:a3=b3
 case neg=>
  rw[zv (by simp[h3])]
  exact quF ⟨by simp[h0],by simp[h1],by simp[h2],by simp[h3],trivial⟩
 rw[zav (by simp[h0,h1,h2,h3])]
 exact quG ⟨by simp[h0],by simp[h1],by simp[h2],by simp[h3],trivial⟩
theorem qnn(x y:Cell)(r:Bool)(h:decide (x=y)=r):Rt 106 [.agg x.e,.agg y.e] [.one (B r)]:=h▸qt7 x y
theorem qt8(xs ys:List Cell)(hx0:xs.length≤8388608):Rt 44 [.one (.sl 4 (xs.map Cell.e)),.one (.sl 4 (ys.map Cell.e))] [.one (B (decide (xs=ys)))]:=by
 have hx:xs.length≤8388608:=hx0
 exact eqL (e:=Cell.e) (st:=fun i=>qer (xs.map Cell.e) (ys.map Cell.e) i) (fun h=>quH ⟨h,trivial⟩)
  (fun i a ha hb hi hj=>quJ ⟨lt1 hi,lt0,lt2 hi,qac Cell.e ha,lt0,lt2 hj,qac Cell.e hb,qnn a a true (by simp),rfl,up1 hi hx,trivial⟩)
  (fun i a b ha hb hab hi hj=>quI ⟨lt1 hi,lt0,lt2 hi,qac Cell.e ha,lt0,lt2 hj,qac Cell.e hb,qnn a b false (by simp[hab]),rfl,trivial⟩)
  (quK ⟨ge1,trivial⟩) (fun h l=>quM ⟨h,l,trivial⟩) (fun h l=>quL _ _ false ⟨h,l,trivial⟩)
theorem qfL(xs ys:List Cell)(r:Bool)(h:decide (xs=ys)=r)(hx0:xs.length≤8388608):Rt 44 [.one (.sl 4 (xs.map Cell.e)),.one (.sl 4 (ys.map Cell.e))] [.one (B r)]:=h▸qt8 xs ys hx0
theorem qt9(x y:Done):Rt 232 [.agg x.e,.agg y.e] [.one (B (decide (x=y)))]:=by
 obtain⟨a0,a1⟩:=x
 obtain⟨b0,b1⟩:=y
 by_cases h0:a0=b0
 case neg=>
  rw[zv (by simp[h0])]
  exact quZ ⟨by simp[h0],trivial⟩
 by_cases h1:a1=b1
 case neg=>
  rw[zv (by simp[h1])]
  exact qu0 ⟨by simp[h0],by revert h1;cases a1<;>cases b1<;>simp,trivial⟩
 rw[zav (by simp[h0,h1])]
 exact qu1 ⟨by simp[h0],by revert h1;cases a1<;>cases b1<;>simp,trivial⟩
theorem qno(x y:Done)(r:Bool)(h:decide (x=y)=r):Rt 232 [.agg x.e,.agg y.e] [.one (B r)]:=h▸qt9 x y
theorem qua(xs ys:List Done)(hx0:xs.length≤8388608):Rt 204 [.one (.sl 2 (xs.map Done.e)),.one (.sl 2 (ys.map Done.e))] [.one (B (decide (xs=ys)))]:=by
 have hx:xs.length≤8388608:=hx0
 exact eqL (e:=Done.e) (st:=fun i=>qeu (xs.map Done.e) (ys.map Done.e) i) (fun h=>qu2 ⟨h,trivial⟩)
  (fun i a ha hb hi hj=>qu4 ⟨lt1 hi,lt0,lt2 hi,qac Done.e ha,lt0,lt2 hj,qac Done.e hb,qno a a true (by simp),rfl,up1 hi hx,trivial⟩)
  (fun i a b ha hb hab hi hj=>qu3 ⟨lt1 hi,lt0,lt2 hi,qac Done.e ha,lt0,lt2 hj,qac Done.e hb,qno a b false (by simp[hab]),rfl,trivial⟩)
  (qu5 ⟨ge1,trivial⟩) (fun h l=>qu7 ⟨h,l,trivial⟩) (fun h l=>qu6 _ _ false ⟨h,l,trivial⟩)
theorem qnp(xs ys:List Done)(r:Bool)(h:decide (xs=ys)=r)(hx0:xs.length≤8388608):Rt 204 [.one (.sl 2 (xs.map Done.e)),.one (.sl 2 (ys.map Done.e))] [.one (B r)]:=h▸qua xs ys hx0
theorem qub(x y:Token):Rt 129 [.agg x.e,.agg y.e] [.one (B (decide (x=y)))]:=by
 obtain⟨a0,a1,a2,a3,a4⟩:=x
 obtain⟨b0,b1,b2,b3,b4⟩:=y
 by_cases h0:a0=b0
 case neg=>
  rw[zv (by simp[h0])]
  exact qu8 ⟨by revert h0;cases a0<;>cases b0<;>simp,trivial⟩
 by_cases h1:a1=b1
 case neg=>
  rw[zv (by simp[h1])]
  exact qu9 ⟨by revert h0;cases a0<;>cases b0<;>simp,by simp[h1],trivial⟩
 by_cases h2:a2=b2
 case neg=>
  rw[zv (by simp[h2])]
  exact qva ⟨by revert h0;cases a0<;>cases b0<;>simp,by simp[h1],by simp[h2],trivial⟩
 by_cases h3:a3=b3
 case neg=>
  rw[zv (by simp[h3])]
  exact qvb ⟨by revert h0;cases a0<;>cases b0<;>simp,by simp[h1],by simp[h2],by revert h3;cases a3<;>cases b3<;>simp,trivial⟩
 by_cases h4:a4=b4
 case neg=>
  rw[zv (by simp[h4])]
  exact qvc ⟨by revert h0;cases a0<;>cases b0<;>simp,by simp[h1],by simp[h2],by revert h3;cases a3<;>cases b3<;>simp,by revert h4;cases a4<;>cases b4<;>simp,trivial⟩
 rw[zav (by simp[h0,h1,h2,h3,h4])]
 exact qvd ⟨by revert h0;cases a0<;>cases b0<;>simp,by simp[h1],by simp[h2],by revert h3;cases a3<;>cases b3<;>simp,by revert h4;cases a4<;>cases b4<;>simp,trivial⟩
theorem qnq(x y:Token)(r:Bool)(h:decide (x=y)=r):Rt 129 [.agg x.e,.agg y.e] [.one (B r)]:=h▸qub x y
theorem quc(xs ys:List Token)(hx0:xs.length≤8388608):Rt 69 [.one (.sl 5 (xs.map Token.e)),.one (.sl 5 (ys.map Token.e))] [.one (B (decide (xs=ys)))]:=by
 have hx:xs.length≤8388608:=hx0
 exact eqL (e:=Token.e) (st:=fun i=>qev (xs.map Token.e) (ys.map Token.e) i) (fun h=>qve ⟨h,trivial⟩)
  (fun i a ha hb hi hj=>qvg ⟨lt1 hi,lt0,lt2 hi,qac Token.e ha,lt0,lt2 hj,qac Token.e hb,qnq a a true (by simp),rfl,up1 hi hx,trivial⟩)
  (fun i a b ha hb hab hi hj=>qvf ⟨lt1 hi,lt0,lt2 hi,qac Token.e ha,lt0,lt2 hj,qac Token.e hb,qnq a b false (by simp[hab]),rfl,trivial⟩)
  (qvh ⟨ge1,trivial⟩) (fun h l=>qvj ⟨h,l,trivial⟩) (fun h l=>qvi _ _ false ⟨h,l,trivial⟩)
theorem qj2(xs ys:List Token)(r:Bool)(h:decide (xs=ys)=r)(hx0:xs.length≤8388608):Rt 69 [.one (.sl 5 (xs.map Token.e)),.one (.sl 5 (ys.map Token.e))] [.one (B r)]:=h▸quc xs ys hx0
theorem qud(x y:News):Rt 130 [.agg x.e,.agg y.e] [.one (B (decide (x=y)))]:=by
 obtain⟨a0,a1,a2⟩:=x
 obtain⟨b0,b1,b2⟩:=y
 by_cases h0:a0=b0
 case neg=>
  rw[zv (by simp[h0])]
  exact qvk ⟨by simp[h0],trivial⟩
 by_cases h1:a1=b1
 case neg=>
  rw[zv (by simp[h1])]
  exact qvl ⟨by simp[h0],by simp[h1],trivial⟩
 by_cases h2:a2=b2
 case neg=>
  rw[zv (by simp[h2])]
  exact qvm ⟨by simp[h0],by simp[h1],by revert h2;cases a2<;>cases b2<;>simp,trivial⟩
 rw[zav (by simp[h0,h1,h2])]
 exact qvn ⟨by simp[h0],by simp[h1],by revert h2;cases a2<;>cases b2<;>simp,trivial⟩
theorem qnr(x y:News)(r:Bool)(h:decide (x=y)=r):Rt 130 [.agg x.e,.agg y.e] [.one (B r)]:=h▸qud x y
theorem que(xs ys:List News)(hx0:xs.length≤8388608):Rt 70 [.one (.sl 3 (xs.map News.e)),.one (.sl 3 (ys.map News.e))] [.one (B (decide (xs=ys)))]:=by
 have hx:xs.length≤8388608:=hx0
 exact eqL (e:=News.e) (st:=fun i=>qew (xs.map News.e) (ys.map News.e) i) (fun h=>qvo ⟨h,trivial⟩)
  (fun i a ha hb hi hj=>qvq ⟨lt1 hi,lt0,lt2 hi,qac News.e ha,lt0,lt2 hj,qac News.e hb,qnr a a true (by simp),rfl,up1 hi hx,trivial⟩)
  (fun i a b ha hb hab hi hj=>qvp ⟨lt1 hi,lt0,lt2 hi,qac News.e ha,lt0,lt2 hj,qac News.e hb,qnr a b false (by simp[hab]),rfl,trivial⟩)
  (qvr ⟨ge1,trivial⟩) (fun h l=>qvt ⟨h,l,trivial⟩) (fun h l=>qvs _ _ false ⟨h,l,trivial⟩)
theorem qns(xs ys:List News)(r:Bool)(h:decide (xs=ys)=r)(hx0:xs.length≤8388608):Rt 70 [.one (.sl 3 (xs.map News.e)),.one (.sl 3 (ys.map News.e))] [.one (B r)]:=h▸que xs ys hx0
theorem quf(x y:Node)(hx:x.sz≤8388608):Rt 179 [.agg x.e,.agg y.e] [.one (B (decide (x=y)))]:=by
 obtain⟨a0,a1,a2,a3⟩:=x
 obtain⟨b0,b1,b2,b3⟩:=y
 simp only[Node.sz]at hx
 by_cases h0:a0=b0
 case neg=>
  rw[zv (by simp[h0])]
  exact qvu ⟨by simp[h0],trivial⟩
 by_cases h1:a1=b1
 case neg=>
  rw[zv (by simp[h1])]
  exact qvv ⟨by simp[h0],by simp[h1],trivial⟩
 by_cases h2:a2=b2
 case neg=>
  rw[zv (by simp[h2])]
  exact qvw ⟨by simp[h0],by simp[h1],by simp[h2],trivial⟩
 by_cases h3:a3=b3
 case neg=>
  rw[zv (by simp[h3])]
  exact qvx ⟨by simp[h0],by simp[h1],by simp[h2],qeo a3 b3 false (by simp[h3]) (by omega),rfl,trivial⟩
 rw[zav (by simp[h0,h1,h2,h3])]
 exact qvy ⟨by simp[h0],by simp[h1],by simp[h2],qeo a3 b3 true (by simp[h3]) (by omega),rfl,trivial⟩
theorem qnt(x y:Node)(r:Bool)(h:decide (x=y)=r)(hx:x.sz≤8388608):Rt 179 [.agg x.e,.agg y.e] [.one (B r)]:=h▸quf x y hx
theorem qug(xs ys:List Node)(hx0:szS Node.sz xs≤8388608):Rt 107 [.one (.sl 4 (xs.map Node.e)),.one (.sl 4 (ys.map Node.e))] [.one (B (decide (xs=ys)))]:=by
 have hx:xs.length≤8388608:=qfI hx0
 exact eqL (e:=Node.e) (st:=fun i=>qex (xs.map Node.e) (ys.map Node.e) i) (fun h=>qvz ⟨h,trivial⟩)
  (fun i a ha hb hi hj=>qvB ⟨lt1 hi,lt0,lt2 hi,qac Node.e ha,lt0,lt2 hj,qac Node.e hb,qnt a a true (by simp) (qck hx0 (qaq ha)),rfl,up1 hi hx,trivial⟩)
  (fun i a b ha hb hab hi hj=>qvA ⟨lt1 hi,lt0,lt2 hi,qac Node.e ha,lt0,lt2 hj,qac Node.e hb,qnt a b false (by simp[hab]) (qck hx0 (qaq ha)),rfl,trivial⟩)
  (qvC ⟨ge1,trivial⟩) (fun h l=>qvE ⟨h,l,trivial⟩) (fun h l=>qvD _ _ false ⟨h,l,trivial⟩)
theorem qhT(xs ys:List Node)(r:Bool)(h:decide (xs=ys)=r)(hx0:szS Node.sz xs≤8388608):Rt 107 [.one (.sl 4 (xs.map Node.e)),.one (.sl 4 (ys.map Node.e))] [.one (B r)]:=h▸qug xs ys hx0
theorem quh(x y:Link)(hx:x.sz≤8388608):Rt 128 [.agg x.e,.agg y.e] [.one (B (decide (x=y)))]:=by
 obtain⟨a0,a1,a2,a3,a4,a5⟩:=x
 obtain⟨b0,b1,b2,b3,b4,b5⟩:=y
 simp only[Link.sz]at hx
 by_cases h0:a0=b0
 case neg=>
  rw[zv (by simp[h0])]
  exact qvF ⟨by simp[h0],trivial⟩
 by_cases h1:a1=b1
 case neg=>
  rw[zv (by simp[h1])]
  exact qvG ⟨by simp[h0],qaX a1 b1 false (by simp[h1]) (by omega),rfl,trivial⟩
 by_cases h2:a2=b2
 case neg=>
  rw[zv (by simp[h2])]
  exact qvH ⟨by simp[h0],qaX a1 b1 true (by simp[h1]) (by omega),rfl,by simp[h2],trivial⟩
 by_cases h3:a3=b3
 case neg=>
  rw[zv (by simp[h3])]
  exact qvI ⟨by simp[h0],qaX a1 b1 true (by simp[h1]) (by omega),rfl,by simp[h2],by simp[h3],trivial⟩
 by_cases h4:a4=b4
 case neg=>
  rw[zv (by simp[h4])]
  exact qvJ ⟨by simp[h0],qaX a1 b1 true (by simp[h1]) (by omega),rfl,by simp[h2],by simp[h3],by simp[h4],trivial⟩
 by_cases h5:a5=b5
 case neg=>
  rw[zv (by simp[h5])]
  exact qvK ⟨by simp[h0],qaX a1 b1 true (by simp[h1]) (by omega),rfl,by simp[h2],by simp[h3],by simp[h4],by simp[h5],trivial⟩
 rw[zav (by simp[h0,h1,h2,h3,h4,h5])]
 exact qvL ⟨by simp[h0],qaX a1 b1 true (by simp[h1]) (by omega),rfl,by simp[h2],by simp[h3],by simp[h4],by simp[h5],trivial⟩
theorem qnu(x y:Link)(r:Bool)(h:decide (x=y)=r)(hx:x.sz≤8388608):Rt 128 [.agg x.e,.agg y.e] [.one (B r)]:=h▸quh x y hx
theorem qui(xs ys:List Link)(hx0:szS Link.sz xs≤8388608):Rt 68 [.one (.sl 6 (xs.map Link.e)),.one (.sl 6 (ys.map Link.e))] [.one (B (decide (xs=ys)))]:=by
 have hx:xs.length≤8388608:=qfI hx0
 exact eqL (e:=Link.e) (st:=fun i=>qey (xs.map Link.e) (ys.map Link.e) i) (fun h=>qvM ⟨h,trivial⟩)
  (fun i a ha hb hi hj=>qvO ⟨lt1 hi,lt0,lt2 hi,qac Link.e ha,lt0,lt2 hj,qac Link.e hb,qnu a a true (by simp) (qck hx0 (qaq ha)),rfl,up1 hi hx,trivial⟩)
  (fun i a b ha hb hab hi hj=>qvN ⟨lt1 hi,lt0,lt2 hi,qac Link.e ha,lt0,lt2 hj,qac Link.e hb,qnu a b false (by simp[hab]) (qck hx0 (qaq ha)),rfl,trivial⟩)
  (qvP ⟨ge1,trivial⟩) (fun h l=>qvR ⟨h,l,trivial⟩) (fun h l=>qvQ _ _ false ⟨h,l,trivial⟩)
theorem qhU(xs ys:List Link)(r:Bool)(h:decide (xs=ys)=r)(hx0:szS Link.sz xs≤8388608):Rt 68 [.one (.sl 6 (xs.map Link.e)),.one (.sl 6 (ys.map Link.e))] [.one (B r)]:=h▸qui xs ys hx0
theorem quj(x y:Graph)(hx:x.sz≤8388608):Rt 45 [.agg x.e,.agg y.e] [.one (B (decide (x=y)))]:=by
 obtain⟨a0,a1,a2⟩:=x
 obtain⟨b0,b1,b2⟩:=y
 simp only[Graph.sz]at hx
 by_cases h0:a0=b0
 case neg=>
  rw[zv (by simp[h0])]
  exact qvS ⟨qhT a0 b0 false (by simp[h0]) (by omega),rfl,trivial⟩
 by_cases h1:a1=b1
 case neg=>
  rw[zv (by simp[h1])]
  exact qvT ⟨qhT a0 b0 true (by simp[h0]) (by omega),rfl,by simp[h1],trivial⟩
 by_cases h2:a2=b2
 case neg=>
  rw[zv (by simp[h2])]
  exact qvU ⟨qhT a0 b0 true (by simp[h0]) (by omega),rfl,by simp[h1],by simp[h2],trivial⟩
 rw[zav (by simp[h0,h1,h2])]
 exact qvV ⟨qhT a0 b0 true (by simp[h0]) (by omega),rfl,by simp[h1],by simp[h2],trivial⟩
theorem qfM(x y:Graph)(r:Bool)(h:decide (x=y)=r)(hx:x.sz≤8388608):Rt 45 [.agg x.e,.agg y.e] [.one (B r)]:=h▸quj x y hx
theorem quk(x y:Worker)(hx:x.sz≤8388608):Rt 127 [.agg x.e,.agg y.e] [.one (B (decide (x=y)))]:=by
 obtain⟨a0,a1,a2,a3,a4,a5,a6,a7⟩:=x
 obtain⟨b0,b1,b2,b3,b4,b5,b6,b7⟩:=y
 simp only[Worker.sz]at hx
 by_cases h0:a0=b0
 case neg=>
  rw[zv (by simp[h0])]
  exact qvW ⟨qaX a0 b0 false (by simp[h0]) (by omega),rfl,trivial⟩
 by_cases h1:a1=b1
 case neg=>
  rw[zv (by simp[h1])]
  exact qvX ⟨qaX a0 b0 true (by simp[h0]) (by omega),rfl,qaX a1 b1 false (by simp[h1]) (by omega),rfl,trivial⟩
 by_cases h2:a2=b2
 case neg=>
  rw[zv (by simp[h2])]
  exact qvY ⟨qaX a0 b0 true (by simp[h0]) (by omega),rfl,qaX a1 b1 true (by simp[h1]) (by omega),rfl,qaX a2 b2 false (by simp[h2]) (by omega),rfl,trivial⟩
 by_cases h3:a3=b3
 case neg=>
  rw[zv (by simp[h3])]
  exact qvZ ⟨qaX a0 b0 true (by simp[h0]) (by omega),rfl,qaX a1 b1 true (by simp[h1]) (by omega),rfl,qaX a2 b2 true (by simp[h2]) (by omega),rfl,qfL a3 b3 false (by simp[h3]) (by omega),rfl,trivial⟩
 by_cases h4:a4=b4
 case neg=>
  rw[zv (by simp[h4])]
  exact qv0 ⟨qaX a0 b0 true (by simp[h0]) (by omega),rfl,qaX a1 b1 true (by simp[h1]) (by omega),rfl,qaX a2 b2 true (by simp[h2]) (by omega),rfl,qfL a3 b3 true (by simp[h3]) (by omega),rfl,qeo a4 b4 false (by simp[h4]) (by omega),rfl,trivial⟩
 by_cases h5:a5=b5
 case neg=>
  rw[zv (by simp[h5])]
  exact qv1 ⟨qaX a0 b0 true (by simp[h0]) (by omega),rfl,qaX a1 b1 true (by simp[h1]) (by omega),rfl,qaX a2 b2 true (by simp[h2]) (by omega),rfl,qfL a3 b3 true (by simp[h3]) (by omega),rfl,qeo a4 b4 true (by simp[h4]) (by omega),rfl,qep a5 b5 false (by simp[h5]) (by omega),rfl,trivial⟩
 by_cases h6:a6=b6
 case neg=>
  rw[zv (by simp[h6])]
  exact qv2 ⟨qaX a0 b0 true (by simp[h0]) (by omega),rfl,qaX a1 b1 true (by simp[h1]) (by omega),rfl,qaX a2 b2 true (by simp[h2]) (by omega),rfl,qfL a3 b3 true (by simp[h3]) (by omega),rfl,qeo a4 b4 true (by simp[h4]) (by omega),rfl,qep a5 b5 true (by simp[h5]) (by omega),rfl,qep a6 b6 false (by simp[h6]) (by omega),rfl,trivial⟩
 by_cases h7:a7=b7
 case neg=>
  rw[zv (by simp[h7])]
  exact qv3 ⟨qaX a0 b0 true (by simp[h0]) (by omega),rfl,qaX a1 b1 true (by simp[h1]) (by omega),rfl,qaX a2 b2 true (by simp[h2]) (by omega),rfl,qfL a3 b3 true (by simp[h3]) (by omega),rfl,qeo a4 b4 true (by simp[h4]) (by omega),rfl,qep a5 b5 true (by simp[h5]) (by omega),rfl,qep a6 b6 true (by simp[h6]) (by omega),rfl,qnp a7 b7 false (by simp[h7]) (by omega),rfl,trivial⟩
 rw[zav (by simp[h0,h1,h2,h3,h4,h5,h6,h7])]
 exact qv4 ⟨qaX a0 b0 true (by simp[h0]) (by omega),rfl,qaX a1 b1 true (by simp[h1]) (by omega),rfl,qaX a2 b2 true (by simp[h2]) (by omega),rfl,qfL a3 b3 true (by simp[h3]) (by omega),rfl,qeo a4 b4 true (by simp[h4]) (by omega),rfl,qep a5 b5 true (by simp[h5]) (by omega),rfl,qep a6 b6 true (by simp[h6]) (by omega),rfl,qnp a7 b7 true (by simp[h7]) (by omega),rfl,trivial⟩
theorem qnv(x y:Worker)(r:Bool)(h:decide (x=y)=r)(hx:x.sz≤8388608):Rt 127 [.agg x.e,.agg y.e] [.one (B r)]:=h▸quk x y hx
theorem qul(xs ys:List Worker)(hx0:szS Worker.sz xs≤8388608):Rt 67 [.one (.sl 8 (xs.map Worker.e)),.one (.sl 8 (ys.map Worker.e))] [.one (B (decide (xs=ys)))]:=by
 have hx:xs.length≤8388608:=qfI hx0
 exact eqL (e:=Worker.e) (st:=fun i=>qez (xs.map Worker.e) (ys.map Worker.e) i) (fun h=>qv5 ⟨h,trivial⟩)
  (fun i a ha hb hi hj=>qv7 ⟨lt1 hi,lt0,lt2 hi,qac Worker.e ha,lt0,lt2 hj,qac Worker.e hb,qnv a a true (by simp) (qck hx0 (qaq ha)),rfl,up1 hi hx,trivial⟩)
  (fun i a b ha hb hab hi hj=>qv6 ⟨lt1 hi,lt0,lt2 hi,qac Worker.e ha,lt0,lt2 hj,qac Worker.e hb,qnv a b false (by simp[hab]) (qck hx0 (qaq ha)),rfl,trivial⟩)
  (qv8 ⟨ge1,trivial⟩) (fun h l=>qwa ⟨h,l,trivial⟩) (fun h l=>qv9 _ _ false ⟨h,l,trivial⟩)
theorem qgG(xs ys:List Worker)(r:Bool)(h:decide (xs=ys)=r)(hx0:szS Worker.sz xs≤8388608):Rt 67 [.one (.sl 8 (xs.map Worker.e)),.one (.sl 8 (ys.map Worker.e))] [.one (B r)]:=h▸qul xs ys hx0
theorem qum(x y:Cluster)(hx:x.sz≤8388608):Rt 15 [.agg x.e,.agg y.e] [.one (B (decide (x=y)))]:=by
 obtain⟨a0,a1,a2,a3,a4⟩:=x
 obtain⟨b0,b1,b2,b3,b4⟩:=y
 simp only[Cluster.sz]at hx
 by_cases h0:a0=b0
 case neg=>
  rw[zv (by simp[h0])]
  exact qwb ⟨qfM a0 b0 false (by simp[h0]) (by omega),rfl,trivial⟩
 by_cases h1:a1=b1
 case neg=>
  rw[zv (by simp[h1])]
  exact qwc ⟨qfM a0 b0 true (by simp[h0]) (by omega),rfl,qgG a1 b1 false (by simp[h1]) (by omega),rfl,trivial⟩
 by_cases h2:a2=b2
 case neg=>
  rw[zv (by simp[h2])]
  exact qwd ⟨qfM a0 b0 true (by simp[h0]) (by omega),rfl,qgG a1 b1 true (by simp[h1]) (by omega),rfl,qhU a2 b2 false (by simp[h2]) (by omega),rfl,trivial⟩
 by_cases h3:a3=b3
 case neg=>
  rw[zv (by simp[h3])]
  exact qwe ⟨qfM a0 b0 true (by simp[h0]) (by omega),rfl,qgG a1 b1 true (by simp[h1]) (by omega),rfl,qhU a2 b2 true (by simp[h2]) (by omega),rfl,qj2 a3 b3 false (by simp[h3]) (by omega),rfl,trivial⟩
 by_cases h4:a4=b4
 case neg=>
  rw[zv (by simp[h4])]
  exact qwf ⟨qfM a0 b0 true (by simp[h0]) (by omega),rfl,qgG a1 b1 true (by simp[h1]) (by omega),rfl,qhU a2 b2 true (by simp[h2]) (by omega),rfl,qj2 a3 b3 true (by simp[h3]) (by omega),rfl,qns a4 b4 false (by simp[h4]) (by omega),rfl,trivial⟩
 rw[zav (by simp[h0,h1,h2,h3,h4])]
 exact qwg ⟨qfM a0 b0 true (by simp[h0]) (by omega),rfl,qgG a1 b1 true (by simp[h1]) (by omega),rfl,qhU a2 b2 true (by simp[h2]) (by omega),rfl,qj2 a3 b3 true (by simp[h3]) (by omega),rfl,qns a4 b4 true (by simp[h4]) (by omega),rfl,trivial⟩
theorem qnw(x y:Cluster)(r:Bool)(h:decide (x=y)=r)(hx:x.sz≤8388608):Rt 15 [.agg x.e,.agg y.e] [.one (B r)]:=h▸qum x y hx
end Go.Proofs.YtdanpadojemjeaaGreat
