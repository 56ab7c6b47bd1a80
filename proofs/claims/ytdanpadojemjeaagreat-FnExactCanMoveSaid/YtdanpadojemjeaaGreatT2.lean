/- The functions sz.. (printed by gentypes.py) -/
import Derived.Test.YtdanpadojemjeaaGreatB0
import Derived.Test.YtdanpadojemjeaaGreatGA
import Derived.Test.YtdanpadojemjeaaGreatGC
set_option linter.unusedVariables false
set_option linter.unusedSimpArgs false
namespace Go.Proofs.YtdanpadojemjeaaGreat
open Go.Sx Go.RowKit
theorem qol(xs:List Int)(n:Int)(h0:0≤n)(h1:n≤8388608)(hl:(xs.length:Int)≤9223372036854775807):Rt 182 [.one (.sl 1 (xs.map eI)),.one (I n)] [.one (I (qaO n xs.length))]:=by
 have e:(xs.map eI).length=xs.length:=zb ..
 rw[←e]
 rw[←e]at hl
 unfold qaO
 split
 ·exact qtS ⟨⟨by omega,by omega⟩,by simp only[zf];omega,trivial⟩
 ·exact qtR ⟨⟨by omega,by omega⟩,by simp only[zi];omega,trivial⟩
theorem qom(xs:List Bool)(n:Int)(h0:0≤n)(h1:n≤8388608)(hl:(xs.length:Int)≤9223372036854775807):Rt 183 [.one (.sl 1 (xs.map eB)),.one (I n)] [.one (I (qaO n xs.length))]:=by
 have e:(xs.map eB).length=xs.length:=zb ..
 rw[←e]
 rw[←e]at hl
 unfold qaO
 split
 ·exact qtU ⟨⟨by omega,by omega⟩,by simp only[zf];omega,trivial⟩
 ·exact qtT ⟨⟨by omega,by omega⟩,by simp only[zi];omega,trivial⟩
theorem qiG(xs:List Record)(n:Int)(h0:0≤n)(h1:n≤8388608)(hl:(xs.length:Int)≤9223372036854775807):Rt 39 [.one (.sl 5 (xs.map Record.e)),.one (I n)] [.one (I (qaO n xs.length))]:=by
 have e:(xs.map Record.e).length=xs.length:=zb ..
 rw[←e]
 rw[←e]at hl
 unfold qaO
 split
 ·exact qtO ⟨⟨by omega,by omega⟩,by simp only[zf];omega,trivial⟩
 ·exact qtN ⟨⟨by omega,by omega⟩,by simp only[zi];omega,trivial⟩
theorem quH(xs:List Cell)(n:Int)(h0:0≤n)(h1:n≤8388608)(hl:(xs.length:Int)≤9223372036854775807):Rt 181 [.one (.sl 4 (xs.map Cell.e)),.one (I n)] [.one (I (qaO n xs.length))]:=by
 have e:(xs.map Cell.e).length=xs.length:=zb ..
 rw[←e]
 rw[←e]at hl
 unfold qaO
 split
 ·exact qtQ ⟨⟨by omega,by omega⟩,by simp only[zf];omega,trivial⟩
 ·exact qtP ⟨⟨by omega,by omega⟩,by simp only[zi];omega,trivial⟩
theorem quI(xs:List Done)(n:Int)(h0:0≤n)(h1:n≤8388608)(hl:(xs.length:Int)≤9223372036854775807):Rt 184 [.one (.sl 2 (xs.map Done.e)),.one (I n)] [.one (I (qaO n xs.length))]:=by
 have e:(xs.map Done.e).length=xs.length:=zb ..
 rw[←e]
 rw[←e]at hl
 unfold qaO
 split
 ·exact qtW ⟨⟨by omega,by omega⟩,by simp only[zf];omega,trivial⟩
 ·exact qtV ⟨⟨by omega,by omega⟩,by simp only[zi];omega,trivial⟩
theorem quJ(xs:List Token)(n:Int)(h0:0≤n)(h1:n≤8388608)(hl:(xs.length:Int)≤9223372036854775807):Rt 53 [.one (.sl 5 (xs.map Token.e)),.one (I n)] [.one (I (qaO n xs.length))]:=by
 have e:(xs.map Token.e).length=xs.length:=zb ..
 rw[←e]
 rw[←e]at hl
 unfold qaO
 split
 ·exact qtY ⟨⟨by omega,by omega⟩,by simp only[zf];omega,trivial⟩
 ·exact qtX ⟨⟨by omega,by omega⟩,by simp only[zi];omega,trivial⟩
theorem quK(xs:List News)(n:Int)(h0:0≤n)(h1:n≤8388608)(hl:(xs.length:Int)≤9223372036854775807):Rt 54 [.one (.sl 3 (xs.map News.e)),.one (I n)] [.one (I (qaO n xs.length))]:=by
 have e:(xs.map News.e).length=xs.length:=zb ..
 rw[←e]
 rw[←e]at hl
 unfold qaO
 split
 ·exact qt0 ⟨⟨by omega,by omega⟩,by simp only[zf];omega,trivial⟩
 ·exact qtZ ⟨⟨by omega,by omega⟩,by simp only[zi];omega,trivial⟩
theorem qon(x:Node)(n:Int)(h0:0≤n)(h1:n≤8388608)(hw:x.wf):Rt 162 [.agg x.e,.one (I n)] [.one (I (qaO n x.sz))]:=by
 have r0:=qol x.outs (n) (by omega) (by omega) hw.outs_ok.1
 by_cases c0:((x.outs.length:Nat):Int)≤n
 case neg=>
  rw[qax (by omega)]at r0
  rw[qax (by simp only[Node.sz];omega)]
  exact qt1 ⟨r0,rfl,trivial⟩
 rw[qaR c0]at r0
 have e:qaO n x.sz=n-((x.outs.length:Nat):Int):=by
  rw[qaR (by simp only[Node.sz];omega)]
  simp only[Node.sz]<;>omega
 rw[e]
 exact qt2 ⟨r0,by simp only[zf];omega,trivial⟩
theorem quM(xs:List Node)(n:Int)(h0:0≤n)(h1:n≤8388608)(hl:(xs.length:Int)≤9223372036854775807)(hw:∀x∈xs,x.wf):Rt 97 [.one (.sl 4 (xs.map Node.e)),.one (I n)] [.one (I (qaO n (szS Node.sz xs)))]:=by
 have e:(xs.map Node.e).length=xs.length:=zb ..
 by_cases c:(xs.length:Int)≤n
 case neg=>
  rw[qax (by unfold szS;omega)]
  exact qt3 ⟨⟨by omega,by omega⟩,by simp only[zi];omega,trivial⟩
 have step:∀i,i<xs.length→(sumTo Node.sz xs i:Int)≤n-xs.length→(sumTo Node.sz xs (i+1):Int)≤n-xs.length→
   Tr Tryz.prog (qaa Tryz.f97 0) (qdk (xs.map Node.e) i (n-↑(xs.map Node.e).length-sumTo Node.sz xs i)) .normal (qdk (xs.map Node.e) (i+1:Nat) (n-↑(xs.map Node.e).length-sumTo Node.sz xs (i+1))):=by
  intro i hi h2 h3
  obtain⟨a,ha⟩:=qag hi
  have hs:=qeE (sz:=Node.sz) ha
  have r:=qon a (n-↑(xs.map Node.e).length-sumTo Node.sz xs i) (by omega) (by omega) (hw a (qas ha))
  rw[qaR (by omega)]at r
  have e2:n-↑(xs.map Node.e).length-(sumTo Node.sz xs i:Int)-(a.sz:Int)=n-↑(xs.map Node.e).length-(sumTo Node.sz xs (i+1):Int):=by omega
  rw[e2]at r
  exact qt5 ⟨lt1 hi,lt0,lt2 hi,qac Node.e ha,r,by simp only[zf];omega,upM hi hl,trivial⟩
 rcases qkI Node.sz xs (n-xs.length) (by omega) with h | ⟨i,a,ha,h2,h3,h4⟩
 ·have hle:=fun i=>qf7 (sz:=Node.sz) (xs:=xs) (i:=i)
  have e1:qaO n (szS Node.sz xs)=n-↑(xs.map Node.e).length-sumTo Node.sz xs xs.length:=by
   rw[qaR (by unfold szS;omega),qiC];unfold szS;omega
  rw[e1]
  have l:=qaq (qaf 0) xs.length (fun i=>qdk (xs.map Node.e) i (n-↑(xs.map Node.e).length-sumTo Node.sz xs i)) (fun i hi=>step i hi (by have:=hle i;omega) (by have:=hle (i+1);omega)) (qt6 ⟨ge1,trivial⟩)
  simp only[qdS,Int.sub_zero,zcl]at l
  exact qt8 ⟨⟨by omega,by omega⟩,by simp only[zf];omega,l,trivial⟩
 ·have hi:=lt_of ha
  have hle:=fun i=>qf7 (sz:=Node.sz) (xs:=xs) (i:=i)
  have hs:=qeE (sz:=Node.sz) ha
  have hb:=hle (i+1)
  rw[qax (by unfold szS;omega)]
  have r:=qon a (n-↑(xs.map Node.e).length-sumTo Node.sz xs i) (by omega) (by omega) (hw a (qas ha))
  rw[qax (by omega)]at r
  have l:=qaq qaw i (fun i=>qdk (xs.map Node.e) i (n-↑(xs.map Node.e).length-sumTo Node.sz xs i)) (fun j hj=>step j (by omega) (h4 j (by omega)) (h4 (j+1) (by omega))) (qt4 ⟨lt1 hi,lt0,lt2 hi,qac Node.e ha,r,rfl,trivial⟩)
  simp only[qdS,Int.sub_zero,zcl]at l
  exact qt7 ⟨⟨by omega,by omega⟩,by simp only[zf];omega,l,trivial⟩
theorem qoo(x:Link)(n:Int)(h0:0≤n)(h1:n≤8388608)(hw:x.wf):Rt 111 [.agg x.e,.one (I n)] [.one (I (qaO n x.sz))]:=by
 have r0:=qiG x.queue (n) (by omega) (by omega) hw.queue_ok.1
 by_cases c0:((x.queue.length:Nat):Int)≤n
 case neg=>
  rw[qax (by omega)]at r0
  rw[qax (by simp only[Link.sz];omega)]
  exact qt9 ⟨r0,rfl,trivial⟩
 rw[qaR c0]at r0
 have e:qaO n x.sz=n-((x.queue.length:Nat):Int):=by
  rw[qaR (by simp only[Link.sz];omega)]
  simp only[Link.sz]<;>omega
 rw[e]
 exact qua ⟨r0,by simp only[zf];omega,trivial⟩
theorem quN(xs:List Link)(n:Int)(h0:0≤n)(h1:n≤8388608)(hl:(xs.length:Int)≤9223372036854775807)(hw:∀x∈xs,x.wf):Rt 52 [.one (.sl 6 (xs.map Link.e)),.one (I n)] [.one (I (qaO n (szS Link.sz xs)))]:=by
 have e:(xs.map Link.e).length=xs.length:=zb ..
 by_cases c:(xs.length:Int)≤n
 case neg=>
  rw[qax (by unfold szS;omega)]
  exact qub ⟨⟨by omega,by omega⟩,by simp only[zi];omega,trivial⟩
 have step:∀i,i<xs.length→(sumTo Link.sz xs i:Int)≤n-xs.length→(sumTo Link.sz xs (i+1):Int)≤n-xs.length→
   Tr Tryz.prog (qaa Tryz.f52 0) (qdl (xs.map Link.e) i (n-↑(xs.map Link.e).length-sumTo Link.sz xs i)) .normal (qdl (xs.map Link.e) (i+1:Nat) (n-↑(xs.map Link.e).length-sumTo Link.sz xs (i+1))):=by
  intro i hi h2 h3
  obtain⟨a,ha⟩:=qag hi
  have hs:=qeE (sz:=Link.sz) ha
  have r:=qoo a (n-↑(xs.map Link.e).length-sumTo Link.sz xs i) (by omega) (by omega) (hw a (qas ha))
  rw[qaR (by omega)]at r
  have e2:n-↑(xs.map Link.e).length-(sumTo Link.sz xs i:Int)-(a.sz:Int)=n-↑(xs.map Link.e).length-(sumTo Link.sz xs (i+1):Int):=by omega
  rw[e2]at r
  exact qud ⟨lt1 hi,lt0,lt2 hi,qac Link.e ha,r,by simp only[zf];omega,upM hi hl,trivial⟩
 rcases qkI Link.sz xs (n-xs.length) (by omega) with h | ⟨i,a,ha,h2,h3,h4⟩
 ·have hle:=fun i=>qf7 (sz:=Link.sz) (xs:=xs) (i:=i)
  have e1:qaO n (szS Link.sz xs)=n-↑(xs.map Link.e).length-sumTo Link.sz xs xs.length:=by
   rw[qaR (by unfold szS;omega),qiC];unfold szS;omega
  rw[e1]
  have l:=qaq (qaf 0) xs.length (fun i=>qdl (xs.map Link.e) i (n-↑(xs.map Link.e).length-sumTo Link.sz xs i)) (fun i hi=>step i hi (by have:=hle i;omega) (by have:=hle (i+1);omega)) (que ⟨ge1,trivial⟩)
  simp only[qdS,Int.sub_zero,zcl]at l
  exact qug ⟨⟨by omega,by omega⟩,by simp only[zf];omega,l,trivial⟩
 ·have hi:=lt_of ha
  have hle:=fun i=>qf7 (sz:=Link.sz) (xs:=xs) (i:=i)
  have hs:=qeE (sz:=Link.sz) ha
  have hb:=hle (i+1)
  rw[qax (by unfold szS;omega)]
  have r:=qoo a (n-↑(xs.map Link.e).length-sumTo Link.sz xs i) (by omega) (by omega) (hw a (qas ha))
  rw[qax (by omega)]at r
  have l:=qaq qaw i (fun i=>qdl (xs.map Link.e) i (n-↑(xs.map Link.e).length-sumTo Link.sz xs i)) (fun j hj=>step j (by omega) (h4 j (by omega)) (h4 (j+1) (by omega))) (quc ⟨lt1 hi,lt0,lt2 hi,qac Link.e ha,r,rfl,trivial⟩)
  simp only[qdS,Int.sub_zero,zcl]at l
  exact quf ⟨⟨by omega,by omega⟩,by simp only[zf];omega,l,trivial⟩
theorem quO(x:Graph)(n:Int)(h0:0≤n)(h1:n≤8388608)(hw:x.wf):Rt 38 [.agg x.e,.one (I n)] [.one (I (qaO n x.sz))]:=by
 have r0:=quM x.nodes (n) (by omega) (by omega) hw.nodes_ok.1 hw.nodes_ok.2
 by_cases c0:((szS Node.sz x.nodes:Nat):Int)≤n
 case neg=>
  rw[qax (by omega)]at r0
  rw[qax (by simp only[Graph.sz];omega)]
  exact quh ⟨r0,rfl,trivial⟩
 rw[qaR c0]at r0
 have e:qaO n x.sz=n-((szS Node.sz x.nodes:Nat):Int):=by
  rw[qaR (by simp only[Graph.sz];omega)]
  simp only[Graph.sz]<;>omega
 rw[e]
 exact qui ⟨r0,by simp only[zf];omega,trivial⟩
theorem qop(x:Worker)(n:Int)(h0:0≤n)(h1:n≤8388608)(hw:x.wf):Rt 110 [.agg x.e,.one (I n)] [.one (I (qaO n x.sz))]:=by
 have r0:=qiG x.queue (n) (by omega) (by omega) hw.queue_ok.1
 by_cases c0:((x.queue.length:Nat):Int)≤n
 case neg=>
  rw[qax (by omega)]at r0
  rw[qax (by simp only[Worker.sz];omega)]
  exact quj ⟨r0,rfl,trivial⟩
 rw[qaR c0]at r0
 have r1:=qiG x.staged (n-((x.queue.length:Nat):Int)) (by omega) (by omega) hw.staged_ok.1
 by_cases c1:((x.staged.length:Nat):Int)≤n-((x.queue.length:Nat):Int)
 case neg=>
  rw[qax (by omega)]at r1
  rw[qax (by simp only[Worker.sz];omega)]
  exact quk ⟨r0,by simp only[zf];omega,r1,rfl,trivial⟩
 rw[qaR c1]at r1
 have r2:=qiG x.inputs (n-((x.queue.length:Nat):Int)-((x.staged.length:Nat):Int)) (by omega) (by omega) hw.inputs_ok.1
 by_cases c2:((x.inputs.length:Nat):Int)≤n-((x.queue.length:Nat):Int)-((x.staged.length:Nat):Int)
 case neg=>
  rw[qax (by omega)]at r2
  rw[qax (by simp only[Worker.sz];omega)]
  exact qul ⟨r0,by simp only[zf];omega,r1,by simp only[zf];omega,r2,rfl,trivial⟩
 rw[qaR c2]at r2
 have r3:=quH x.cells (n-((x.queue.length:Nat):Int)-((x.staged.length:Nat):Int)-((x.inputs.length:Nat):Int)) (by omega) (by omega) hw.cells_ok.1
 by_cases c3:((x.cells.length:Nat):Int)≤n-((x.queue.length:Nat):Int)-((x.staged.length:Nat):Int)-((x.inputs.length:Nat):Int)
 case neg=>
  rw[qax (by omega)]at r3
  rw[qax (by simp only[Worker.sz];omega)]
  exact qum ⟨r0,by simp only[zf];omega,r1,by simp only[zf];omega,r2,by simp only[zf];omega,r3,rfl,trivial⟩
 rw[qaR c3]at r3
 have r4:=qol x.sums (n-((x.queue.length:Nat):Int)-((x.staged.length:Nat):Int)-((x.inputs.length:Nat):Int)-((x.cells.length:Nat):Int)) (by omega) (by omega) hw.sums_ok.1
 by_cases c4:((x.sums.length:Nat):Int)≤n-((x.queue.length:Nat):Int)-((x.staged.length:Nat):Int)-((x.inputs.length:Nat):Int)-((x.cells.length:Nat):Int)
 case neg=>
  rw[qax (by omega)]at r4
  rw[qax (by simp only[Worker.sz];omega)]
  exact qun ⟨r0,by simp only[zf];omega,r1,by simp only[zf];omega,r2,by simp only[zf];omega,r3,by simp only[zf];omega,r4,rfl,trivial⟩
 rw[qaR c4]at r4
 have r5:=qom x.black (n-((x.queue.length:Nat):Int)-((x.staged.length:Nat):Int)-((x.inputs.length:Nat):Int)-((x.cells.length:Nat):Int)-((x.sums.length:Nat):Int)) (by omega) (by omega) hw.black_ok
 by_cases c5:((x.black.length:Nat):Int)≤n-((x.queue.length:Nat):Int)-((x.staged.length:Nat):Int)-((x.inputs.length:Nat):Int)-((x.cells.length:Nat):Int)-((x.sums.length:Nat):Int)
 case neg=>
  rw[qax (by omega)]at r5
  rw[qax (by simp only[Worker.sz];omega)]
  exact qup ⟨r0,by simp only[zf];omega,r1,by simp only[zf];omega,r2,by simp only[zf];omega,r3,by simp only[zf];omega,r4,by simp only[zf];omega,r5,rfl,trivial⟩
 rw[qaR c5]at r5
 have r6:=qom x.caps (n-((x.queue.length:Nat):Int)-((x.staged.length:Nat):Int)-((x.inputs.length:Nat):Int)-((x.cells.length:Nat):Int)-((x.sums.length:Nat):Int)-((x.black.length:Nat):Int)) (by omega) (by omega) hw.caps_ok
 by_cases c6:((x.caps.length:Nat):Int)≤n-((x.queue.length:Nat):Int)-((x.staged.length:Nat):Int)-((x.inputs.length:Nat):Int)-((x.cells.length:Nat):Int)-((x.sums.length:Nat):Int)-((x.black.length:Nat):Int)
 case neg=>
  rw[qax (by omega)]at r6
  rw[qax (by simp only[Worker.sz];omega)]
  exact quq ⟨r0,by simp only[zf];omega,r1,by simp only[zf];omega,r2,by simp only[zf];omega,r3,by simp only[zf];omega,r4,by simp only[zf];omega,r5,by simp only[zf];omega,r6,rfl,trivial⟩
 rw[qaR c6]at r6
 have r7:=quI x.dones (n-((x.queue.length:Nat):Int)-((x.staged.length:Nat):Int)-((x.inputs.length:Nat):Int)-((x.cells.length:Nat):Int)-((x.sums.length:Nat):Int)-((x.black.length:Nat):Int)-((x.caps.length:Nat):Int)) (by omega) (by omega) hw.dones_ok.1
 by_cases c7:((x.dones.length:Nat):Int)≤n-((x.queue.length:Nat):Int)-((x.staged.length:Nat):Int)-((x.inputs.length:Nat):Int)-((x.cells.length:Nat):Int)-((x.sums.length:Nat):Int)-((x.black.length:Nat):Int)-((x.caps.length:Nat):Int)
 case neg=>
  rw[qax (by omega)]at r7
  rw[qax (by simp only[Worker.sz];omega)]
  exact qur ⟨r0,by simp only[zf];omega,r1,by simp only[zf];omega,r2,by simp only[zf];omega,r3,by simp only[zf];omega,r4,by simp only[zf];omega,r5,by simp only[zf];omega,r6,by simp only[zf];omega,r7,rfl,trivial⟩
 rw[qaR c7]at r7
 have e:qaO n x.sz=n-((x.queue.length:Nat):Int)-((x.staged.length:Nat):Int)-((x.inputs.length:Nat):Int)-((x.cells.length:Nat):Int)-((x.sums.length:Nat):Int)-((x.black.length:Nat):Int)-((x.caps.length:Nat):Int)-((x.dones.length:Nat):Int):=by
  rw[qaR (by simp only[Worker.sz];omega)]
  simp only[Worker.sz]<;>omega
 rw[e]
 exact qus ⟨r0,by simp only[zf];omega,r1,by simp only[zf];omega,r2,by simp only[zf];omega,r3,by simp only[zf];omega,r4,by simp only[zf];omega,r5,by simp only[zf];omega,r6,by simp only[zf];omega,r7,by simp only[zf];omega,trivial⟩
theorem quP(xs:List Worker)(n:Int)(h0:0≤n)(h1:n≤8388608)(hl:(xs.length:Int)≤9223372036854775807)(hw:∀x∈xs,x.wf):Rt 51 [.one (.sl 8 (xs.map Worker.e)),.one (I n)] [.one (I (qaO n (szS Worker.sz xs)))]:=by
 have e:(xs.map Worker.e).length=xs.length:=zb ..
 by_cases c:(xs.length:Int)≤n
 case neg=>
  rw[qax (by unfold szS;omega)]
  exact qut ⟨⟨by omega,by omega⟩,by simp only[zi];omega,trivial⟩
 have step:∀i,i<xs.length→(sumTo Worker.sz xs i:Int)≤n-xs.length→(sumTo Worker.sz xs (i+1):Int)≤n-xs.length→
   Tr Tryz.prog (qaa Tryz.f51 0) (qdm (xs.map Worker.e) i (n-↑(xs.map Worker.e).length-sumTo Worker.sz xs i)) .normal (qdm (xs.map Worker.e) (i+1:Nat) (n-↑(xs.map Worker.e).length-sumTo Worker.sz xs (i+1))):=by
  intro i hi h2 h3
  obtain⟨a,ha⟩:=qag hi
  have hs:=qeE (sz:=Worker.sz) ha
  have r:=qop a (n-↑(xs.map Worker.e).length-sumTo Worker.sz xs i) (by omega) (by omega) (hw a (qas ha))
  rw[qaR (by omega)]at r
  have e2:n-↑(xs.map Worker.e).length-(sumTo Worker.sz xs i:Int)-(a.sz:Int)=n-↑(xs.map Worker.e).length-(sumTo Worker.sz xs (i+1):Int):=by omega
  rw[e2]at r
  exact quv ⟨lt1 hi,lt0,lt2 hi,qac Worker.e ha,r,by simp only[zf];omega,upM hi hl,trivial⟩
 rcases qkI Worker.sz xs (n-xs.length) (by omega) with h | ⟨i,a,ha,h2,h3,h4⟩
 ·have hle:=fun i=>qf7 (sz:=Worker.sz) (xs:=xs) (i:=i)
  have e1:qaO n (szS Worker.sz xs)=n-↑(xs.map Worker.e).length-sumTo Worker.sz xs xs.length:=by
   rw[qaR (by unfold szS;omega),qiC];unfold szS;omega
  rw[e1]
  have l:=qaq (qaf 0) xs.length (fun i=>qdm (xs.map Worker.e) i (n-↑(xs.map Worker.e).length-sumTo Worker.sz xs i)) (fun i hi=>step i hi (by have:=hle i;omega) (by have:=hle (i+1);omega)) (quw ⟨ge1,trivial⟩)
  simp only[qdS,Int.sub_zero,zcl]at l
  exact quy ⟨⟨by omega,by omega⟩,by simp only[zf];omega,l,trivial⟩
 ·have hi:=lt_of ha
  have hle:=fun i=>qf7 (sz:=Worker.sz) (xs:=xs) (i:=i)
  have hs:=qeE (sz:=Worker.sz) ha
  have hb:=hle (i+1)
  rw[qax (by unfold szS;omega)]
  have r:=qop a (n-↑(xs.map Worker.e).length-sumTo Worker.sz xs i) (by omega) (by omega) (hw a (qas ha))
  rw[qax (by omega)]at r
  have l:=qaq qaw i (fun i=>qdm (xs.map Worker.e) i (n-↑(xs.map Worker.e).length-sumTo Worker.sz xs i)) (fun j hj=>step j (by omega) (h4 j (by omega)) (h4 (j+1) (by omega))) (quu ⟨lt1 hi,lt0,lt2 hi,qac Worker.e ha,r,rfl,trivial⟩)
  simp only[qdS,Int.sub_zero,zcl]at l
  exact qux ⟨⟨by omega,by omega⟩,by simp only[zf];omega,l,trivial⟩
theorem qg7(x:Cluster)(n:Int)(h0:0≤n)(h1:n≤8388608)(hw:x.wf):Rt 11 [.agg x.e,.one (I n)] [.one (I (qaO n x.sz))]:=by
 have r0:=quO x.graph (n) (by omega) (by omega) hw.graph_ok
 by_cases c0:((x.graph.sz:Nat):Int)≤n
 case neg=>
  rw[qax (by omega)]at r0
  rw[qax (by simp only[Cluster.sz];omega)]
  exact quz ⟨r0,rfl,trivial⟩
 rw[qaR c0]at r0
 have r1:=quP x.workers (n-((x.graph.sz:Nat):Int)) (by omega) (by omega) hw.workers_ok.1 hw.workers_ok.2
 by_cases c1:((szS Worker.sz x.workers:Nat):Int)≤n-((x.graph.sz:Nat):Int)
 case neg=>
  rw[qax (by omega)]at r1
  rw[qax (by simp only[Cluster.sz];omega)]
  exact quA ⟨r0,by simp only[zf];omega,r1,rfl,trivial⟩
 rw[qaR c1]at r1
 have r2:=quN x.links (n-((x.graph.sz:Nat):Int)-((szS Worker.sz x.workers:Nat):Int)) (by omega) (by omega) hw.links_ok.1 hw.links_ok.2
 by_cases c2:((szS Link.sz x.links:Nat):Int)≤n-((x.graph.sz:Nat):Int)-((szS Worker.sz x.workers:Nat):Int)
 case neg=>
  rw[qax (by omega)]at r2
  rw[qax (by simp only[Cluster.sz];omega)]
  exact quB ⟨r0,by simp only[zf];omega,r1,by simp only[zf];omega,r2,rfl,trivial⟩
 rw[qaR c2]at r2
 have r3:=quJ x.tokens (n-((x.graph.sz:Nat):Int)-((szS Worker.sz x.workers:Nat):Int)-((szS Link.sz x.links:Nat):Int)) (by omega) (by omega) hw.tokens_ok.1
 by_cases c3:((x.tokens.length:Nat):Int)≤n-((x.graph.sz:Nat):Int)-((szS Worker.sz x.workers:Nat):Int)-((szS Link.sz x.links:Nat):Int)
 case neg=>
  rw[qax (by omega)]at r3
  rw[qax (by simp only[Cluster.sz];omega)]
  exact quC ⟨r0,by simp only[zf];omega,r1,by simp only[zf];omega,r2,by simp only[zf];omega,r3,rfl,trivial⟩
 rw[qaR c3]at r3
 have r4:=quK x.news (n-((x.graph.sz:Nat):Int)-((szS Worker.sz x.workers:Nat):Int)-((szS Link.sz x.links:Nat):Int)-((x.tokens.length:Nat):Int)) (by omega) (by omega) hw.news_ok.1
 by_cases c4:((x.news.length:Nat):Int)≤n-((x.graph.sz:Nat):Int)-((szS Worker.sz x.workers:Nat):Int)-((szS Link.sz x.links:Nat):Int)-((x.tokens.length:Nat):Int)
 case neg=>
  rw[qax (by omega)]at r4
  rw[qax (by simp only[Cluster.sz];omega)]
  exact quD ⟨r0,by simp only[zf];omega,r1,by simp only[zf];omega,r2,by simp only[zf];omega,r3,by simp only[zf];omega,r4,rfl,trivial⟩
 rw[qaR c4]at r4
 have e:qaO n x.sz=n-((x.graph.sz:Nat):Int)-((szS Worker.sz x.workers:Nat):Int)-((szS Link.sz x.links:Nat):Int)-((x.tokens.length:Nat):Int)-((x.news.length:Nat):Int):=by
  rw[qaR (by simp only[Cluster.sz];omega)]
  simp only[Cluster.sz]<;>omega
 rw[e]
 exact quE ⟨r0,by simp only[zf];omega,r1,by simp only[zf];omega,r2,by simp only[zf];omega,r3,by simp only[zf];omega,r4,by simp only[zf];omega,trivial⟩
end Go.Proofs.YtdanpadojemjeaaGreat
namespace Go.Proofs.YtdanpadojemjeaaGreat
open Go.Sx Go.RowKit
theorem toL{α:Type}{P:Program}{c:Code}{e:α→List D}{z:List D}{xs:List α}{st:Nat→List (List D)→St}{X:St}
  (hs:∀i a,xs[i]?=some a→i<xs.length→Tr P c (st i (qb6 e z xs i)) .normal (st (i+1) ((qb6 e z xs i).set ((i:Nat):Int).toNat (e a))))
  (hx:Tr P c (st xs.length (xs.map e)) (.exit 0) X):qan P c (st 0 (List.replicate (xs.map e).length z)) (.exit 0) X:=by
 have l:=qaq (P:=P) (c:=c) (qaf 0) xs.length (fun i=>st i (qb6 e z xs i)) (fun i hi=>by
  obtain⟨a,ha⟩:=qag hi
  have t:=hs i a ha hi
  rw[qtl ha]at t
  exact t) (stE:=X) (by rw[qtk];exact hx)
 rw[qtj]at l
 exact l
theorem qoB(xs:List Int)(hx0:xs.length≤8388608):Rt 191 [.one (.sl 1 (xs.map eI))] [.one (.sl 1 (xs.map eI))]:=by
 have hx:xs.length≤8388608:=hx0
 exact qu1 ⟨by omega,by omega,by simp only[zb];omega,by simp only[zb];omega,toL (e:=eI) (z:=[I 0]) (st:=fun i l=>qha (xs.map eI) i l) (fun i a ha hi=>
  quZ _ _ _ _ _ ⟨lt1 hi,lt0,lt2 hi,qac eI ha,lt0,qcW hi,qcX hi,up1 hi hx,trivial⟩) (qu0 ⟨ge1,trivial⟩),trivial⟩
theorem qoC(xs:List Bool)(hx0:xs.length≤8388608):Rt 192 [.one (.sl 1 (xs.map eB))] [.one (.sl 1 (xs.map eB))]:=by
 have hx:xs.length≤8388608:=hx0
 exact qu4 ⟨by omega,by omega,by simp only[zb];omega,by simp only[zb];omega,toL (e:=eB) (z:=[B false]) (st:=fun i l=>qhb (xs.map eB) i l) (fun i a ha hi=>
  qu2 _ _ _ _ _ ⟨lt1 hi,lt0,lt2 hi,qac eB ha,lt0,qcW hi,qcX hi,up1 hi hx,trivial⟩) (qu3 ⟨ge1,trivial⟩),trivial⟩
theorem qvz(x:Stamp):Rt 172 [.agg x.e] [.agg x.e]:=quQ trivial
theorem qvA(x:Record):Rt 102 [.agg x.e] [.agg x.e]:=quR ⟨qvz x.stamp,trivial⟩
theorem qiH(xs:List Record)(hx0:xs.length≤8388608):Rt 42 [.one (.sl 5 (xs.map Record.e))] [.one (.sl 5 (xs.map Record.e))]:=by
 have hx:xs.length≤8388608:=hx0
 exact quU ⟨by omega,by omega,by simp only[zb];omega,by simp only[zb];omega,toL (e:=Record.e) (z:=[I 0,I 0,I 0,I 0,I 0]) (st:=fun i l=>qg8 (xs.map Record.e) i l) (fun i a ha hi=>
  quS _ _ _ _ _ _ _ _ _ _ _ _ _ _ _ _ _ _ ⟨lt1 hi,lt0,lt2 hi,qac Record.e ha,qvA a,lt0,qcW hi,qcX hi,up1 hi hx,trivial⟩) (quT ⟨ge1,trivial⟩),trivial⟩
theorem qvB(x:Cell):Rt 228 [.agg x.e] [.agg x.e]:=quV trivial
theorem qvC(xs:List Cell)(hx0:xs.length≤8388608):Rt 190 [.one (.sl 4 (xs.map Cell.e))] [.one (.sl 4 (xs.map Cell.e))]:=by
 have hx:xs.length≤8388608:=hx0
 exact quY ⟨by omega,by omega,by simp only[zb];omega,by simp only[zb];omega,toL (e:=Cell.e) (z:=[I 0,I 0,I 0,I 0]) (st:=fun i l=>qg9 (xs.map Cell.e) i l) (fun i a ha hi=>
  quW _ _ _ _ _ _ _ _ _ _ _ _ _ _ _ ⟨lt1 hi,lt0,lt2 hi,qac Cell.e ha,qvB a,lt0,qcW hi,qcX hi,up1 hi hx,trivial⟩) (quX ⟨ge1,trivial⟩),trivial⟩
theorem qvD(x:Done):Rt 229 [.agg x.e] [.agg x.e]:=qu5 trivial
theorem qvE(xs:List Done)(hx0:xs.length≤8388608):Rt 193 [.one (.sl 2 (xs.map Done.e))] [.one (.sl 2 (xs.map Done.e))]:=by
 have hx:xs.length≤8388608:=hx0
 exact qu8 ⟨by omega,by omega,by simp only[zb];omega,by simp only[zb];omega,toL (e:=Done.e) (z:=[I 0,B false]) (st:=fun i l=>qhc (xs.map Done.e) i l) (fun i a ha hi=>
  qu6 _ _ _ _ _ _ _ _ _ ⟨lt1 hi,lt0,lt2 hi,qac Done.e ha,qvD a,lt0,qcW hi,qcX hi,up1 hi hx,trivial⟩) (qu7 ⟨ge1,trivial⟩),trivial⟩
theorem qvF(x:Token):Rt 117 [.agg x.e] [.agg x.e]:=qu9 trivial
theorem qvG(xs:List Token)(hx0:xs.length≤8388608):Rt 59 [.one (.sl 5 (xs.map Token.e))] [.one (.sl 5 (xs.map Token.e))]:=by
 have hx:xs.length≤8388608:=hx0
 exact qvc ⟨by omega,by omega,by simp only[zb];omega,by simp only[zb];omega,toL (e:=Token.e) (z:=[B false,I 0,I 0,B false,B false]) (st:=fun i l=>qhd (xs.map Token.e) i l) (fun i a ha hi=>
  qva _ _ _ _ _ _ _ _ _ _ _ _ _ _ _ _ _ _ ⟨lt1 hi,lt0,lt2 hi,qac Token.e ha,qvF a,lt0,qcW hi,qcX hi,up1 hi hx,trivial⟩) (qvb ⟨ge1,trivial⟩),trivial⟩
theorem qvH(x:News):Rt 118 [.agg x.e] [.agg x.e]:=qvd trivial
theorem qvI(xs:List News)(hx0:xs.length≤8388608):Rt 60 [.one (.sl 3 (xs.map News.e))] [.one (.sl 3 (xs.map News.e))]:=by
 have hx:xs.length≤8388608:=hx0
 exact qvg ⟨by omega,by omega,by simp only[zb];omega,by simp only[zb];omega,toL (e:=News.e) (z:=[I 0,I 0,B false]) (st:=fun i l=>qhe (xs.map News.e) i l) (fun i a ha hi=>
  qve _ _ _ _ _ _ _ _ _ _ _ _ ⟨lt1 hi,lt0,lt2 hi,qac News.e ha,qvH a,lt0,qcW hi,qcX hi,up1 hi hx,trivial⟩) (qvf ⟨ge1,trivial⟩),trivial⟩
theorem qvK(x:Node)(hx:x.sz≤8388608):Rt 171 [.agg x.e] [.agg x.e]:=
 qvh ⟨qoB x.outs (by simp only[Node.sz]at hx;omega),trivial⟩
theorem qvL(xs:List Node)(hx0:szS Node.sz xs≤8388608):Rt 101 [.one (.sl 4 (xs.map Node.e))] [.one (.sl 4 (xs.map Node.e))]:=by
 have hx:xs.length≤8388608:=qf8 hx0
 exact qvk ⟨by omega,by omega,by simp only[zb];omega,by simp only[zb];omega,toL (e:=Node.e) (z:=[I 0,I 0,I 0,D.v (Value.slice none 0 0)]) (st:=fun i l=>qhf (xs.map Node.e) i l) (fun i a ha hi=>
  qvi _ _ _ _ _ _ _ _ _ _ _ _ _ _ _ ⟨lt1 hi,lt0,lt2 hi,qac Node.e ha,qvK a (qcs hx0 (qas ha)),lt0,qcW hi,qcX hi,up1 hi hx,trivial⟩) (qvj ⟨ge1,trivial⟩),trivial⟩
theorem qvM(x:Link)(hx:x.sz≤8388608):Rt 116 [.agg x.e] [.agg x.e]:=
 qvl ⟨qiH x.queue (by simp only[Link.sz]at hx;omega),trivial⟩
theorem qvN(xs:List Link)(hx0:szS Link.sz xs≤8388608):Rt 58 [.one (.sl 6 (xs.map Link.e))] [.one (.sl 6 (xs.map Link.e))]:=by
 have hx:xs.length≤8388608:=qf8 hx0
 exact qvo ⟨by omega,by omega,by simp only[zb];omega,by simp only[zb];omega,toL (e:=Link.e) (z:=[I 0,D.v (Value.slice none 0 0),I 0,I 0,I 0,I 0]) (st:=fun i l=>qhg (xs.map Link.e) i l) (fun i a ha hi=>
  qvm _ _ _ _ _ _ _ _ _ _ _ _ _ _ _ _ _ _ _ _ _ ⟨lt1 hi,lt0,lt2 hi,qac Link.e ha,qvM a (qcs hx0 (qas ha)),lt0,qcW hi,qcX hi,up1 hi hx,trivial⟩) (qvn ⟨ge1,trivial⟩),trivial⟩
theorem qvO(x:Graph)(hx:x.sz≤8388608):Rt 41 [.agg x.e] [.agg x.e]:=
 qvp ⟨qvL x.nodes (by simp only[Graph.sz]at hx;omega),trivial⟩
theorem qvP(x:Worker)(hx:x.sz≤8388608):Rt 115 [.agg x.e] [.agg x.e]:=
 qvq ⟨qiH x.queue (by simp only[Worker.sz]at hx;omega),qiH x.staged (by simp only[Worker.sz]at hx;omega),qiH x.inputs (by simp only[Worker.sz]at hx;omega),qvC x.cells (by simp only[Worker.sz]at hx;omega),qoB x.sums (by simp only[Worker.sz]at hx;omega),qoC x.black (by simp only[Worker.sz]at hx;omega),qoC x.caps (by simp only[Worker.sz]at hx;omega),qvE x.dones (by simp only[Worker.sz]at hx;omega),trivial⟩
theorem qvQ(xs:List Worker)(hx0:szS Worker.sz xs≤8388608):Rt 57 [.one (.sl 8 (xs.map Worker.e))] [.one (.sl 8 (xs.map Worker.e))]:=by
 have hx:xs.length≤8388608:=qf8 hx0
 exact qvt ⟨by omega,by omega,by simp only[zb];omega,by simp only[zb];omega,toL (e:=Worker.e) (z:=[D.v (Value.slice none 0 0),D.v (Value.slice none 0 0),D.v (Value.slice none 0 0),D.v (Value.slice none 0 0),D.v (Value.slice none 0 0),D.v (Value.slice none 0 0),D.v (Value.slice none 0 0),D.v (Value.slice none 0 0)]) (st:=fun i l=>qhh (xs.map Worker.e) i l) (fun i a ha hi=>
  qvr _ _ _ _ _ _ _ _ _ _ _ _ _ _ _ _ _ _ _ _ _ _ _ _ _ _ _ ⟨lt1 hi,lt0,lt2 hi,qac Worker.e ha,qvP a (qcs hx0 (qas ha)),lt0,qcW hi,qcX hi,up1 hi hx,trivial⟩) (qvs ⟨ge1,trivial⟩),trivial⟩
theorem qhj(x:Cluster)(hx:x.sz≤8388608):Rt 13 [.agg x.e] [.agg x.e]:=
 qvu ⟨qvO x.graph (by simp only[Cluster.sz]at hx;omega),qvQ x.workers (by simp only[Cluster.sz]at hx;omega),qvN x.links (by simp only[Cluster.sz]at hx;omega),qvG x.tokens (by simp only[Cluster.sz]at hx;omega),qvI x.news (by simp only[Cluster.sz]at hx;omega),trivial⟩
end Go.Proofs.YtdanpadojemjeaaGreat
namespace Go.Proofs.YtdanpadojemjeaaGreat
open Go.Sx Go.RowKit
theorem eqL{α:Type}[DecidableEq α]{P:Program}{c:Code}{e:α→List D}{xs ys:List α}{st:Nat→St}{X Y:St}{f:Nat}{args:List AD}
  (h0:((↑(xs.map e).length:Int) != (↑(ys.map e).length:Int))=true→Ret P f args [.one (B false)])
  (hs:∀i a,xs[i]?=some a→ys[i]?=some a→i<xs.length→i<ys.length→Tr P c (st i) .normal (st (i+1)))
  (hd:∀i a b,xs[i]?=some a→ys[i]?=some b→a≠b→i<xs.length→i<ys.length→Tr P c (st i) .ret X)
  (he:Tr P c (st xs.length) (.exit 0) Y)
  (ht:((↑(xs.map e).length:Int) != (↑(ys.map e).length:Int))=false→qan P c (st 0) (.exit 0) Y→Ret P f args [.one (B true)])
  (hf:((↑(xs.map e).length:Int) != (↑(ys.map e).length:Int))=false→qan P c (st 0) .ret X→Ret P f args [.one (B false)]):Ret P f args [.one (B (decide (xs=ys)))]:=by
 by_cases hl:xs.length=ys.length
 case neg=>
  rw[zt (fun e=>hl (by rw[e]))]
  exact h0 (by simp only[zb,bne_iff_ne,zcc];omega)
 have hz:((↑(xs.map e).length:Int) != (↑(ys.map e).length:Int))=false:=by simp[hl]
 have step:∀i,i<xs.length→xs[i]?=ys[i]?→Tr P c (st i) .normal (st (i+1)):=by
  intro i hi h
  obtain⟨a,ha⟩:=qag hi
  exact hs i a ha (h▸ha) hi (by omega)
 rcases qnV xs ys hl with he' | ⟨i,a,b,ha,hb,hab,hlt⟩
 ·rw[zap he']
  exact ht hz (qaq (qaf 0) xs.length st (fun i hi=>step i hi (by rw[he'])) he)
 ·rw[zt (fun e=>by rw[e,hb]at ha;exact hab (zx ha).symm)]
  have hi:=lt_of ha
  exact hf hz (qaq qaw i st (fun j hj=>step j (by omega) (hlt j hj)) (hd i a b ha hb hab hi (by omega)))
theorem qxU(xs ys:List Int)(hx0:xs.length≤8388608):Rt 203 [.one (.sl 1 (xs.map eI)),.one (.sl 1 (ys.map eI))] [.one (B (decide (xs=ys)))]:=by
 have hx:xs.length≤8388608:=hx0
 exact eqL (e:=eI) (st:=fun i=>qeI (xs.map eI) (ys.map eI) i) (fun h=>qwg ⟨h,trivial⟩)
  (fun i a ha hb hi hj=>qwi ⟨lt1 hi,lt0,lt2 hi,qac eI ha,lt0,lt2 hj,qac eI hb,by simp,up1 hi hx,trivial⟩)
  (fun i a b ha hb hab hi hj=>qwh ⟨lt1 hi,lt0,lt2 hi,qac eI ha,lt0,lt2 hj,qac eI hb,by simp[hab],trivial⟩)
  (qwj ⟨ge1,trivial⟩) (fun h l=>qwl ⟨h,l,trivial⟩) (fun h l=>qwk _ _ false ⟨h,l,trivial⟩)
theorem qeR(xs ys:List Int)(r:Bool)(h:decide (xs=ys)=r)(hx0:xs.length≤8388608):Rt 203 [.one (.sl 1 (xs.map eI)),.one (.sl 1 (ys.map eI))] [.one (B r)]:=h▸qxU xs ys hx0
theorem qxV(xs ys:List Bool)(hx0:xs.length≤8388608):Rt 29 [.one (.sl 1 (xs.map eB)),.one (.sl 1 (ys.map eB))] [.one (B (decide (xs=ys)))]:=by
 have hx:xs.length≤8388608:=hx0
 exact eqL (e:=eB) (st:=fun i=>qeJ (xs.map eB) (ys.map eB) i) (fun h=>qwm ⟨h,trivial⟩)
  (fun i a ha hb hi hj=>qwo ⟨lt1 hi,lt0,lt2 hi,qac eB ha,lt0,lt2 hj,qac eB hb,by simp,up1 hi hx,trivial⟩)
  (fun i a b ha hb hab hi hj=>qwn ⟨lt1 hi,lt0,lt2 hi,qac eB ha,lt0,lt2 hj,qac eB hb,by revert hab;cases a<;>cases b<;>simp,trivial⟩)
  (qwp ⟨ge1,trivial⟩) (fun h l=>qwr ⟨h,l,trivial⟩) (fun h l=>qwq _ _ false ⟨h,l,trivial⟩)
theorem qdW(xs ys:List Bool)(r:Bool)(h:decide (xs=ys)=r)(hx0:xs.length≤8388608):Rt 29 [.one (.sl 1 (xs.map eB)),.one (.sl 1 (ys.map eB))] [.one (B r)]:=h▸qxV xs ys hx0
theorem qxW(x y:Stamp):Rt 180 [.agg x.e,.agg y.e] [.one (B (decide (x=y)))]:=by
 obtain⟨a0,a1⟩:=x
 obtain⟨b0,b1⟩:=y
 by_cases h0:a0=b0
 case neg=>
  rw[zt (by simp[h0])]
  exact qvR ⟨by simp[h0],trivial⟩
 by_cases h1:a1=b1
 case neg=>
  rw[zt (by simp[h1])]
  exact qvS ⟨by simp[h0],by simp[h1],trivial⟩
 rw[zap (by simp[h0,h1])]
 exact qvT ⟨by simp[h0],by simp[h1],trivial⟩
theorem qiI(x y:Stamp)(r:Bool)(h:decide (x=y)=r):Rt 180 [.agg x.e,.agg y.e] [.one (B r)]:=h▸qxW x y
theorem qxX(x y:Record):Rt 108 [.agg x.e,.agg y.e] [.one (B (decide (x=y)))]:=by
 obtain⟨a0,a1,a2,a3⟩:=x
 obtain⟨b0,b1,b2,b3⟩:=y
 by_cases h0:a0=b0
 case neg=>
  rw[zt (by simp[h0])]
  exact qvU ⟨by simp[h0],trivial⟩
 by_cases h1:a1=b1
 case neg=>
  rw[zt (by simp[h1])]
  exact qvV ⟨by simp[h0],qiI a1 b1 false (by simp[h1]),rfl,trivial⟩
 by_cases h2:a2=b2
 case neg=>
  rw[zt (by simp[h2])]
  exact qvW ⟨by simp[h0],qiI a1 b1 true (by simp[h1]),rfl,by simp[h2],trivial⟩
 by_cases h3:a3=b3
 case neg=>
  rw[zt (by simp[h3])]
  exact qvX ⟨by simp[h0],qiI a1 b1 true (by simp[h1]),rfl,by simp[h2],by simp[h3],trivial⟩
 rw[zap (by simp[h0,h1,h2,h3])]
 exact qvY ⟨by simp[h0],qiI a1 b1 true (by simp[h1]),rfl,by simp[h2],by simp[h3],trivial⟩
theorem qo0(x y:Record)(r:Bool)(h:decide (x=y)=r):Rt 108 [.agg x.e,.agg y.e] [.one (B r)]:=h▸qxX x y
theorem qxY(xs ys:List Record)(hx0:xs.length≤8388608):Rt 46 [.one (.sl 5 (xs.map Record.e)),.one (.sl 5 (ys.map Record.e))] [.one (B (decide (xs=ys)))]:=by
 have hx:xs.length≤8388608:=hx0
 exact eqL (e:=Record.e) (st:=fun i=>qeG (xs.map Record.e) (ys.map Record.e) i) (fun h=>qvZ ⟨h,trivial⟩)
  (fun i a ha hb hi hj=>qv1 ⟨lt1 hi,lt0,lt2 hi,qac Record.e ha,lt0,lt2 hj,qac Record.e hb,qo0 a a true (by simp),rfl,up1 hi hx,trivial⟩)
  (fun i a b ha hb hab hi hj=>qv0 ⟨lt1 hi,lt0,lt2 hi,qac Record.e ha,lt0,lt2 hj,qac Record.e hb,qo0 a b false (by simp[hab]),rfl,trivial⟩)
  (qv2 ⟨ge1,trivial⟩) (fun h l=>qv4 ⟨h,l,trivial⟩) (fun h l=>qv3 _ _ false ⟨h,l,trivial⟩)
theorem qa1(xs ys:List Record)(r:Bool)(h:decide (xs=ys)=r)(hx0:xs.length≤8388608):Rt 46 [.one (.sl 5 (xs.map Record.e)),.one (.sl 5 (ys.map Record.e))] [.one (B r)]:=h▸qxY xs ys hx0
theorem qxZ(x y:Cell):Rt 106 [.agg x.e,.agg y.e] [.one (B (decide (x=y)))]:=by
 obtain⟨a0,a1,a2,a3⟩:=x
 obtain⟨b0,b1,b2,b3⟩:=y
 by_cases h0:a0=b0
 case neg=>
  rw[zt (by simp[h0])]
  exact qv5 ⟨by simp[h0],trivial⟩
 by_cases h1:a1=b1
 case neg=>
  rw[zt (by simp[h1])]
  exact qv6 ⟨by simp[h0],by simp[h1],trivial⟩
 by_cases h2:a2=b2
 case neg=>
  rw[zt (by simp[h2])]
  exact qv7 ⟨by simp[h0],by simp[h1],by simp[h2],trivial⟩
 by_cases h3:a3=b3
 case neg=>
  rw[zt (by simp[h3])]
  exact qv8 ⟨by simp[h0],by simp[h1],by simp[h2],by simp[h3],trivial⟩
 rw[zap (by simp[h0,h1,h2,h3])]
 exact qv9 ⟨by simp[h0],by simp[h1],by simp[h2],by simp[h3],trivial⟩
theorem qo1(x y:Cell)(r:Bool)(h:decide (x=y)=r):Rt 106 [.agg x.e,.agg y.e] [.one (B r)]:=h▸qxZ x y
theorem qx0(xs ys:List Cell)(hx0:xs.length≤8388608):Rt 44 [.one (.sl 4 (xs.map Cell.e)),.one (.sl 4 (ys.map Cell.e))] [.one (B (decide (xs=ys)))]:=by
 have hx:xs.length≤8388608:=hx0
 exact eqL (e:=Cell.e) (st:=fun i=>qeH (xs.map Cell.e) (ys.map Cell.e) i) (fun h=>qwa ⟨h,trivial⟩)
  (fun i a ha hb hi hj=>qwc ⟨lt1 hi,lt0,lt2 hi,qac Cell.e ha,lt0,lt2 hj,qac Cell.e hb,qo1 a a true (by simp),rfl,up1 hi hx,trivial⟩)
  (fun i a b ha hb hab hi hj=>qwb ⟨lt1 hi,lt0,lt2 hi,qac Cell.e ha,lt0,lt2 hj,qac Cell.e hb,qo1 a b false (by simp[hab]),rfl,trivial⟩)
  (qwd ⟨ge1,trivial⟩) (fun h l=>qwf ⟨h,l,trivial⟩) (fun h l=>qwe _ _ false ⟨h,l,trivial⟩)
theorem qgb(xs ys:List Cell)(r:Bool)(h:decide (xs=ys)=r)(hx0:xs.length≤8388608):Rt 44 [.one (.sl 4 (xs.map Cell.e)),.one (.sl 4 (ys.map Cell.e))] [.one (B r)]:=h▸qx0 xs ys hx0
theorem qx1(x y:Done):Rt 232 [.agg x.e,.agg y.e] [.one (B (decide (x=y)))]:=by
 obtain⟨a0,a1⟩:=x
 obtain⟨b0,b1⟩:=y
 by_cases h0:a0=b0
 case neg=>
  rw[zt (by simp[h0])]
  exact qws ⟨by simp[h0],trivial⟩
 by_cases h1:a1=b1
 case neg=>
  rw[zt (by simp[h1])]
  exact qwt ⟨by simp[h0],by revert h1;cases a1<;>cases b1<;>simp,trivial⟩
 rw[zap (by simp[h0,h1])]
 exact qwu ⟨by simp[h0],by revert h1;cases a1<;>cases b1<;>simp,trivial⟩
theorem qo2(x y:Done)(r:Bool)(h:decide (x=y)=r):Rt 232 [.agg x.e,.agg y.e] [.one (B r)]:=h▸qx1 x y
theorem qx2(xs ys:List Done)(hx0:xs.length≤8388608):Rt 204 [.one (.sl 2 (xs.map Done.e)),.one (.sl 2 (ys.map Done.e))] [.one (B (decide (xs=ys)))]:=by
 have hx:xs.length≤8388608:=hx0
 exact eqL (e:=Done.e) (st:=fun i=>qeK (xs.map Done.e) (ys.map Done.e) i) (fun h=>qwv ⟨h,trivial⟩)
  (fun i a ha hb hi hj=>qwx ⟨lt1 hi,lt0,lt2 hi,qac Done.e ha,lt0,lt2 hj,qac Done.e hb,qo2 a a true (by simp),rfl,up1 hi hx,trivial⟩)
  (fun i a b ha hb hab hi hj=>qww ⟨lt1 hi,lt0,lt2 hi,qac Done.e ha,lt0,lt2 hj,qac Done.e hb,qo2 a b false (by simp[hab]),rfl,trivial⟩)
  (qwy ⟨ge1,trivial⟩) (fun h l=>qwA ⟨h,l,trivial⟩) (fun h l=>qwz _ _ false ⟨h,l,trivial⟩)
theorem qo3(xs ys:List Done)(r:Bool)(h:decide (xs=ys)=r)(hx0:xs.length≤8388608):Rt 204 [.one (.sl 2 (xs.map Done.e)),.one (.sl 2 (ys.map Done.e))] [.one (B r)]:=h▸qx2 xs ys hx0
theorem qx3(x y:Token):Rt 129 [.agg x.e,.agg y.e] [.one (B (decide (x=y)))]:=by
 obtain⟨a0,a1,a2,a3,a4⟩:=x
 obtain⟨b0,b1,b2,b3,b4⟩:=y
 by_cases h0:a0=b0
 case neg=>
  rw[zt (by simp[h0])]
  exact qwB ⟨by revert h0;cases a0<;>cases b0<;>simp,trivial⟩
 by_cases h1:a1=b1
 case neg=>
  rw[zt (by simp[h1])]
  exact qwC ⟨by revert h0;cases a0<;>cases b0<;>simp,by simp[h1],trivial⟩
 by_cases h2:a2=b2
 case neg=>
  rw[zt (by simp[h2])]
  exact qwD ⟨by revert h0;cases a0<;>cases b0<;>simp,by simp[h1],by simp[h2],trivial⟩
 by_cases h3:a3=b3
 case neg=>
  rw[zt (by simp[h3])]
  exact qwE ⟨by revert h0;cases a0<;>cases b0<;>simp,by simp[h1],by simp[h2],by revert h3;cases a3<;>cases b3<;>simp,trivial⟩
 by_cases h4:a4=b4
 case neg=>
  rw[zt (by simp[h4])]
  exact qwF ⟨by revert h0;cases a0<;>cases b0<;>simp,by simp[h1],by simp[h2],by revert h3;cases a3<;>cases b3<;>simp,by revert h4;cases a4<;>cases b4<;>simp,trivial⟩
 rw[zap (by simp[h0,h1,h2,h3,h4])]
 exact qwG ⟨by revert h0;cases a0<;>cases b0<;>simp,by simp[h1],by simp[h2],by revert h3;cases a3<;>cases b3<;>simp,by revert h4;cases a4<;>cases b4<;>simp,trivial⟩
theorem qo4(x y:Token)(r:Bool)(h:decide (x=y)=r):Rt 129 [.agg x.e,.agg y.e] [.one (B r)]:=h▸qx3 x y
theorem qx4(xs ys:List Token)(hx0:xs.length≤8388608):Rt 69 [.one (.sl 5 (xs.map Token.e)),.one (.sl 5 (ys.map Token.e))] [.one (B (decide (xs=ys)))]:=by
 have hx:xs.length≤8388608:=hx0
 exact eqL (e:=Token.e) (st:=fun i=>qeL (xs.map Token.e) (ys.map Token.e) i) (fun h=>qwH ⟨h,trivial⟩)
  (fun i a ha hb hi hj=>qwJ ⟨lt1 hi,lt0,lt2 hi,qac Token.e ha,lt0,lt2 hj,qac Token.e hb,qo4 a a true (by simp),rfl,up1 hi hx,trivial⟩)
  (fun i a b ha hb hab hi hj=>qwI ⟨lt1 hi,lt0,lt2 hi,qac Token.e ha,lt0,lt2 hj,qac Token.e hb,qo4 a b false (by simp[hab]),rfl,trivial⟩)
  (qwK ⟨ge1,trivial⟩) (fun h l=>qwM ⟨h,l,trivial⟩) (fun h l=>qwL _ _ false ⟨h,l,trivial⟩)
theorem qkU(xs ys:List Token)(r:Bool)(h:decide (xs=ys)=r)(hx0:xs.length≤8388608):Rt 69 [.one (.sl 5 (xs.map Token.e)),.one (.sl 5 (ys.map Token.e))] [.one (B r)]:=h▸qx4 xs ys hx0
theorem qx5(x y:News):Rt 130 [.agg x.e,.agg y.e] [.one (B (decide (x=y)))]:=by
 obtain⟨a0,a1,a2⟩:=x
 obtain⟨b0,b1,b2⟩:=y
 by_cases h0:a0=b0
 case neg=>
  rw[zt (by simp[h0])]
  exact qwN ⟨by simp[h0],trivial⟩
 by_cases h1:a1=b1
 case neg=>
  rw[zt (by simp[h1])]
  exact qwO ⟨by simp[h0],by simp[h1],trivial⟩
 by_cases h2:a2=b2
 case neg=>
  rw[zt (by simp[h2])]
  exact qwP ⟨by simp[h0],by simp[h1],by revert h2;cases a2<;>cases b2<;>simp,trivial⟩
 rw[zap (by simp[h0,h1,h2])]
 exact qwQ ⟨by simp[h0],by simp[h1],by revert h2;cases a2<;>cases b2<;>simp,trivial⟩
theorem qo5(x y:News)(r:Bool)(h:decide (x=y)=r):Rt 130 [.agg x.e,.agg y.e] [.one (B r)]:=h▸qx5 x y
theorem qx6(xs ys:List News)(hx0:xs.length≤8388608):Rt 70 [.one (.sl 3 (xs.map News.e)),.one (.sl 3 (ys.map News.e))] [.one (B (decide (xs=ys)))]:=by
 have hx:xs.length≤8388608:=hx0
 exact eqL (e:=News.e) (st:=fun i=>qeM (xs.map News.e) (ys.map News.e) i) (fun h=>qwR ⟨h,trivial⟩)
  (fun i a ha hb hi hj=>qwT ⟨lt1 hi,lt0,lt2 hi,qac News.e ha,lt0,lt2 hj,qac News.e hb,qo5 a a true (by simp),rfl,up1 hi hx,trivial⟩)
  (fun i a b ha hb hab hi hj=>qwS ⟨lt1 hi,lt0,lt2 hi,qac News.e ha,lt0,lt2 hj,qac News.e hb,qo5 a b false (by simp[hab]),rfl,trivial⟩)
  (qwU ⟨ge1,trivial⟩) (fun h l=>qwW ⟨h,l,trivial⟩) (fun h l=>qwV _ _ false ⟨h,l,trivial⟩)
theorem qo6(xs ys:List News)(r:Bool)(h:decide (xs=ys)=r)(hx0:xs.length≤8388608):Rt 70 [.one (.sl 3 (xs.map News.e)),.one (.sl 3 (ys.map News.e))] [.one (B r)]:=h▸qx6 xs ys hx0
theorem qya(x y:Node)(hx:x.sz≤8388608):Rt 179 [.agg x.e,.agg y.e] [.one (B (decide (x=y)))]:=by
 obtain⟨a0,a1,a2,a3⟩:=x
 obtain⟨b0,b1,b2,b3⟩:=y
 simp only[Node.sz]at hx
 by_cases h0:a0=b0
 case neg=>
  rw[zt (by simp[h0])]
  exact qwX ⟨by simp[h0],trivial⟩
 by_cases h1:a1=b1
 case neg=>
  rw[zt (by simp[h1])]
  exact qwY ⟨by simp[h0],by simp[h1],trivial⟩
 by_cases h2:a2=b2
 case neg=>
  rw[zt (by simp[h2])]
  exact qwZ ⟨by simp[h0],by simp[h1],by simp[h2],trivial⟩
 by_cases h3:a3=b3
 case neg=>
  rw[zt (by simp[h3])]
  exact qw0 ⟨by simp[h0],by simp[h1],by simp[h2],qeR a3 b3 false (by simp[h3]) (by omega),rfl,trivial⟩
 rw[zap (by simp[h0,h1,h2,h3])]
 exact qw1 ⟨by simp[h0],by simp[h1],by simp[h2],qeR a3 b3 true (by simp[h3]) (by omega),rfl,trivial⟩
theorem qo8(x y:Node)(r:Bool)(h:decide (x=y)=r)(hx:x.sz≤8388608):Rt 179 [.agg x.e,.agg y.e] [.one (B r)]:=h▸qya x y hx
theorem qyb(xs ys:List Node)(hx0:szS Node.sz xs≤8388608):Rt 107 [.one (.sl 4 (xs.map Node.e)),.one (.sl 4 (ys.map Node.e))] [.one (B (decide (xs=ys)))]:=by
 have hx:xs.length≤8388608:=qf8 hx0
 exact eqL (e:=Node.e) (st:=fun i=>qeN (xs.map Node.e) (ys.map Node.e) i) (fun h=>qw2 ⟨h,trivial⟩)
  (fun i a ha hb hi hj=>qw4 ⟨lt1 hi,lt0,lt2 hi,qac Node.e ha,lt0,lt2 hj,qac Node.e hb,qo8 a a true (by simp) (qcs hx0 (qas ha)),rfl,up1 hi hx,trivial⟩)
  (fun i a b ha hb hab hi hj=>qw3 ⟨lt1 hi,lt0,lt2 hi,qac Node.e ha,lt0,lt2 hj,qac Node.e hb,qo8 a b false (by simp[hab]) (qcs hx0 (qas ha)),rfl,trivial⟩)
  (qw5 ⟨ge1,trivial⟩) (fun h l=>qw7 ⟨h,l,trivial⟩) (fun h l=>qw6 _ _ false ⟨h,l,trivial⟩)
theorem qiJ(xs ys:List Node)(r:Bool)(h:decide (xs=ys)=r)(hx0:szS Node.sz xs≤8388608):Rt 107 [.one (.sl 4 (xs.map Node.e)),.one (.sl 4 (ys.map Node.e))] [.one (B r)]:=h▸qyb xs ys hx0
theorem qyc(x y:Link)(hx:x.sz≤8388608):Rt 128 [.agg x.e,.agg y.e] [.one (B (decide (x=y)))]:=by
 obtain⟨a0,a1,a2,a3,a4,a5⟩:=x
 obtain⟨b0,b1,b2,b3,b4,b5⟩:=y
 simp only[Link.sz]at hx
 by_cases h0:a0=b0
 case neg=>
  rw[zt (by simp[h0])]
  exact qw8 ⟨by simp[h0],trivial⟩
 by_cases h1:a1=b1
 case neg=>
  rw[zt (by simp[h1])]
  exact qw9 ⟨by simp[h0],qa1 a1 b1 false (by simp[h1]) (by omega),rfl,trivial⟩
 by_cases h2:a2=b2
 case neg=>
  rw[zt (by simp[h2])]
  exact qxa ⟨by simp[h0],qa1 a1 b1 true (by simp[h1]) (by omega),rfl,by simp[h2],trivial⟩
 by_cases h3:a3=b3
 case neg=>
  rw[zt (by simp[h3])]
  exact qxb ⟨by simp[h0],qa1 a1 b1 true (by simp[h1]) (by omega),rfl,by simp[h2],by simp[h3],trivial⟩
 by_cases h4:a4=b4
 case neg=>
  rw[zt (by simp[h4])]
  exact qxc ⟨by simp[h0],qa1 a1 b1 true (by simp[h1]) (by omega),rfl,by simp[h2],by simp[h3],by simp[h4],trivial⟩
 by_cases h5:a5=b5
 case neg=>
  rw[zt (by simp[h5])]
  exact qxd ⟨by simp[h0],qa1 a1 b1 true (by simp[h1]) (by omega),rfl,by simp[h2],by simp[h3],by simp[h4],by simp[h5],trivial⟩
 rw[zap (by simp[h0,h1,h2,h3,h4,h5])]
 exact qxe ⟨by simp[h0],qa1 a1 b1 true (by simp[h1]) (by omega),rfl,by simp[h2],by simp[h3],by simp[h4],by simp[h5],trivial⟩
theorem qo9(x y:Link)(r:Bool)(h:decide (x=y)=r)(hx:x.sz≤8388608):Rt 128 [.agg x.e,.agg y.e] [.one (B r)]:=h▸qyc x y hx
theorem qyd(xs ys:List Link)(hx0:szS Link.sz xs≤8388608):Rt 68 [.one (.sl 6 (xs.map Link.e)),.one (.sl 6 (ys.map Link.e))] [.one (B (decide (xs=ys)))]:=by
 have hx:xs.length≤8388608:=qf8 hx0
 exact eqL (e:=Link.e) (st:=fun i=>qeO (xs.map Link.e) (ys.map Link.e) i) (fun h=>qxf ⟨h,trivial⟩)
  (fun i a ha hb hi hj=>qxh ⟨lt1 hi,lt0,lt2 hi,qac Link.e ha,lt0,lt2 hj,qac Link.e hb,qo9 a a true (by simp) (qcs hx0 (qas ha)),rfl,up1 hi hx,trivial⟩)
  (fun i a b ha hb hab hi hj=>qxg ⟨lt1 hi,lt0,lt2 hi,qac Link.e ha,lt0,lt2 hj,qac Link.e hb,qo9 a b false (by simp[hab]) (qcs hx0 (qas ha)),rfl,trivial⟩)
  (qxi ⟨ge1,trivial⟩) (fun h l=>qxk ⟨h,l,trivial⟩) (fun h l=>qxj _ _ false ⟨h,l,trivial⟩)
theorem qiK(xs ys:List Link)(r:Bool)(h:decide (xs=ys)=r)(hx0:szS Link.sz xs≤8388608):Rt 68 [.one (.sl 6 (xs.map Link.e)),.one (.sl 6 (ys.map Link.e))] [.one (B r)]:=h▸qyd xs ys hx0
theorem qye(x y:Graph)(hx:x.sz≤8388608):Rt 45 [.agg x.e,.agg y.e] [.one (B (decide (x=y)))]:=by
 obtain⟨a0,a1,a2⟩:=x
 obtain⟨b0,b1,b2⟩:=y
 simp only[Graph.sz]at hx
 by_cases h0:a0=b0
 case neg=>
  rw[zt (by simp[h0])]
  exact qxl ⟨qiJ a0 b0 false (by simp[h0]) (by omega),rfl,trivial⟩
 by_cases h1:a1=b1
 case neg=>
  rw[zt (by simp[h1])]
  exact qxm ⟨qiJ a0 b0 true (by simp[h0]) (by omega),rfl,by simp[h1],trivial⟩
 by_cases h2:a2=b2
 case neg=>
  rw[zt (by simp[h2])]
  exact qxn ⟨qiJ a0 b0 true (by simp[h0]) (by omega),rfl,by simp[h1],by simp[h2],trivial⟩
 rw[zap (by simp[h0,h1,h2])]
 exact qxo ⟨qiJ a0 b0 true (by simp[h0]) (by omega),rfl,by simp[h1],by simp[h2],trivial⟩
theorem qgc(x y:Graph)(r:Bool)(h:decide (x=y)=r)(hx:x.sz≤8388608):Rt 45 [.agg x.e,.agg y.e] [.one (B r)]:=h▸qye x y hx
theorem qyf(x y:Worker)(hx:x.sz≤8388608):Rt 127 [.agg x.e,.agg y.e] [.one (B (decide (x=y)))]:=by
 obtain⟨a0,a1,a2,a3,a4,a5,a6,a7⟩:=x
 obtain⟨b0,b1,b2,b3,b4,b5,b6,b7⟩:=y
 simp only[Worker.sz]at hx
 by_cases h0:a0=b0
 case neg=>
  rw[zt (by simp[h0])]
  exact qxp ⟨qa1 a0 b0 false (by simp[h0]) (by omega),rfl,trivial⟩
 by_cases h1:a1=b1
 case neg=>
  rw[zt (by simp[h1])]
  exact qxq ⟨qa1 a0 b0 true (by simp[h0]) (by omega),rfl,qa1 a1 b1 false (by simp[h1]) (by omega),rfl,trivial⟩
 by_cases h2:a2=b2
 case neg=>
  rw[zt (by simp[h2])]
  exact qxr ⟨qa1 a0 b0 true (by simp[h0]) (by omega),rfl,qa1 a1 b1 true (by simp[h1]) (by omega),rfl,qa1 a2 b2 false (by simp[h2]) (by omega),rfl,trivial⟩
 by_cases h3:a3=b3
 case neg=>
  rw[zt (by simp[h3])]
  exact qxs ⟨qa1 a0 b0 true (by simp[h0]) (by omega),rfl,qa1 a1 b1 true (by simp[h1]) (by omega),rfl,qa1 a2 b2 true (by simp[h2]) (by omega),rfl,qgb a3 b3 false (by simp[h3]) (by omega),rfl,trivial⟩
 by_cases h4:a4=b4
 case neg=>
  rw[zt (by simp[h4])]
  exact qxt ⟨qa1 a0 b0 true (by simp[h0]) (by omega),rfl,qa1 a1 b1 true (by simp[h1]) (by omega),rfl,qa1 a2 b2 true (by simp[h2]) (by omega),rfl,qgb a3 b3 true (by simp[h3]) (by omega),rfl,qeR a4 b4 false (by simp[h4]) (by omega),rfl,trivial⟩
 by_cases h5:a5=b5
 case neg=>
  rw[zt (by simp[h5])]
  exact qxu ⟨qa1 a0 b0 true (by simp[h0]) (by omega),rfl,qa1 a1 b1 true (by simp[h1]) (by omega),rfl,qa1 a2 b2 true (by simp[h2]) (by omega),rfl,qgb a3 b3 true (by simp[h3]) (by omega),rfl,qeR a4 b4 true (by simp[h4]) (by omega),rfl,qdW a5 b5 false (by simp[h5]) (by omega),rfl,trivial⟩
 by_cases h6:a6=b6
 case neg=>
  rw[zt (by simp[h6])]
  exact qxv ⟨qa1 a0 b0 true (by simp[h0]) (by omega),rfl,qa1 a1 b1 true (by simp[h1]) (by omega),rfl,qa1 a2 b2 true (by simp[h2]) (by omega),rfl,qgb a3 b3 true (by simp[h3]) (by omega),rfl,qeR a4 b4 true (by simp[h4]) (by omega),rfl,qdW a5 b5 true (by simp[h5]) (by omega),rfl,qdW a6 b6 false (by simp[h6]) (by omega),rfl,trivial⟩
 by_cases h7:a7=b7
 case neg=>
  rw[zt (by simp[h7])]
  exact qxw ⟨qa1 a0 b0 true (by simp[h0]) (by omega),rfl,qa1 a1 b1 true (by simp[h1]) (by omega),rfl,qa1 a2 b2 true (by simp[h2]) (by omega),rfl,qgb a3 b3 true (by simp[h3]) (by omega),rfl,qeR a4 b4 true (by simp[h4]) (by omega),rfl,qdW a5 b5 true (by simp[h5]) (by omega),rfl,qdW a6 b6 true (by simp[h6]) (by omega),rfl,qo3 a7 b7 false (by simp[h7]) (by omega),rfl,trivial⟩
 rw[zap (by simp[h0,h1,h2,h3,h4,h5,h6,h7])]
 exact qxx ⟨qa1 a0 b0 true (by simp[h0]) (by omega),rfl,qa1 a1 b1 true (by simp[h1]) (by omega),rfl,qa1 a2 b2 true (by simp[h2]) (by omega),rfl,qgb a3 b3 true (by simp[h3]) (by omega),rfl,qeR a4 b4 true (by simp[h4]) (by omega),rfl,qdW a5 b5 true (by simp[h5]) (by omega),rfl,qdW a6 b6 true (by simp[h6]) (by omega),rfl,qo3 a7 b7 true (by simp[h7]) (by omega),rfl,trivial⟩
theorem qpa(x y:Worker)(r:Bool)(h:decide (x=y)=r)(hx:x.sz≤8388608):Rt 127 [.agg x.e,.agg y.e] [.one (B r)]:=h▸qyf x y hx
theorem qyg(xs ys:List Worker)(hx0:szS Worker.sz xs≤8388608):Rt 67 [.one (.sl 8 (xs.map Worker.e)),.one (.sl 8 (ys.map Worker.e))] [.one (B (decide (xs=ys)))]:=by
 have hx:xs.length≤8388608:=qf8 hx0
 exact eqL (e:=Worker.e) (st:=fun i=>qeP (xs.map Worker.e) (ys.map Worker.e) i) (fun h=>qxy ⟨h,trivial⟩)
  (fun i a ha hb hi hj=>qxA ⟨lt1 hi,lt0,lt2 hi,qac Worker.e ha,lt0,lt2 hj,qac Worker.e hb,qpa a a true (by simp) (qcs hx0 (qas ha)),rfl,up1 hi hx,trivial⟩)
  (fun i a b ha hb hab hi hj=>qxz ⟨lt1 hi,lt0,lt2 hi,qac Worker.e ha,lt0,lt2 hj,qac Worker.e hb,qpa a b false (by simp[hab]) (qcs hx0 (qas ha)),rfl,trivial⟩)
  (qxB ⟨ge1,trivial⟩) (fun h l=>qxD ⟨h,l,trivial⟩) (fun h l=>qxC _ _ false ⟨h,l,trivial⟩)
theorem qhk(xs ys:List Worker)(r:Bool)(h:decide (xs=ys)=r)(hx0:szS Worker.sz xs≤8388608):Rt 67 [.one (.sl 8 (xs.map Worker.e)),.one (.sl 8 (ys.map Worker.e))] [.one (B r)]:=h▸qyg xs ys hx0
theorem qyh(x y:Cluster)(hx:x.sz≤8388608):Rt 15 [.agg x.e,.agg y.e] [.one (B (decide (x=y)))]:=by
 obtain⟨a0,a1,a2,a3,a4⟩:=x
 obtain⟨b0,b1,b2,b3,b4⟩:=y
 simp only[Cluster.sz]at hx
 by_cases h0:a0=b0
 case neg=>
  rw[zt (by simp[h0])]
  exact qxE ⟨qgc a0 b0 false (by simp[h0]) (by omega),rfl,trivial⟩
 by_cases h1:a1=b1
 case neg=>
  rw[zt (by simp[h1])]
  exact qxF ⟨qgc a0 b0 true (by simp[h0]) (by omega),rfl,qhk a1 b1 false (by simp[h1]) (by omega),rfl,trivial⟩
 by_cases h2:a2=b2
 case neg=>
  rw[zt (by simp[h2])]
  exact qxG ⟨qgc a0 b0 true (by simp[h0]) (by omega),rfl,qhk a1 b1 true (by simp[h1]) (by omega),rfl,qiK a2 b2 false (by simp[h2]) (by omega),rfl,trivial⟩
 by_cases h3:a3=b3
 case neg=>
  rw[zt (by simp[h3])]
  exact qxH ⟨qgc a0 b0 true (by simp[h0]) (by omega),rfl,qhk a1 b1 true (by simp[h1]) (by omega),rfl,qiK a2 b2 true (by simp[h2]) (by omega),rfl,qkU a3 b3 false (by simp[h3]) (by omega),rfl,trivial⟩
 by_cases h4:a4=b4
 case neg=>
  rw[zt (by simp[h4])]
  exact qxI ⟨qgc a0 b0 true (by simp[h0]) (by omega),rfl,qhk a1 b1 true (by simp[h1]) (by omega),rfl,qiK a2 b2 true (by simp[h2]) (by omega),rfl,qkU a3 b3 true (by simp[h3]) (by omega),rfl,qo6 a4 b4 false (by simp[h4]) (by omega),rfl,trivial⟩
 rw[zap (by simp[h0,h1,h2,h3,h4])]
 exact qxJ ⟨qgc a0 b0 true (by simp[h0]) (by omega),rfl,qhk a1 b1 true (by simp[h1]) (by omega),rfl,qiK a2 b2 true (by simp[h2]) (by omega),rfl,qkU a3 b3 true (by simp[h3]) (by omega),rfl,qo6 a4 b4 true (by simp[h4]) (by omega),rfl,trivial⟩
theorem qdC(x y:Cluster)(r:Bool)(h:decide (x=y)=r)(hx:x.sz≤8388608):Rt 15 [.agg x.e,.agg y.e] [.one (B r)]:=h▸qyh x y hx
end Go.Proofs.YtdanpadojemjeaaGreat
