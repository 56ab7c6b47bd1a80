/- The functions sz.. (printed by gentypes.py) -/
import Derived.Test.YtenekpkjlgddnaaDoorB0
import Derived.Test.YtenekpkjlgddnaaDoorGA
set_option linter.unusedVariables false
set_option linter.unusedSimpArgs false
namespace Go.Proofs.YtenekpkjlgddnaaDoor
open Go.Sx Go.RowKit
theorem qjs(xs:List Int)(n:Int)(h0:0≤n)(h1:n≤8388608)(hl:(xs.length:Int)≤9223372036854775807):Rt 19 [.one (.sl 1 (xs.map eI)),.one (I n)] [.one (I (qaH n xs.length))]:=by
 have e:(xs.map eI).length=xs.length:=zb ..
 rw[←e]
 rw[←e]at hl
 unfold qaH
 split
 ·exact qje ⟨⟨by omega,by omega⟩,by simp only[zf];omega,trivial⟩
 ·exact qjd ⟨⟨by omega,by omega⟩,by simp only[zi];omega,trivial⟩
theorem qhb(xs:List Bool)(n:Int)(h0:0≤n)(h1:n≤8388608)(hl:(xs.length:Int)≤9223372036854775807):Rt 20 [.one (.sl 1 (xs.map eB)),.one (I n)] [.one (I (qaH n xs.length))]:=by
 have e:(xs.map eB).length=xs.length:=zb ..
 rw[←e]
 rw[←e]at hl
 unfold qaH
 split
 ·exact qjg ⟨⟨by omega,by omega⟩,by simp only[zf];omega,trivial⟩
 ·exact qjf ⟨⟨by omega,by omega⟩,by simp only[zi];omega,trivial⟩
theorem qfg(xs:List Record)(n:Int)(h0:0≤n)(h1:n≤8388608)(hl:(xs.length:Int)≤9223372036854775807):Rt 17 [.one (.sl 5 (xs.map Record.e)),.one (I n)] [.one (I (qaH n xs.length))]:=by
 have e:(xs.map Record.e).length=xs.length:=zb ..
 rw[←e]
 rw[←e]at hl
 unfold qaH
 split
 ·exact qja ⟨⟨by omega,by omega⟩,by simp only[zf];omega,trivial⟩
 ·exact qi9 ⟨⟨by omega,by omega⟩,by simp only[zi];omega,trivial⟩
theorem qjt(xs:List Cell)(n:Int)(h0:0≤n)(h1:n≤8388608)(hl:(xs.length:Int)≤9223372036854775807):Rt 18 [.one (.sl 4 (xs.map Cell.e)),.one (I n)] [.one (I (qaH n xs.length))]:=by
 have e:(xs.map Cell.e).length=xs.length:=zb ..
 rw[←e]
 rw[←e]at hl
 unfold qaH
 split
 ·exact qjc ⟨⟨by omega,by omega⟩,by simp only[zf];omega,trivial⟩
 ·exact qjb ⟨⟨by omega,by omega⟩,by simp only[zi];omega,trivial⟩
theorem qju(xs:List Done)(n:Int)(h0:0≤n)(h1:n≤8388608)(hl:(xs.length:Int)≤9223372036854775807):Rt 21 [.one (.sl 2 (xs.map Done.e)),.one (I n)] [.one (I (qaH n xs.length))]:=by
 have e:(xs.map Done.e).length=xs.length:=zb ..
 rw[←e]
 rw[←e]at hl
 unfold qaH
 split
 ·exact qji ⟨⟨by omega,by omega⟩,by simp only[zf];omega,trivial⟩
 ·exact qjh ⟨⟨by omega,by omega⟩,by simp only[zi];omega,trivial⟩
theorem qjv(x:Worker)(n:Int)(h0:0≤n)(h1:n≤8388608)(hw:x.wf):Rt 8 [.agg x.e,.one (I n)] [.one (I (qaH n x.sz))]:=by
 have r0:=qfg x.queue (n) (by omega) (by omega) hw.queue_ok.1
 by_cases c0:((x.queue.length:Nat):Int)≤n
 case neg=>
  rw[qav (by omega)]at r0
  rw[qav (by simp only[Worker.sz];omega)]
  exact qjj ⟨r0,rfl,trivial⟩
 rw[qbf c0]at r0
 have r1:=qfg x.staged (n-((x.queue.length:Nat):Int)) (by omega) (by omega) hw.staged_ok.1
 by_cases c1:((x.staged.length:Nat):Int)≤n-((x.queue.length:Nat):Int)
 case neg=>
  rw[qav (by omega)]at r1
  rw[qav (by simp only[Worker.sz];omega)]
  exact qjk ⟨r0,by simp only[zf];omega,r1,rfl,trivial⟩
 rw[qbf c1]at r1
 have r2:=qfg x.inputs (n-((x.queue.length:Nat):Int)-((x.staged.length:Nat):Int)) (by omega) (by omega) hw.inputs_ok.1
 by_cases c2:((x.inputs.length:Nat):Int)≤n-((x.queue.length:Nat):Int)-((x.staged.length:Nat):Int)
 case neg=>
  rw[qav (by omega)]at r2
  rw[qav (by simp only[Worker.sz];omega)]
  exact qjl ⟨r0,by simp only[zf];omega,r1,by simp only[zf];omega,r2,rfl,trivial⟩
 rw[qbf c2]at r2
 have r3:=qjt x.cells (n-((x.queue.length:Nat):Int)-((x.staged.length:Nat):Int)-((x.inputs.length:Nat):Int)) (by omega) (by omega) hw.cells_ok.1
 by_cases c3:((x.cells.length:Nat):Int)≤n-((x.queue.length:Nat):Int)-((x.staged.length:Nat):Int)-((x.inputs.length:Nat):Int)
 case neg=>
  rw[qav (by omega)]at r3
  rw[qav (by simp only[Worker.sz];omega)]
  exact qjm ⟨r0,by simp only[zf];omega,r1,by simp only[zf];omega,r2,by simp only[zf];omega,r3,rfl,trivial⟩
 rw[qbf c3]at r3
 have r4:=qjs x.sums (n-((x.queue.length:Nat):Int)-((x.staged.length:Nat):Int)-((x.inputs.length:Nat):Int)-((x.cells.length:Nat):Int)) (by omega) (by omega) hw.sums_ok.1
 by_cases c4:((x.sums.length:Nat):Int)≤n-((x.queue.length:Nat):Int)-((x.staged.length:Nat):Int)-((x.inputs.length:Nat):Int)-((x.cells.length:Nat):Int)
 case neg=>
  rw[qav (by omega)]at r4
  rw[qav (by simp only[Worker.sz];omega)]
  exact qjn ⟨r0,by simp only[zf];omega,r1,by simp only[zf];omega,r2,by simp only[zf];omega,r3,by simp only[zf];omega,r4,rfl,trivial⟩
 rw[qbf c4]at r4
 have r5:=qhb x.black (n-((x.queue.length:Nat):Int)-((x.staged.length:Nat):Int)-((x.inputs.length:Nat):Int)-((x.cells.length:Nat):Int)-((x.sums.length:Nat):Int)) (by omega) (by omega) hw.black_ok
 by_cases c5:((x.black.length:Nat):Int)≤n-((x.queue.length:Nat):Int)-((x.staged.length:Nat):Int)-((x.inputs.length:Nat):Int)-((x.cells.length:Nat):Int)-((x.sums.length:Nat):Int)
 case neg=>
  rw[qav (by omega)]at r5
  rw[qav (by simp only[Worker.sz];omega)]
  exact qjo ⟨r0,by simp only[zf];omega,r1,by simp only[zf];omega,r2,by simp only[zf];omega,r3,by simp only[zf];omega,r4,by simp only[zf];omega,r5,rfl,trivial⟩
 rw[qbf c5]at r5
 have r6:=qhb x.caps (n-((x.queue.length:Nat):Int)-((x.staged.length:Nat):Int)-((x.inputs.length:Nat):Int)-((x.cells.length:Nat):Int)-((x.sums.length:Nat):Int)-((x.black.length:Nat):Int)) (by omega) (by omega) hw.caps_ok
 by_cases c6:((x.caps.length:Nat):Int)≤n-((x.queue.length:Nat):Int)-((x.staged.length:Nat):Int)-((x.inputs.length:Nat):Int)-((x.cells.length:Nat):Int)-((x.sums.length:Nat):Int)-((x.black.length:Nat):Int)
 case neg=>
  rw[qav (by omega)]at r6
  rw[qav (by simp only[Worker.sz];omega)]
  exact qjp ⟨r0,by simp only[zf];omega,r1,by simp only[zf];omega,r2,by simp only[zf];omega,r3,by simp only[zf];omega,r4,by simp only[zf];omega,r5,by simp only[zf];omega,r6,rfl,trivial⟩
 rw[qbf c6]at r6
 have r7:=qju x.dones (n-((x.queue.length:Nat):Int)-((x.staged.length:Nat):Int)-((x.inputs.length:Nat):Int)-((x.cells.length:Nat):Int)-((x.sums.length:Nat):Int)-((x.black.length:Nat):Int)-((x.caps.length:Nat):Int)) (by omega) (by omega) hw.dones_ok.1
 by_cases c7:((x.dones.length:Nat):Int)≤n-((x.queue.length:Nat):Int)-((x.staged.length:Nat):Int)-((x.inputs.length:Nat):Int)-((x.cells.length:Nat):Int)-((x.sums.length:Nat):Int)-((x.black.length:Nat):Int)-((x.caps.length:Nat):Int)
 case neg=>
  rw[qav (by omega)]at r7
  rw[qav (by simp only[Worker.sz];omega)]
  exact qjq ⟨r0,by simp only[zf];omega,r1,by simp only[zf];omega,r2,by simp only[zf];omega,r3,by simp only[zf];omega,r4,by simp only[zf];omega,r5,by simp only[zf];omega,r6,by simp only[zf];omega,r7,rfl,trivial⟩
 rw[qbf c7]at r7
 have e:qaH n x.sz=n-((x.queue.length:Nat):Int)-((x.staged.length:Nat):Int)-((x.inputs.length:Nat):Int)-((x.cells.length:Nat):Int)-((x.sums.length:Nat):Int)-((x.black.length:Nat):Int)-((x.caps.length:Nat):Int)-((x.dones.length:Nat):Int):=by
  rw[qbf (by simp only[Worker.sz];omega)]
  simp only[Worker.sz]<;>omega
 rw[e]
 exact qjr ⟨r0,by simp only[zf];omega,r1,by simp only[zf];omega,r2,by simp only[zf];omega,r3,by simp only[zf];omega,r4,by simp only[zf];omega,r5,by simp only[zf];omega,r6,by simp only[zf];omega,r7,by simp only[zf];omega,trivial⟩
end Go.Proofs.YtenekpkjlgddnaaDoor
namespace Go.Proofs.YtenekpkjlgddnaaDoor
open Go.Sx Go.RowKit
theorem toL{α:Type}{P:Program}{c:Code}{e:α→List D}{z:List D}{xs:List α}{st:Nat→List (List D)→St}{X:St}
  (hs:∀i a,xs[i]?=some a→i<xs.length→Tr P c (st i (qaA e z xs i)) .normal (st (i+1) ((qaA e z xs i).set ((i:Nat):Int).toNat (e a))))
  (hx:Tr P c (st xs.length (xs.map e)) (.exit 0) X):qap P c (st 0 (List.replicate (xs.map e).length z)) (.exit 0) X:=by
 have l:=qcj (P:=P) (c:=c) (qci 0) xs.length (fun i=>st i (qaA e z xs i)) (fun i hi=>by
  obtain⟨a,ha⟩:=qdA hi
  have t:=hs i a ha hi
  rw[qiM ha]at t
  exact t) (stE:=X) (by rw[qiL];exact hx)
 rw[qiK]at l
 exact l
theorem qjQ(xs:List Int)(hx0:xs.length≤8388608):Rt 24 [.one (.sl 1 (xs.map eI))] [.one (.sl 1 (xs.map eI))]:=by
 have hx:xs.length≤8388608:=hx0
 exact qjH ⟨by omega,by omega,by simp only[zb];omega,by simp only[zb];omega,toL (e:=eI) (z:=[I 0]) (st:=fun i l=>qcO (xs.map eI) i l) (fun i a ha hi=>
  qjF _ _ _ _ _ ⟨lt1 hi,lt0,lt2 hi,qae eI ha,lt0,qcI hi,qcJ hi,up1 hi hx,trivial⟩) (qjG ⟨ge1,trivial⟩),trivial⟩
theorem qhh(xs:List Bool)(hx0:xs.length≤8388608):Rt 25 [.one (.sl 1 (xs.map eB))] [.one (.sl 1 (xs.map eB))]:=by
 have hx:xs.length≤8388608:=hx0
 exact qjK ⟨by omega,by omega,by simp only[zb];omega,by simp only[zb];omega,toL (e:=eB) (z:=[B false]) (st:=fun i l=>qcP (xs.map eB) i l) (fun i a ha hi=>
  qjI _ _ _ _ _ ⟨lt1 hi,lt0,lt2 hi,qae eB ha,lt0,qcI hi,qcJ hi,up1 hi hx,trivial⟩) (qjJ ⟨ge1,trivial⟩),trivial⟩
theorem qjR(x:Stamp):Rt 45 [.agg x.e] [.agg x.e]:=qjw trivial
theorem qjS(x:Record):Rt 35 [.agg x.e] [.agg x.e]:=qjx ⟨qjR x.stamp,trivial⟩
theorem qfh(xs:List Record)(hx0:xs.length≤8388608):Rt 22 [.one (.sl 5 (xs.map Record.e))] [.one (.sl 5 (xs.map Record.e))]:=by
 have hx:xs.length≤8388608:=hx0
 exact qjA ⟨by omega,by omega,by simp only[zb];omega,by simp only[zb];omega,toL (e:=Record.e) (z:=[I 0,I 0,I 0,I 0,I 0]) (st:=fun i l=>qcM (xs.map Record.e) i l) (fun i a ha hi=>
  qjy _ _ _ _ _ _ _ _ _ _ _ _ _ _ _ _ _ _ ⟨lt1 hi,lt0,lt2 hi,qae Record.e ha,qjS a,lt0,qcI hi,qcJ hi,up1 hi hx,trivial⟩) (qjz ⟨ge1,trivial⟩),trivial⟩
theorem qjT(x:Cell):Rt 36 [.agg x.e] [.agg x.e]:=qjB trivial
theorem qjU(xs:List Cell)(hx0:xs.length≤8388608):Rt 23 [.one (.sl 4 (xs.map Cell.e))] [.one (.sl 4 (xs.map Cell.e))]:=by
 have hx:xs.length≤8388608:=hx0
 exact qjE ⟨by omega,by omega,by simp only[zb];omega,by simp only[zb];omega,toL (e:=Cell.e) (z:=[I 0,I 0,I 0,I 0]) (st:=fun i l=>qcN (xs.map Cell.e) i l) (fun i a ha hi=>
  qjC _ _ _ _ _ _ _ _ _ _ _ _ _ _ _ ⟨lt1 hi,lt0,lt2 hi,qae Cell.e ha,qjT a,lt0,qcI hi,qcJ hi,up1 hi hx,trivial⟩) (qjD ⟨ge1,trivial⟩),trivial⟩
theorem qjV(x:Done):Rt 37 [.agg x.e] [.agg x.e]:=qjL trivial
theorem qjW(xs:List Done)(hx0:xs.length≤8388608):Rt 26 [.one (.sl 2 (xs.map Done.e))] [.one (.sl 2 (xs.map Done.e))]:=by
 have hx:xs.length≤8388608:=hx0
 exact qjO ⟨by omega,by omega,by simp only[zb];omega,by simp only[zb];omega,toL (e:=Done.e) (z:=[I 0,B false]) (st:=fun i l=>qcQ (xs.map Done.e) i l) (fun i a ha hi=>
  qjM _ _ _ _ _ _ _ _ _ ⟨lt1 hi,lt0,lt2 hi,qae Done.e ha,qjV a,lt0,qcI hi,qcJ hi,up1 hi hx,trivial⟩) (qjN ⟨ge1,trivial⟩),trivial⟩
theorem qjX(x:Worker)(hx:x.sz≤8388608):Rt 10 [.agg x.e] [.agg x.e]:=
 qjP ⟨qfh x.queue (by simp only[Worker.sz]at hx;omega),qfh x.staged (by simp only[Worker.sz]at hx;omega),qfh x.inputs (by simp only[Worker.sz]at hx;omega),qjU x.cells (by simp only[Worker.sz]at hx;omega),qjQ x.sums (by simp only[Worker.sz]at hx;omega),qhh x.black (by simp only[Worker.sz]at hx;omega),qhh x.caps (by simp only[Worker.sz]at hx;omega),qjW x.dones (by simp only[Worker.sz]at hx;omega),trivial⟩
end Go.Proofs.YtenekpkjlgddnaaDoor
namespace Go.Proofs.YtenekpkjlgddnaaDoor
open Go.Sx Go.RowKit
theorem eqL{α:Type}[DecidableEq α]{P:Program}{c:Code}{e:α→List D}{xs ys:List α}{st:Nat→St}{X Y:St}{f:Nat}{args:List AD}
  (h0:((↑(xs.map e).length:Int) != (↑(ys.map e).length:Int))=true→Ret P f args [.one (B false)])
  (hs:∀i a,xs[i]?=some a→ys[i]?=some a→i<xs.length→i<ys.length→Tr P c (st i) .normal (st (i+1)))
  (hd:∀i a b,xs[i]?=some a→ys[i]?=some b→a≠b→i<xs.length→i<ys.length→Tr P c (st i) .ret X)
  (he:Tr P c (st xs.length) (.exit 0) Y)
  (ht:((↑(xs.map e).length:Int) != (↑(ys.map e).length:Int))=false→qap P c (st 0) (.exit 0) Y→Ret P f args [.one (B true)])
  (hf:((↑(xs.map e).length:Int) != (↑(ys.map e).length:Int))=false→qap P c (st 0) .ret X→Ret P f args [.one (B false)]):Ret P f args [.one (B (decide (xs=ys)))]:=by
 by_cases hl:xs.length=ys.length
 case neg=>
  rw[zt (fun e=>hl (by rw[e]))]
  exact h0 (by simp only[zb,bne_iff_ne,zcc];omega)
 have hz:((↑(xs.map e).length:Int) != (↑(ys.map e).length:Int))=false:=by simp[hl]
 have step:∀i,i<xs.length→xs[i]?=ys[i]?→Tr P c (st i) .normal (st (i+1)):=by
  intro i hi h
  obtain⟨a,ha⟩:=qdA hi
  exact hs i a ha (h▸ha) hi (by omega)
 rcases qgQ xs ys hl with he' | ⟨i,a,b,ha,hb,hab,hlt⟩
 ·rw[zap he']
  exact ht hz (qcj (qci 0) xs.length st (fun i hi=>step i hi (by rw[he'])) he)
 ·rw[zt (fun e=>by rw[e,hb]at ha;exact hab (zx ha).symm)]
  have hi:=lt_of ha
  exact hf hz (qcj qiI i st (fun j hj=>step j (by omega) (hlt j hj)) (hd i a b ha hb hab hi (by omega)))
theorem qkR(xs ys:List Int)(hx0:xs.length≤8388608):Rt 30 [.one (.sl 1 (xs.map eI)),.one (.sl 1 (ys.map eI))] [.one (B (decide (xs=ys)))]:=by
 have hx:xs.length≤8388608:=hx0
 exact eqL (e:=eI) (st:=fun i=>qbW (xs.map eI) (ys.map eI) i) (fun h=>qkn ⟨h,trivial⟩)
  (fun i a ha hb hi hj=>qkp ⟨lt1 hi,lt0,lt2 hi,qae eI ha,lt0,lt2 hj,qae eI hb,by simp,up1 hi hx,trivial⟩)
  (fun i a b ha hb hab hi hj=>qko ⟨lt1 hi,lt0,lt2 hi,qae eI ha,lt0,lt2 hj,qae eI hb,by simp[hab],trivial⟩)
  (qkq ⟨ge1,trivial⟩) (fun h l=>qks ⟨h,l,trivial⟩) (fun h l=>qkr _ _ false ⟨h,l,trivial⟩)
theorem qcR(xs ys:List Int)(r:Bool)(h:decide (xs=ys)=r)(hx0:xs.length≤8388608):Rt 30 [.one (.sl 1 (xs.map eI)),.one (.sl 1 (ys.map eI))] [.one (B r)]:=h▸qkR xs ys hx0
theorem qkS(xs ys:List Bool)(hx0:xs.length≤8388608):Rt 31 [.one (.sl 1 (xs.map eB)),.one (.sl 1 (ys.map eB))] [.one (B (decide (xs=ys)))]:=by
 have hx:xs.length≤8388608:=hx0
 exact eqL (e:=eB) (st:=fun i=>qbX (xs.map eB) (ys.map eB) i) (fun h=>qkt ⟨h,trivial⟩)
  (fun i a ha hb hi hj=>qkv ⟨lt1 hi,lt0,lt2 hi,qae eB ha,lt0,lt2 hj,qae eB hb,by simp,up1 hi hx,trivial⟩)
  (fun i a b ha hb hab hi hj=>qku ⟨lt1 hi,lt0,lt2 hi,qae eB ha,lt0,lt2 hj,qae eB hb,by revert hab;cases a<;>cases b<;>simp,trivial⟩)
  (qkw ⟨ge1,trivial⟩) (fun h l=>qky ⟨h,l,trivial⟩) (fun h l=>qkx _ _ false ⟨h,l,trivial⟩)
theorem qbZ(xs ys:List Bool)(r:Bool)(h:decide (xs=ys)=r)(hx0:xs.length≤8388608):Rt 31 [.one (.sl 1 (xs.map eB)),.one (.sl 1 (ys.map eB))] [.one (B r)]:=h▸qkS xs ys hx0
theorem qkT(x y:Stamp):Rt 48 [.agg x.e,.agg y.e] [.one (B (decide (x=y)))]:=by
 obtain⟨a0,a1⟩:=x
 obtain⟨b0,b1⟩:=y
 by_cases h0:a0=b0
 case neg=>
  rw[zt (by simp[h0])]
  exact qjY ⟨by simp[h0],trivial⟩
 by_cases h1:a1=b1
 case neg=>
  rw[zt (by simp[h1])]
  exact qjZ ⟨by simp[h0],by simp[h1],trivial⟩
 rw[zap (by simp[h0,h1])]
 exact qj0 ⟨by simp[h0],by simp[h1],trivial⟩
theorem qdI(x y:Stamp)(r:Bool)(h:decide (x=y)=r):Rt 48 [.agg x.e,.agg y.e] [.one (B r)]:=h▸qkT x y
theorem qkU(x y:Record):Rt 41 [.agg x.e,.agg y.e] [.one (B (decide (x=y)))]:=by
 obtain⟨a0,a1,a2,a3⟩:=x
 obtain⟨b0,b1,b2,b3⟩:=y
 by_cases h0:a0=b0
 case neg=>
  rw[zt (by simp[h0])]
  exact qj1 ⟨by simp[h0],trivial⟩
 by_cases h1:a1=b1
 case neg=>
  rw[zt (by simp[h1])]
  exact qj2 ⟨by simp[h0],qdI a1 b1 false (by simp[h1]),rfl,trivial⟩
 by_cases h2:a2=b2
 case neg=>
  rw[zt (by simp[h2])]
  exact qj3 ⟨by simp[h0],qdI a1 b1 true (by simp[h1]),rfl,by simp[h2],trivial⟩
 by_cases h3:a3=b3
 case neg=>
  rw[zt (by simp[h3])]
  exact qj4 ⟨by simp[h0],qdI a1 b1 true (by simp[h1]),rfl,by simp[h2],by simp[h3],trivial⟩
 rw[zap (by simp[h0,h1,h2,h3])]
 exact qj5 ⟨by simp[h0],qdI a1 b1 true (by simp[h1]),rfl,by simp[h2],by simp[h3],trivial⟩
theorem qhs(x y:Record)(r:Bool)(h:decide (x=y)=r):Rt 41 [.agg x.e,.agg y.e] [.one (B r)]:=h▸qkU x y
theorem qkV(xs ys:List Record)(hx0:xs.length≤8388608):Rt 28 [.one (.sl 5 (xs.map Record.e)),.one (.sl 5 (ys.map Record.e))] [.one (B (decide (xs=ys)))]:=by
 have hx:xs.length≤8388608:=hx0
 exact eqL (e:=Record.e) (st:=fun i=>qbU (xs.map Record.e) (ys.map Record.e) i) (fun h=>qj6 ⟨h,trivial⟩)
  (fun i a ha hb hi hj=>qj8 ⟨lt1 hi,lt0,lt2 hi,qae Record.e ha,lt0,lt2 hj,qae Record.e hb,qhs a a true (by simp),rfl,up1 hi hx,trivial⟩)
  (fun i a b ha hb hab hi hj=>qj7 ⟨lt1 hi,lt0,lt2 hi,qae Record.e ha,lt0,lt2 hj,qae Record.e hb,qhs a b false (by simp[hab]),rfl,trivial⟩)
  (qj9 ⟨ge1,trivial⟩) (fun h l=>qkb ⟨h,l,trivial⟩) (fun h l=>qka _ _ false ⟨h,l,trivial⟩)
theorem qak(xs ys:List Record)(r:Bool)(h:decide (xs=ys)=r)(hx0:xs.length≤8388608):Rt 28 [.one (.sl 5 (xs.map Record.e)),.one (.sl 5 (ys.map Record.e))] [.one (B r)]:=h▸qkV xs ys hx0
theorem qkW(x y:Cell):Rt 42 [.agg x.e,.agg y.e] [.one (B (decide (x=y)))]:=by
 obtain⟨a0,a1,a2,a3⟩:=x
 obtain⟨b0,b1,b2,b3⟩:=y
 by_cases h0:a0=b0
 case neg=>
  rw[zt (by simp[h0])]
  exact qkc ⟨by simp[h0],trivial⟩
 by_cases h1:a1=b1
 case neg=>
  rw[zt (by simp[h1])]
  exact qkd ⟨by simp[h0],by simp[h1],trivial⟩
 by_cases h2:a2=b2
 case neg=>
  rw[zt (by simp[h2])]
  exact qke ⟨by simp[h0],by simp[h1],by simp[h2],trivial⟩
 by_cases h3:a3=b3
 case neg=>
  rw[zt (by simp[h3])]
  exact qkf ⟨by simp[h0],by simp[h1],by simp[h2],by simp[h3],trivial⟩
 rw[zap (by simp[h0,h1,h2,h3])]
 exact qkg ⟨by simp[h0],by simp[h1],by simp[h2],by simp[h3],trivial⟩
theorem qht(x y:Cell)(r:Bool)(h:decide (x=y)=r):Rt 42 [.agg x.e,.agg y.e] [.one (B r)]:=h▸qkW x y
theorem qkX(xs ys:List Cell)(hx0:xs.length≤8388608):Rt 29 [.one (.sl 4 (xs.map Cell.e)),.one (.sl 4 (ys.map Cell.e))] [.one (B (decide (xs=ys)))]:=by
 have hx:xs.length≤8388608:=hx0
 exact eqL (e:=Cell.e) (st:=fun i=>qbV (xs.map Cell.e) (ys.map Cell.e) i) (fun h=>qkh ⟨h,trivial⟩)
  (fun i a ha hb hi hj=>qkj ⟨lt1 hi,lt0,lt2 hi,qae Cell.e ha,lt0,lt2 hj,qae Cell.e hb,qht a a true (by simp),rfl,up1 hi hx,trivial⟩)
  (fun i a b ha hb hab hi hj=>qki ⟨lt1 hi,lt0,lt2 hi,qae Cell.e ha,lt0,lt2 hj,qae Cell.e hb,qht a b false (by simp[hab]),rfl,trivial⟩)
  (qkk ⟨ge1,trivial⟩) (fun h l=>qkm ⟨h,l,trivial⟩) (fun h l=>qkl _ _ false ⟨h,l,trivial⟩)
theorem qcm(xs ys:List Cell)(r:Bool)(h:decide (xs=ys)=r)(hx0:xs.length≤8388608):Rt 29 [.one (.sl 4 (xs.map Cell.e)),.one (.sl 4 (ys.map Cell.e))] [.one (B r)]:=h▸qkX xs ys hx0
theorem qkY(x y:Done):Rt 43 [.agg x.e,.agg y.e] [.one (B (decide (x=y)))]:=by
 obtain⟨a0,a1⟩:=x
 obtain⟨b0,b1⟩:=y
 by_cases h0:a0=b0
 case neg=>
  rw[zt (by simp[h0])]
  exact qkz ⟨by simp[h0],trivial⟩
 by_cases h1:a1=b1
 case neg=>
  rw[zt (by simp[h1])]
  exact qkA ⟨by simp[h0],by revert h1;cases a1<;>cases b1<;>simp,trivial⟩
 rw[zap (by simp[h0,h1])]
 exact qkB ⟨by simp[h0],by revert h1;cases a1<;>cases b1<;>simp,trivial⟩
theorem qhu(x y:Done)(r:Bool)(h:decide (x=y)=r):Rt 43 [.agg x.e,.agg y.e] [.one (B r)]:=h▸qkY x y
theorem qkZ(xs ys:List Done)(hx0:xs.length≤8388608):Rt 32 [.one (.sl 2 (xs.map Done.e)),.one (.sl 2 (ys.map Done.e))] [.one (B (decide (xs=ys)))]:=by
 have hx:xs.length≤8388608:=hx0
 exact eqL (e:=Done.e) (st:=fun i=>qbY (xs.map Done.e) (ys.map Done.e) i) (fun h=>qkC ⟨h,trivial⟩)
  (fun i a ha hb hi hj=>qkE ⟨lt1 hi,lt0,lt2 hi,qae Done.e ha,lt0,lt2 hj,qae Done.e hb,qhu a a true (by simp),rfl,up1 hi hx,trivial⟩)
  (fun i a b ha hb hab hi hj=>qkD ⟨lt1 hi,lt0,lt2 hi,qae Done.e ha,lt0,lt2 hj,qae Done.e hb,qhu a b false (by simp[hab]),rfl,trivial⟩)
  (qkF ⟨ge1,trivial⟩) (fun h l=>qkH ⟨h,l,trivial⟩) (fun h l=>qkG _ _ false ⟨h,l,trivial⟩)
theorem qhv(xs ys:List Done)(r:Bool)(h:decide (xs=ys)=r)(hx0:xs.length≤8388608):Rt 32 [.one (.sl 2 (xs.map Done.e)),.one (.sl 2 (ys.map Done.e))] [.one (B r)]:=h▸qkZ xs ys hx0
theorem qk0(x y:Worker)(hx:x.sz≤8388608):Rt 12 [.agg x.e,.agg y.e] [.one (B (decide (x=y)))]:=by
 obtain⟨a0,a1,a2,a3,a4,a5,a6,a7⟩:=x
 obtain⟨b0,b1,b2,b3,b4,b5,b6,b7⟩:=y
 simp only[Worker.sz]at hx
 by_cases h0:a0=b0
 case neg=>
  rw[zt (by simp[h0])]
  exact qkI ⟨qak a0 b0 false (by simp[h0]) (by omega),rfl,trivial⟩
 by_cases h1:a1=b1
 case neg=>
  rw[zt (by simp[h1])]
  exact qkJ ⟨qak a0 b0 true (by simp[h0]) (by omega),rfl,qak a1 b1 false (by simp[h1]) (by omega),rfl,trivial⟩
 by_cases h2:a2=b2
 case neg=>
  rw[zt (by simp[h2])]
  exact qkK ⟨qak a0 b0 true (by simp[h0]) (by omega),rfl,qak a1 b1 true (by simp[h1]) (by omega),rfl,qak a2 b2 false (by simp[h2]) (by omega),rfl,trivial⟩
 by_cases h3:a3=b3
 case neg=>
  rw[zt (by simp[h3])]
  exact qkL ⟨qak a0 b0 true (by simp[h0]) (by omega),rfl,qak a1 b1 true (by simp[h1]) (by omega),rfl,qak a2 b2 true (by simp[h2]) (by omega),rfl,qcm a3 b3 false (by simp[h3]) (by omega),rfl,trivial⟩
 by_cases h4:a4=b4
 case neg=>
  rw[zt (by simp[h4])]
  exact qkM ⟨qak a0 b0 true (by simp[h0]) (by omega),rfl,qak a1 b1 true (by simp[h1]) (by omega),rfl,qak a2 b2 true (by simp[h2]) (by omega),rfl,qcm a3 b3 true (by simp[h3]) (by omega),rfl,qcR a4 b4 false (by simp[h4]) (by omega),rfl,trivial⟩
 by_cases h5:a5=b5
 case neg=>
  rw[zt (by simp[h5])]
  exact qkN ⟨qak a0 b0 true (by simp[h0]) (by omega),rfl,qak a1 b1 true (by simp[h1]) (by omega),rfl,qak a2 b2 true (by simp[h2]) (by omega),rfl,qcm a3 b3 true (by simp[h3]) (by omega),rfl,qcR a4 b4 true (by simp[h4]) (by omega),rfl,qbZ a5 b5 false (by simp[h5]) (by omega),rfl,trivial⟩
 by_cases h6:a6=b6
 case neg=>
  rw[zt (by simp[h6])]
  exact qkO ⟨qak a0 b0 true (by simp[h0]) (by omega),rfl,qak a1 b1 true (by simp[h1]) (by omega),rfl,qak a2 b2 true (by simp[h2]) (by omega),rfl,qcm a3 b3 true (by simp[h3]) (by omega),rfl,qcR a4 b4 true (by simp[h4]) (by omega),rfl,qbZ a5 b5 true (by simp[h5]) (by omega),rfl,qbZ a6 b6 false (by simp[h6]) (by omega),rfl,trivial⟩
 by_cases h7:a7=b7
 case neg=>
  rw[zt (by simp[h7])]
  exact qkP ⟨qak a0 b0 true (by simp[h0]) (by omega),rfl,qak a1 b1 true (by simp[h1]) (by omega),rfl,qak a2 b2 true (by simp[h2]) (by omega),rfl,qcm a3 b3 true (by simp[h3]) (by omega),rfl,qcR a4 b4 true (by simp[h4]) (by omega),rfl,qbZ a5 b5 true (by simp[h5]) (by omega),rfl,qbZ a6 b6 true (by simp[h6]) (by omega),rfl,qhv a7 b7 false (by simp[h7]) (by omega),rfl,trivial⟩
 rw[zap (by simp[h0,h1,h2,h3,h4,h5,h6,h7])]
 exact qkQ ⟨qak a0 b0 true (by simp[h0]) (by omega),rfl,qak a1 b1 true (by simp[h1]) (by omega),rfl,qak a2 b2 true (by simp[h2]) (by omega),rfl,qcm a3 b3 true (by simp[h3]) (by omega),rfl,qcR a4 b4 true (by simp[h4]) (by omega),rfl,qbZ a5 b5 true (by simp[h5]) (by omega),rfl,qbZ a6 b6 true (by simp[h6]) (by omega),rfl,qhv a7 b7 true (by simp[h7]) (by omega),rfl,trivial⟩
theorem qk1(x y:Worker)(r:Bool)(h:decide (x=y)=r)(hx:x.sz≤8388608):Rt 12 [.agg x.e,.agg y.e] [.one (B r)]:=h▸qk0 x y hx
end Go.Proofs.YtenekpkjlgddnaaDoor
