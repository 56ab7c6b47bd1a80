/- The functions sz.. (printed by gentypes.py) -/
import Derived.Test.YtdanpadojemjeaaGreatB0
import Derived.Test.YtdanpadojemjeaaGreatGA
import Derived.Test.YtdanpadojemjeaaGreatGC
set_option linter.unusedVariables false
set_option linter.unusedSimpArgs false
namespace Go.Proofs.YtdanpadojemjeaaGreat
open Go.Sx Go.RowKit
theorem qs2(xs:List Int)(n:Int)(h0:0≤n)(h1:n≤8388608)(hl:(xs.length:Int)≤9223372036854775807):Rt 182 [.one (.sl 1 (xs.map eI)),.one (I n)] [.one (I (qcE n xs.length))]:=by
 have e:(xs.map eI).length=xs.length:=zb ..
 rw[←e]
 rw[←e]at hl
 unfold qcE
 split
 ·exact qsR ⟨⟨by omega,by omega⟩,by simp only[zf];omega,trivial⟩
 ·exact qsQ ⟨⟨by omega,by omega⟩,by simp only[zi];omega,trivial⟩
theorem qs3(xs:List Record)(n:Int)(h0:0≤n)(h1:n≤8388608)(hl:(xs.length:Int)≤9223372036854775807):Rt 39 [.one (.sl 5 (xs.map Record.e)),.one (I n)] [.one (I (qcE n xs.length))]:=by
 have e:(xs.map Record.e).length=xs.length:=zb ..
 rw[←e]
 rw[←e]at hl
 unfold qcE
 split
 ·exact qsP ⟨⟨by omega,by omega⟩,by simp only[zf];omega,trivial⟩
 ·exact qsO ⟨⟨by omega,by omega⟩,by simp only[zi];omega,trivial⟩
theorem qnM(x:Node)(n:Int)(h0:0≤n)(h1:n≤8388608)(hw:x.wf):Rt 162 [.agg x.e,.one (I n)] [.one (I (qcE n x.sz))]:=by
 have r0:=qs2 x.outs (n) (by omega) (by omega) hw.outs_ok.1
 by_cases c0:((x.outs.length:Nat):Int)≤n
 case neg=>
  rw[qds (by omega)]at r0
  rw[qds (by simp only[Node.sz];omega)]
  exact qsS ⟨r0,rfl,trivial⟩
 rw[qdN c0]at r0
 have e:qcE n x.sz=n-((x.outs.length:Nat):Int):=by
  rw[qdN (by simp only[Node.sz];omega)]
  simp only[Node.sz]<;>omega
 rw[e]
 exact qsT ⟨r0,by simp only[zf];omega,trivial⟩
theorem qs4(xs:List Node)(n:Int)(h0:0≤n)(h1:n≤8388608)(hl:(xs.length:Int)≤9223372036854775807)(hw:∀x∈xs,x.wf):Rt 97 [.one (.sl 4 (xs.map Node.e)),.one (I n)] [.one (I (qcE n (szS Node.sz xs)))]:=by
 have e:(xs.map Node.e).length=xs.length:=zb ..
 by_cases c:(xs.length:Int)≤n
 case neg=>
  rw[qds (by unfold szS;omega)]
  exact qsU ⟨⟨by omega,by omega⟩,by simp only[zi];omega,trivial⟩
 have step:∀i,i<xs.length→(sumTo Node.sz xs i:Int)≤n-xs.length→(sumTo Node.sz xs (i+1):Int)≤n-xs.length→
   Tr Tryz.prog (qaa Tryz.f97 0) (qdb (xs.map Node.e) i (n-↑(xs.map Node.e).length-sumTo Node.sz xs i)) .normal (qdb (xs.map Node.e) (i+1:Nat) (n-↑(xs.map Node.e).length-sumTo Node.sz xs (i+1))):=by
  intro i hi h2 h3
  obtain⟨a,ha⟩:=qai hi
  have hs:=qh6 (sz:=Node.sz) ha
  have r:=qnM a (n-↑(xs.map Node.e).length-sumTo Node.sz xs i) (by omega) (by omega) (hw a (qar ha))
  rw[qdN (by omega)]at r
  have e2:n-↑(xs.map Node.e).length-(sumTo Node.sz xs i:Int)-(a.sz:Int)=n-↑(xs.map Node.e).length-(sumTo Node.sz xs (i+1):Int):=by omega
  rw[e2]at r
  exact qsW ⟨lt1 hi,lt0,lt2 hi,qac Node.e ha,r,by simp only[zf];omega,upM hi hl,trivial⟩
 rcases qsr Node.sz xs (n-xs.length) (by omega) with h | ⟨i,a,ha,h2,h3,h4⟩
 ·have hle:=fun i=>qkg (sz:=Node.sz) (xs:=xs) (i:=i)
  have e1:qcE n (szS Node.sz xs)=n-↑(xs.map Node.e).length-sumTo Node.sz xs xs.length:=by
   rw[qdN (by unfold szS;omega),qnv];unfold szS;omega
  rw[e1]
  have l:=qan (qaf 0) xs.length (fun i=>qdb (xs.map Node.e) i (n-↑(xs.map Node.e).length-sumTo Node.sz xs i)) (fun i hi=>step i hi (by have:=hle i;omega) (by have:=hle (i+1);omega)) (qsX ⟨ge1,trivial⟩)
  simp only[qh5,Int.sub_zero,zcl]at l
  exact qsZ ⟨⟨by omega,by omega⟩,by simp only[zf];omega,l,trivial⟩
 ·have hi:=lt_of ha
  have hle:=fun i=>qkg (sz:=Node.sz) (xs:=xs) (i:=i)
  have hs:=qh6 (sz:=Node.sz) ha
  have hb:=hle (i+1)
  rw[qds (by unfold szS;omega)]
  have r:=qnM a (n-↑(xs.map Node.e).length-sumTo Node.sz xs i) (by omega) (by omega) (hw a (qar ha))
  rw[qds (by omega)]at r
  have l:=qan qat i (fun i=>qdb (xs.map Node.e) i (n-↑(xs.map Node.e).length-sumTo Node.sz xs i)) (fun j hj=>step j (by omega) (h4 j (by omega)) (h4 (j+1) (by omega))) (qsV ⟨lt1 hi,lt0,lt2 hi,qac Node.e ha,r,rfl,trivial⟩)
  simp only[qh5,Int.sub_zero,zcl]at l
  exact qsY ⟨⟨by omega,by omega⟩,by simp only[zf];omega,l,trivial⟩
theorem qs5(x:Graph)(n:Int)(h0:0≤n)(h1:n≤8388608)(hw:x.wf):Rt 38 [.agg x.e,.one (I n)] [.one (I (qcE n x.sz))]:=by
 have r0:=qs4 x.nodes (n) (by omega) (by omega) hw.nodes_ok.1 hw.nodes_ok.2
 by_cases c0:((szS Node.sz x.nodes:Nat):Int)≤n
 case neg=>
  rw[qds (by omega)]at r0
  rw[qds (by simp only[Graph.sz];omega)]
  exact qs0 ⟨r0,rfl,trivial⟩
 rw[qdN c0]at r0
 have e:qcE n x.sz=n-((szS Node.sz x.nodes:Nat):Int):=by
  rw[qdN (by simp only[Graph.sz];omega)]
  simp only[Graph.sz]<;>omega
 rw[e]
 exact qs1 ⟨r0,by simp only[zf];omega,trivial⟩
end Go.Proofs.YtdanpadojemjeaaGreat
namespace Go.Proofs.YtdanpadojemjeaaGreat
open Go.Sx Go.RowKit
theorem toL{α:Type}{P:Program}{c:Code}{e:α→List D}{z:List D}{xs:List α}{st:Nat→List (List D)→St}{X:St}
  (hs:∀i a,xs[i]?=some a→i<xs.length→Tr P c (st i (qb5 e z xs i)) .normal (st (i+1) ((qb5 e z xs i).set ((i:Nat):Int).toNat (e a))))
  (hx:Tr P c (st xs.length (xs.map e)) (.exit 0) X):qaj P c (st 0 (List.replicate (xs.map e).length z)) (.exit 0) X:=by
 have l:=qan (P:=P) (c:=c) (qaf 0) xs.length (fun i=>st i (qb5 e z xs i)) (fun i hi=>by
  obtain⟨a,ha⟩:=qai hi
  have t:=hs i a ha hi
  rw[qsq ha]at t
  exact t) (stE:=X) (by rw[qsp];exact hx)
 rw[qso]at l
 exact l
theorem qtj(xs:List Int)(hx0:xs.length≤8388608):Rt 191 [.one (.sl 1 (xs.map eI))] [.one (.sl 1 (xs.map eI))]:=by
 have hx:xs.length≤8388608:=hx0
 exact qtd ⟨by omega,by omega,by simp only[zb];omega,by simp only[zb];omega,toL (e:=eI) (z:=[I 0]) (st:=fun i l=>qgD (xs.map eI) i l) (fun i a ha hi=>
  qtb _ _ _ _ _ ⟨lt1 hi,lt0,lt2 hi,qac eI ha,lt0,qke hi,qkf hi,up1 hi hx,trivial⟩) (qtc ⟨ge1,trivial⟩),trivial⟩
theorem qtk(x:Stamp):Rt 172 [.agg x.e] [.agg x.e]:=qs6 trivial
theorem qtl(x:Record):Rt 102 [.agg x.e] [.agg x.e]:=qs7 ⟨qtk x.stamp,trivial⟩
theorem qtm(xs:List Record)(hx0:xs.length≤8388608):Rt 42 [.one (.sl 5 (xs.map Record.e))] [.one (.sl 5 (xs.map Record.e))]:=by
 have hx:xs.length≤8388608:=hx0
 exact qta ⟨by omega,by omega,by simp only[zb];omega,by simp only[zb];omega,toL (e:=Record.e) (z:=[I 0,I 0,I 0,I 0,I 0]) (st:=fun i l=>qgC (xs.map Record.e) i l) (fun i a ha hi=>
  qs8 _ _ _ _ _ _ _ _ _ _ _ _ _ _ _ _ _ _ ⟨lt1 hi,lt0,lt2 hi,qac Record.e ha,qtl a,lt0,qke hi,qkf hi,up1 hi hx,trivial⟩) (qs9 ⟨ge1,trivial⟩),trivial⟩
theorem qtn(x:Node)(hx:x.sz≤8388608):Rt 171 [.agg x.e] [.agg x.e]:=
 qte ⟨qtj x.outs (by simp only[Node.sz]at hx;omega),trivial⟩
theorem qto(xs:List Node)(hx0:szS Node.sz xs≤8388608):Rt 101 [.one (.sl 4 (xs.map Node.e))] [.one (.sl 4 (xs.map Node.e))]:=by
 have hx:xs.length≤8388608:=qnw hx0
 exact qth ⟨by omega,by omega,by simp only[zb];omega,by simp only[zb];omega,toL (e:=Node.e) (z:=[I 0,I 0,I 0,D.v (Value.slice none 0 0)]) (st:=fun i l=>qgE (xs.map Node.e) i l) (fun i a ha hi=>
  qtf _ _ _ _ _ _ _ _ _ _ _ _ _ _ _ ⟨lt1 hi,lt0,lt2 hi,qac Node.e ha,qtn a (qeB hx0 (qar ha)),lt0,qke hi,qkf hi,up1 hi hx,trivial⟩) (qtg ⟨ge1,trivial⟩),trivial⟩
theorem qtp(x:Graph)(hx:x.sz≤8388608):Rt 41 [.agg x.e] [.agg x.e]:=
 qti ⟨qto x.nodes (by simp only[Graph.sz]at hx;omega),trivial⟩
end Go.Proofs.YtdanpadojemjeaaGreat
namespace Go.Proofs.YtdanpadojemjeaaGreat
open Go.Sx Go.RowKit
theorem eqL{α:Type}[DecidableEq α]{P:Program}{c:Code}{e:α→List D}{xs ys:List α}{st:Nat→St}{X Y:St}{f:Nat}{args:List AD}
  (h0:((↑(xs.map e).length:Int) != (↑(ys.map e).length:Int))=true→Ret P f args [.one (B false)])
  (hs:∀i a,xs[i]?=some a→ys[i]?=some a→i<xs.length→i<ys.length→Tr P c (st i) .normal (st (i+1)))
  (hd:∀i a b,xs[i]?=some a→ys[i]?=some b→a≠b→i<xs.length→i<ys.length→Tr P c (st i) .ret X)
  (he:Tr P c (st xs.length) (.exit 0) Y)
  (ht:((↑(xs.map e).length:Int) != (↑(ys.map e).length:Int))=false→qaj P c (st 0) (.exit 0) Y→Ret P f args [.one (B true)])
  (hf:((↑(xs.map e).length:Int) != (↑(ys.map e).length:Int))=false→qaj P c (st 0) .ret X→Ret P f args [.one (B false)]):Ret P f args [.one (B (decide (xs=ys)))]:=by
 by_cases hl:xs.length=ys.length
 case neg=>
  rw[zt (fun e=>hl (by rw[e]))]
  exact h0 (by simp only[zb,bne_iff_ne,zcc];omega)
 have hz:((↑(xs.map e).length:Int) != (↑(ys.map e).length:Int))=false:=by simp[hl]
 have step:∀i,i<xs.length→xs[i]?=ys[i]?→Tr P c (st i) .normal (st (i+1)):=by
  intro i hi h
  obtain⟨a,ha⟩:=qai hi
  exact hs i a ha (h▸ha) hi (by omega)
 rcases qnu xs ys hl with he' | ⟨i,a,b,ha,hb,hab,hlt⟩
 ·rw[zap he']
  exact ht hz (qan (qaf 0) xs.length st (fun i hi=>step i hi (by rw[he'])) he)
 ·rw[zt (fun e=>by rw[e,hb]at ha;exact hab (zx ha).symm)]
  have hi:=lt_of ha
  exact hf hz (qan qat i st (fun j hj=>step j (by omega) (hlt j hj)) (hd i a b ha hb hab hi (by omega)))
theorem qua(xs ys:List Int)(hx0:xs.length≤8388608):Rt 203 [.one (.sl 1 (xs.map eI)),.one (.sl 1 (ys.map eI))] [.one (B (decide (xs=ys)))]:=by
 have hx:xs.length≤8388608:=hx0
 exact eqL (e:=eI) (st:=fun i=>qeF (xs.map eI) (ys.map eI) i) (fun h=>qtP ⟨h,trivial⟩)
  (fun i a ha hb hi hj=>qtR ⟨lt1 hi,lt0,lt2 hi,qac eI ha,lt0,lt2 hj,qac eI hb,by simp,up1 hi hx,trivial⟩)
  (fun i a b ha hb hab hi hj=>qtQ ⟨lt1 hi,lt0,lt2 hi,qac eI ha,lt0,lt2 hj,qac eI hb,by simp[hab],trivial⟩)
  (qtS ⟨ge1,trivial⟩) (fun h l=>qtU ⟨h,l,trivial⟩) (fun h l=>qtT _ _ false ⟨h,l,trivial⟩)
theorem qnY(xs ys:List Int)(r:Bool)(h:decide (xs=ys)=r)(hx0:xs.length≤8388608):Rt 203 [.one (.sl 1 (xs.map eI)),.one (.sl 1 (ys.map eI))] [.one (B r)]:=h▸qua xs ys hx0
theorem qub(x y:Stamp):Rt 180 [.agg x.e,.agg y.e] [.one (B (decide (x=y)))]:=by
 obtain⟨a0,a1⟩:=x
 obtain⟨b0,b1⟩:=y
 by_cases h0:a0=b0
 case neg=>
  rw[zt (by simp[h0])]
  exact qtq ⟨by simp[h0],trivial⟩
 by_cases h1:a1=b1
 case neg=>
  rw[zt (by simp[h1])]
  exact qtr ⟨by simp[h0],by simp[h1],trivial⟩
 rw[zap (by simp[h0,h1])]
 exact qts ⟨by simp[h0],by simp[h1],trivial⟩
theorem qid(x y:Stamp)(r:Bool)(h:decide (x=y)=r):Rt 180 [.agg x.e,.agg y.e] [.one (B r)]:=h▸qub x y
theorem quc(x y:Record):Rt 108 [.agg x.e,.agg y.e] [.one (B (decide (x=y)))]:=by
 obtain⟨a0,a1,a2,a3⟩:=x
 obtain⟨b0,b1,b2,b3⟩:=y
 by_cases h0:a0=b0
 case neg=>
  rw[zt (by simp[h0])]
  exact qtt ⟨by simp[h0],trivial⟩
 by_cases h1:a1=b1
 case neg=>
  rw[zt (by simp[h1])]
  exact qtu ⟨by simp[h0],qid a1 b1 false (by simp[h1]),rfl,trivial⟩
 by_cases h2:a2=b2
 case neg=>
  rw[zt (by simp[h2])]
  exact qtv ⟨by simp[h0],qid a1 b1 true (by simp[h1]),rfl,by simp[h2],trivial⟩
 by_cases h3:a3=b3
 case neg=>
  rw[zt (by simp[h3])]
  exact qtw ⟨by simp[h0],qid a1 b1 true (by simp[h1]),rfl,by simp[h2],by simp[h3],trivial⟩
 rw[zap (by simp[h0,h1,h2,h3])]
 exact qtx ⟨by simp[h0],qid a1 b1 true (by simp[h1]),rfl,by simp[h2],by simp[h3],trivial⟩
theorem qnZ(x y:Record)(r:Bool)(h:decide (x=y)=r):Rt 108 [.agg x.e,.agg y.e] [.one (B r)]:=h▸quc x y
theorem qud(xs ys:List Record)(hx0:xs.length≤8388608):Rt 46 [.one (.sl 5 (xs.map Record.e)),.one (.sl 5 (ys.map Record.e))] [.one (B (decide (xs=ys)))]:=by
 have hx:xs.length≤8388608:=hx0
 exact eqL (e:=Record.e) (st:=fun i=>qeD (xs.map Record.e) (ys.map Record.e) i) (fun h=>qty ⟨h,trivial⟩)
  (fun i a ha hb hi hj=>qtA ⟨lt1 hi,lt0,lt2 hi,qac Record.e ha,lt0,lt2 hj,qac Record.e hb,qnZ a a true (by simp),rfl,up1 hi hx,trivial⟩)
  (fun i a b ha hb hab hi hj=>qtz ⟨lt1 hi,lt0,lt2 hi,qac Record.e ha,lt0,lt2 hj,qac Record.e hb,qnZ a b false (by simp[hab]),rfl,trivial⟩)
  (qtB ⟨ge1,trivial⟩) (fun h l=>qtD ⟨h,l,trivial⟩) (fun h l=>qtC _ _ false ⟨h,l,trivial⟩)
theorem que(xs ys:List Record)(r:Bool)(h:decide (xs=ys)=r)(hx0:xs.length≤8388608):Rt 46 [.one (.sl 5 (xs.map Record.e)),.one (.sl 5 (ys.map Record.e))] [.one (B r)]:=h▸qud xs ys hx0
theorem quf(x y:Cell):Rt 106 [.agg x.e,.agg y.e] [.one (B (decide (x=y)))]:=by
 obtain⟨a0,a1,a2,a3⟩:=x
 obtain⟨b0,b1,b2,b3⟩:=y
 by_cases h0:a0=b0
 case neg=>
  rw[zt (by simp[h0])]
  exact qtE ⟨by simp[h0],trivial⟩
 by_cases h1:a1=b1
 case neg=>
  rw[zt (by simp[h1])]
  exact qtF ⟨by simp[h0],by simp[h1],trivial⟩
 by_cases h2:a2=b2
 case neg=>
  rw[zt (by simp[h2])]
  exact qtG ⟨by simp[h0],by simp[h1],by simp[h2],trivial⟩
 by_cases h3:a3=b3
 case neg=>
  rw[zt (by simp[h3])]
  exact qtH ⟨by simp[h0],by simp[h1],by simp[h2],by simp[h3],trivial⟩
 rw[zap (by simp[h0,h1,h2,h3])]
 exact qtI ⟨by simp[h0],by simp[h1],by simp[h2],by simp[h3],trivial⟩
theorem qn0(x y:Cell)(r:Bool)(h:decide (x=y)=r):Rt 106 [.agg x.e,.agg y.e] [.one (B r)]:=h▸quf x y
theorem qug(xs ys:List Cell)(hx0:xs.length≤8388608):Rt 44 [.one (.sl 4 (xs.map Cell.e)),.one (.sl 4 (ys.map Cell.e))] [.one (B (decide (xs=ys)))]:=by
 have hx:xs.length≤8388608:=hx0
 exact eqL (e:=Cell.e) (st:=fun i=>qeE (xs.map Cell.e) (ys.map Cell.e) i) (fun h=>qtJ ⟨h,trivial⟩)
  (fun i a ha hb hi hj=>qtL ⟨lt1 hi,lt0,lt2 hi,qac Cell.e ha,lt0,lt2 hj,qac Cell.e hb,qn0 a a true (by simp),rfl,up1 hi hx,trivial⟩)
  (fun i a b ha hb hab hi hj=>qtK ⟨lt1 hi,lt0,lt2 hi,qac Cell.e ha,lt0,lt2 hj,qac Cell.e hb,qn0 a b false (by simp[hab]),rfl,trivial⟩)
  (qtM ⟨ge1,trivial⟩) (fun h l=>qtO ⟨h,l,trivial⟩) (fun h l=>qtN _ _ false ⟨h,l,trivial⟩)
theorem quh(xs ys:List Cell)(r:Bool)(h:decide (xs=ys)=r)(hx0:xs.length≤8388608):Rt 44 [.one (.sl 4 (xs.map Cell.e)),.one (.sl 4 (ys.map Cell.e))] [.one (B r)]:=h▸qug xs ys hx0
theorem qui(x y:Node)(hx:x.sz≤8388608):Rt 179 [.agg x.e,.agg y.e] [.one (B (decide (x=y)))]:=by
 obtain⟨a0,a1,a2,a3⟩:=x
 obtain⟨b0,b1,b2,b3⟩:=y
 simp only[Node.sz]at hx
 by_cases h0:a0=b0
 case neg=>
  rw[zt (by simp[h0])]
  exact qtV ⟨by simp[h0],trivial⟩
 by_cases h1:a1=b1
 case neg=>
  rw[zt (by simp[h1])]
  exact qtW ⟨by simp[h0],by simp[h1],trivial⟩
 by_cases h2:a2=b2
 case neg=>
  rw[zt (by simp[h2])]
  exact qtX ⟨by simp[h0],by simp[h1],by simp[h2],trivial⟩
 by_cases h3:a3=b3
 case neg=>
  rw[zt (by simp[h3])]
  exact qtY ⟨by simp[h0],by simp[h1],by simp[h2],qnY a3 b3 false (by simp[h3]) (by omega),rfl,trivial⟩
 rw[zap (by simp[h0,h1,h2,h3])]
 exact qtZ ⟨by simp[h0],by simp[h1],by simp[h2],qnY a3 b3 true (by simp[h3]) (by omega),rfl,trivial⟩
theorem qn1(x y:Node)(r:Bool)(h:decide (x=y)=r)(hx:x.sz≤8388608):Rt 179 [.agg x.e,.agg y.e] [.one (B r)]:=h▸qui x y hx
theorem quj(xs ys:List Node)(hx0:szS Node.sz xs≤8388608):Rt 107 [.one (.sl 4 (xs.map Node.e)),.one (.sl 4 (ys.map Node.e))] [.one (B (decide (xs=ys)))]:=by
 have hx:xs.length≤8388608:=qnw hx0
 exact eqL (e:=Node.e) (st:=fun i=>qeG (xs.map Node.e) (ys.map Node.e) i) (fun h=>qt0 ⟨h,trivial⟩)
  (fun i a ha hb hi hj=>qt2 ⟨lt1 hi,lt0,lt2 hi,qac Node.e ha,lt0,lt2 hj,qac Node.e hb,qn1 a a true (by simp) (qeB hx0 (qar ha)),rfl,up1 hi hx,trivial⟩)
  (fun i a b ha hb hab hi hj=>qt1 ⟨lt1 hi,lt0,lt2 hi,qac Node.e ha,lt0,lt2 hj,qac Node.e hb,qn1 a b false (by simp[hab]) (qeB hx0 (qar ha)),rfl,trivial⟩)
  (qt3 ⟨ge1,trivial⟩) (fun h l=>qt5 ⟨h,l,trivial⟩) (fun h l=>qt4 _ _ false ⟨h,l,trivial⟩)
theorem qie(xs ys:List Node)(r:Bool)(h:decide (xs=ys)=r)(hx0:szS Node.sz xs≤8388608):Rt 107 [.one (.sl 4 (xs.map Node.e)),.one (.sl 4 (ys.map Node.e))] [.one (B r)]:=h▸quj xs ys hx0
theorem quk(x y:Graph)(hx:x.sz≤8388608):Rt 45 [.agg x.e,.agg y.e] [.one (B (decide (x=y)))]:=by
 obtain⟨a0,a1,a2⟩:=x
 obtain⟨b0,b1,b2⟩:=y
 simp only[Graph.sz]at hx
 by_cases h0:a0=b0
 case neg=>
  rw[zt (by simp[h0])]
  exact qt6 ⟨qie a0 b0 false (by simp[h0]) (by omega),rfl,trivial⟩
 by_cases h1:a1=b1
 case neg=>
  rw[zt (by simp[h1])]
  exact qt7 ⟨qie a0 b0 true (by simp[h0]) (by omega),rfl,by simp[h1],trivial⟩
 by_cases h2:a2=b2
 case neg=>
  rw[zt (by simp[h2])]
  exact qt8 ⟨qie a0 b0 true (by simp[h0]) (by omega),rfl,by simp[h1],by simp[h2],trivial⟩
 rw[zap (by simp[h0,h1,h2])]
 exact qt9 ⟨qie a0 b0 true (by simp[h0]) (by omega),rfl,by simp[h1],by simp[h2],trivial⟩
theorem qul(x y:Graph)(r:Bool)(h:decide (x=y)=r)(hx:x.sz≤8388608):Rt 45 [.agg x.e,.agg y.e] [.one (B r)]:=h▸quk x y hx
end Go.Proofs.YtdanpadojemjeaaGreat
