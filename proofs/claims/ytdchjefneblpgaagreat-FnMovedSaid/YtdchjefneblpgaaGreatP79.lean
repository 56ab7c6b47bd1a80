import Derived.Test.YtdchjefneblpgaaGreatC0
import Derived.Test.YtdchjefneblpgaaGreatG1
set_option linter.unusedVariables false
set_option linter.unusedSimpArgs false
namespace Go.Proofs.YtdchjefneblpgaaGreat
open Go.Sx Go.RowKit Go.Proofs.Tryz
theorem TK(xs:List Int)(ak:xs.length<=8388608):av 70 [.one (.J 1 (xs.map a8)),.one (.J 1 (xs.map a8))] [.one (B true)]:=by
 have l:=e7 (P:=prog) (c:=(ar f70 0)) (cM 0) xs.length (fun i:Nat=>Ae (xs.map a8) (xs.map a8) i) (fun i hi=>by
  obtain⟨a,aj⟩:=cY hi;exact aiq ⟨cf hi,bG,bL hi,bF a8 aj,bG,bL hi,bF a8 aj,by simp,dw hi ak,aa⟩) (air ⟨dU,aa⟩)
 exact ahR ⟨by simp,l,aa⟩
theorem TL{xs:List Bool}(ak:xs.length<=8388608):av 172 [.one (.J 1 (xs.map cu)),.one (.J 1 (xs.map cu))] [.one (B true)]:=by
 have l:=e7 (P:=prog) (c:=(ar f172 0)) (cM 0) xs.length (fun i:Nat=>Af (xs.map cu) (xs.map cu) i) (fun i hi=>by
  obtain⟨a,aj⟩:=cY hi;exact ahS ⟨cf hi,bG,bL hi,bF cu aj,bG,bL hi,bF cu aj,by simp,dw hi ak,aa⟩) (ahT ⟨dU,aa⟩)
 exact ahU ⟨by simp,l,aa⟩
theorem ajw{xs:List cD}(ak:xs.length<=8388608):av 173 [.one (.J 2 (xs.map cD.e)),.one (.J 2 (xs.map cD.e))] [.one (B true)]:=by
 have l:=e7 (P:=prog) (c:=(ar f173 0)) (cM 0) xs.length (fun i:Nat=>Ag (xs.map cD.e) (xs.map cD.e) i) (fun i hi=>by
  obtain⟨a,aj⟩:=cY hi;exact ahV ⟨cf hi,bG,bL hi,bF cD.e aj,bG,bL hi,bF cD.e aj,by simp,dw hi ak,aa⟩) (ahW ⟨dU,aa⟩)
 exact ahX ⟨by simp,l,aa⟩
theorem ajx{xs:List b2}(ak:xs.length<=8388608):av 162 [.one (.J 5 (xs.map b2.e)),.one (.J 5 (xs.map b2.e))] [.one (B true)]:=by
 have l:=e7 (P:=prog) (c:=(ar f162 0)) (cM 0) xs.length (fun i:Nat=>Ah (xs.map b2.e) (xs.map b2.e) i) (fun i hi=>by
  obtain⟨a,aj⟩:=cY hi;exact ahY ⟨cf hi,bG,bL hi,bF b2.e aj,bG,bL hi,bF b2.e aj,by simp,dw hi ak,aa⟩) (ahZ ⟨dU,aa⟩)
 exact ah0 ⟨by simp,l,aa⟩
theorem ajy{xs:List cb}(ak:xs.length<=8388608):av 163 [.one (.J 3 (xs.map cb.e)),.one (.J 3 (xs.map cb.e))] [.one (B true)]:=by
 have l:=e7 (P:=prog) (c:=(ar f163 0)) (cM 0) xs.length (fun i:Nat=>Ai (xs.map cb.e) (xs.map cb.e) i) (fun i hi=>by
  obtain⟨a,aj⟩:=cY hi;exact ai9 ⟨cf hi,bG,bL hi,bF cb.e aj,bG,bL hi,bF cb.e aj,by simp,dw hi ak,aa⟩) (aja ⟨dU,aa⟩)
 exact ajb ⟨by simp,l,aa⟩
theorem xv(xs:List aA)(ak:xs.length<=8388608):av 37 [.one (.J 5 (xs.map aA.e)),.one (.J 5 (xs.map aA.e))] [.one (B true)]:=by
 have l:=e7 (P:=prog) (c:=(ar f37 0)) (cM 0) xs.length (fun i:Nat=>Am (xs.map aA.e) (xs.map aA.e) i) (fun i hi=>by
  obtain⟨a,aj⟩:=cY hi;exact ajq ⟨cf hi,bG,bL hi,bF aA.e aj,bG,bL hi,bF aA.e aj,by simp,dw hi ak,aa⟩) (ajr ⟨dU,aa⟩)
 exact ajs ⟨by simp,l,aa⟩
theorem aiS{xs:List Cell}(ak:xs.length<=8388608):av 19 [.one (.J 4 (xs.map Cell.e)),.one (.J 4 (xs.map Cell.e))] [.one (B true)]:=by
 have l:=e7 (P:=prog) (c:=(ar f19 0)) (cM 0) xs.length (fun i:Nat=>An (xs.map Cell.e) (xs.map Cell.e) i) (fun i hi=>by
  obtain⟨a,aj⟩:=cY hi;exact ajt ⟨cf hi,bG,bL hi,bF Cell.e aj,bG,bL hi,bF Cell.e aj,by simp,dw hi ak,aa⟩) (aju ⟨dU,aa⟩)
 exact ajv ⟨by simp,l,aa⟩
theorem aiT(x:Node)(ag:x.sz<=8388608):av 321 [.agg x.e,.agg x.e] [.one (B true)]:=
 ajc ⟨by simp,by simp,by simp,TK x.outs ag,aa⟩
theorem aiU(g:b1)(au:g.sz<=8388608):av 159 [.agg g.e,.agg g.e] [.one (B true)]:=by
 have ak:g.nodes.length<=8388608:=zB (sz:=Node.sz) au;have l:=e7 (P:=prog) (c:=(ar f262 0)) (cM 0) g.nodes.length (fun i:Nat=>Aj (g.nodes.map Node.e) (g.nodes.map Node.e) i) (fun i hi=>by
  obtain⟨a,aj⟩:=cY hi;exact ajd ⟨cf hi,bG,bL hi,bF Node.e aj,bG,bL hi,bF Node.e aj,aiT a (vP (sz:=Node.sz) au (eX aj)),rfl,dw hi ak,aa⟩) (aje ⟨dU,aa⟩)
 have e:av 159 [.agg g.e,.agg g.e] [.one (B (g.cap==g.cap))]:=ajg ⟨ajf ⟨by simp,l,aa⟩,rfl,by simp,aa⟩;rwa[sF]at e
theorem aiV(l:bt)(ak:l.sz<=8388608):av 263 [.agg l.e,.agg l.e] [.one (B true)]:=by
 have e:av 263 [.agg l.e,.agg l.e] [.one (B (l.c5==l.c5))]:=ajh ⟨by simp,xv l.queue ak,rfl,by simp,by simp,by simp,aa⟩;rwa[sF]at e
theorem aiW(w:aP)(hw:w.sz<=8388608):av 47 [.agg w.e,.agg w.e] [.one (B true)]:=by
 simp only[aP.sz]at hw;exact ajl ⟨xv _ (by omega),rfl,xv _ (by omega),rfl,xv _ (by omega),rfl,aiS (by omega),rfl,TK _ (by omega),rfl,TL (by omega),rfl,TL (by omega),rfl,ajw (by omega),aa⟩
theorem xw(c:bb)(ah:c.sz<=8388608):av 35 [.agg c.e,.agg c.e] [.one (B true)]:=by
 simp only[bb.sz]at ah;have hw:eZ aP.sz c.ay<=8388608:=by omega
 have ak:eZ bt.sz c.bV<=8388608:=by omega
 have kw:=zB hw;have lP:=zB ak;have hD:=e7 (P:=prog) (c:=(ar f160 0)) (cM 0) c.ay.length (fun i:Nat=>Al (c.ay.map aP.e) (c.ay.map aP.e) i) (fun i hi=>by
  obtain⟨a,aj⟩:=cY hi;exact ajm ⟨cf hi,bG,bL hi,bF aP.e aj,bG,bL hi,bF aP.e aj,aiW a (vP hw (eX aj)),rfl,dw hi kw,aa⟩) (ajn ⟨dU,aa⟩)
 have oF:=e7 (P:=prog) (c:=(ar f161 0)) (cM 0) c.bV.length (fun i:Nat=>Ak (c.bV.map bt.e) (c.bV.map bt.e) i) (fun i hi=>by
  obtain⟨a,aj⟩:=cY hi;exact aji ⟨cf hi,bG,bL hi,bF bt.e aj,bG,bL hi,bF bt.e aj,aiV a (vP ak (eX aj)),rfl,dw hi lP,aa⟩) (ajj ⟨dU,aa⟩)
 exact ajp ⟨aiU c.aF (by omega),rfl,ajo ⟨by simp,hD,aa⟩,rfl,ajk ⟨by simp,oF,aa⟩,rfl,ajx (by omega),rfl,ajy (by omega),aa⟩
