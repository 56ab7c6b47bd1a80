import Derived.Test.YtdchjefneblpgaaGreatC0
import Derived.Test.YtdchjefneblpgaaGreatG1
set_option linter.unusedVariables false
set_option linter.unusedSimpArgs false
namespace Go.Proofs.YtdchjefneblpgaaGreat
open Go.Sx Go.RowKit Go.Proofs.Tryz
theorem TA(xs:List Int)(ap:xs.length<=8388608):ar 70 [.one (.J 1 (xs.map a6)),.one (.J 1 (xs.map a6))] [.one (B true)]:=by
 have l:=eN (P:=prog) (c:=(ao f70 0)) (cH 0) xs.length (fun i:Nat=>zy (xs.map a6) (xs.map a6) i) (fun i hi=>by
  obtain⟨a,ag⟩:=cS hi;exact ahw ⟨b6 hi,bw,bE hi,bA a6 ag,bw,bE hi,bA a6 ag,by simp,dc hi ap,aa⟩) (ahx ⟨dz,aa⟩)
 exact ahy ⟨by simp,l,aa⟩
theorem TB{xs:List Bool}(ap:xs.length<=8388608):ar 172 [.one (.J 1 (xs.map cq)),.one (.J 1 (xs.map cq))] [.one (B true)]:=by
 have l:=eN (P:=prog) (c:=(ao f172 0)) (cH 0) xs.length (fun i:Nat=>zz (xs.map cq) (xs.map cq) i) (fun i hi=>by
  obtain⟨a,ag⟩:=cS hi;exact ahz ⟨b6 hi,bw,bE hi,bA cq ag,bw,bE hi,bA cq ag,by simp,dc hi ap,aa⟩) (aiR ⟨dz,aa⟩)
 exact aiS ⟨by simp,l,aa⟩
theorem aiw{xs:List cw}(ap:xs.length<=8388608):ar 173 [.one (.J 2 (xs.map cw.e)),.one (.J 2 (xs.map cw.e))] [.one (B true)]:=by
 have l:=eN (P:=prog) (c:=(ao f173 0)) (cH 0) xs.length (fun i:Nat=>zA (xs.map cw.e) (xs.map cw.e) i) (fun i hi=>by
  obtain⟨a,ag⟩:=cS hi;exact aiT ⟨b6 hi,bw,bE hi,bA cw.e ag,bw,bE hi,bA cw.e ag,by simp,dc hi ap,aa⟩) (aiU ⟨dz,aa⟩)
 exact aiV ⟨by simp,l,aa⟩
theorem aix{xs:List bW}(ap:xs.length<=8388608):ar 162 [.one (.J 5 (xs.map bW.e)),.one (.J 5 (xs.map bW.e))] [.one (B true)]:=by
 have l:=eN (P:=prog) (c:=(ao f162 0)) (cH 0) xs.length (fun i:Nat=>zB (xs.map bW.e) (xs.map bW.e) i) (fun i hi=>by
  obtain⟨a,ag⟩:=cS hi;exact aiW ⟨b6 hi,bw,bE hi,bA bW.e ag,bw,bE hi,bA bW.e ag,by simp,dc hi ap,aa⟩) (aiX ⟨dz,aa⟩)
 exact aiY ⟨by simp,l,aa⟩
theorem aiy{xs:List b7}(ap:xs.length<=8388608):ar 163 [.one (.J 3 (xs.map b7.e)),.one (.J 3 (xs.map b7.e))] [.one (B true)]:=by
 have l:=eN (P:=prog) (c:=(ao f163 0)) (cH 0) xs.length (fun i:Nat=>zC (xs.map b7.e) (xs.map b7.e) i) (fun i hi=>by
  obtain⟨a,ag⟩:=cS hi;exact aiZ ⟨b6 hi,bw,bE hi,bA b7.e ag,bw,bE hi,bA b7.e ag,by simp,dc hi ap,aa⟩) (ai0 ⟨dz,aa⟩)
 exact ai1 ⟨by simp,l,aa⟩
theorem DP(xs:List aB)(ap:xs.length<=8388608):ar 37 [.one (.J 5 (xs.map aB.e)),.one (.J 5 (xs.map aB.e))] [.one (B true)]:=by
 have l:=eN (P:=prog) (c:=(ao f37 0)) (cH 0) xs.length (fun i:Nat=>zG (xs.map aB.e) (xs.map aB.e) i) (fun i hi=>by
  obtain⟨a,ag⟩:=cS hi;exact ajg ⟨b6 hi,bw,bE hi,bA aB.e ag,bw,bE hi,bA aB.e ag,by simp,dc hi ap,aa⟩) (air ⟨dz,aa⟩)
 exact ais ⟨by simp,l,aa⟩
theorem aiz{xs:List Cell}(ap:xs.length<=8388608):ar 19 [.one (.J 4 (xs.map Cell.e)),.one (.J 4 (xs.map Cell.e))] [.one (B true)]:=by
 have l:=eN (P:=prog) (c:=(ao f19 0)) (cH 0) xs.length (fun i:Nat=>zH (xs.map Cell.e) (xs.map Cell.e) i) (fun i hi=>by
  obtain⟨a,ag⟩:=cS hi;exact ait ⟨b6 hi,bw,bE hi,bA Cell.e ag,bw,bE hi,bA Cell.e ag,by simp,dc hi ap,aa⟩) (aiu ⟨dz,aa⟩)
 exact aiv ⟨by simp,l,aa⟩
theorem aiA(x:Node)(ak:x.sz<=8388608):ar 321 [.agg x.e,.agg x.e] [.one (B true)]:=
 ai2 ⟨by simp,by simp,by simp,TA x.outs ak,aa⟩
theorem aiB(g:bR)(av:g.sz<=8388608):ar 159 [.agg g.e,.agg g.e] [.one (B true)]:=by
 have ap:g.nodes.length<=8388608:=wW (sz:=Node.sz) av;have l:=eN (P:=prog) (c:=(ao f262 0)) (cH 0) g.nodes.length (fun i:Nat=>zD (g.nodes.map Node.e) (g.nodes.map Node.e) i) (fun i hi=>by
  obtain⟨a,ag⟩:=cS hi;exact ai3 ⟨b6 hi,bw,bE hi,bA Node.e ag,bw,bE hi,bA Node.e ag,aiA a (ta (sz:=Node.sz) av (eA ag)),rfl,dc hi ap,aa⟩) (ai4 ⟨dz,aa⟩)
 have e:ar 159 [.agg g.e,.agg g.e] [.one (B (g.cap==g.cap))]:=ai6 ⟨ai5 ⟨by simp,l,aa⟩,rfl,by simp,aa⟩;rwa[tK]at e
theorem aiC(l:bu)(ap:l.sz<=8388608):ar 263 [.agg l.e,.agg l.e] [.one (B true)]:=by
 have e:ar 263 [.agg l.e,.agg l.e] [.one (B (l.dh==l.dh))]:=ai7 ⟨by simp,DP l.queue ap,rfl,by simp,by simp,by simp,aa⟩;rwa[tK]at e
theorem Ky(w:aR)(hw:w.sz<=8388608):ar 47 [.agg w.e,.agg w.e] [.one (B true)]:=by
 simp only[aR.sz]at hw;exact ajb ⟨DP _ (by omega),rfl,DP _ (by omega),rfl,DP _ (by omega),rfl,aiz (by omega),rfl,TA _ (by omega),rfl,TB (by omega),rfl,TB (by omega),rfl,aiw (by omega),aa⟩
theorem Kz(c:bb)(al:c.sz<=8388608):ar 35 [.agg c.e,.agg c.e] [.one (B true)]:=by
 simp only[bb.sz]at al;have hw:eZ aR.sz c.ay<=8388608:=by omega
 have ap:eZ bu.sz c.bV<=8388608:=by omega
 have kw:=wW hw;have lu:=wW ap;have kZ:=eN (P:=prog) (c:=(ao f160 0)) (cH 0) c.ay.length (fun i:Nat=>zF (c.ay.map aR.e) (c.ay.map aR.e) i) (fun i hi=>by
  obtain⟨a,ag⟩:=cS hi;exact ajc ⟨b6 hi,bw,bE hi,bA aR.e ag,bw,bE hi,bA aR.e ag,Ky a (ta hw (eA ag)),rfl,dc hi kw,aa⟩) (ajd ⟨dz,aa⟩)
 have yL:=eN (P:=prog) (c:=(ao f161 0)) (cH 0) c.bV.length (fun i:Nat=>zE (c.bV.map bu.e) (c.bV.map bu.e) i) (fun i hi=>by
  obtain⟨a,ag⟩:=cS hi;exact ai8 ⟨b6 hi,bw,bE hi,bA bu.e ag,bw,bE hi,bA bu.e ag,aiC a (ta ap (eA ag)),rfl,dc hi lu,aa⟩) (ai9 ⟨dz,aa⟩)
 exact ajf ⟨aiB c.aC (by omega),rfl,aje ⟨by simp,kZ,aa⟩,rfl,aja ⟨by simp,yL,aa⟩,rfl,aix (by omega),rfl,aiy (by omega),aa⟩
