import Derived.Test.YtdchjefneblpgaaGreatC0
import Derived.Test.YtdchjefneblpgaaGreatG1
set_option linter.unusedVariables false
set_option linter.unusedSimpArgs false
namespace Go.Proofs.YtdchjefneblpgaaGreat
open Go.Sx Go.RowKit Go.Proofs.Tryz
theorem Ty(xs:List Int)(ap:xs.length<=8388608):ar 70 [.one (.J 1 (xs.map a6)),.one (.J 1 (xs.map a6))] [.one (B true)]:=by
 have l:=eN (P:=prog) (c:=(ao f70 0)) (cH 0) xs.length (fun i:Nat=>zw (xs.map a6) (xs.map a6) i) (fun i hi=>by
  obtain⟨a,ah⟩:=cS hi;exact ahs ⟨b6 hi,bw,bE hi,bA a6 ah,bw,bE hi,bA a6 ah,by simp,dc hi ap,aa⟩) (aht ⟨dz,aa⟩)
 exact ahu ⟨by simp,l,aa⟩
theorem Tz{xs:List Bool}(ap:xs.length<=8388608):ar 172 [.one (.J 1 (xs.map cq)),.one (.J 1 (xs.map cq))] [.one (B true)]:=by
 have l:=eN (P:=prog) (c:=(ao f172 0)) (cH 0) xs.length (fun i:Nat=>zx (xs.map cq) (xs.map cq) i) (fun i hi=>by
  obtain⟨a,ah⟩:=cS hi;exact ahv ⟨b6 hi,bw,bE hi,bA cq ah,bw,bE hi,bA cq ah,by simp,dc hi ap,aa⟩) (aiN ⟨dz,aa⟩)
 exact aiO ⟨by simp,l,aa⟩
theorem ais{xs:List cw}(ap:xs.length<=8388608):ar 173 [.one (.J 2 (xs.map cw.e)),.one (.J 2 (xs.map cw.e))] [.one (B true)]:=by
 have l:=eN (P:=prog) (c:=(ao f173 0)) (cH 0) xs.length (fun i:Nat=>zy (xs.map cw.e) (xs.map cw.e) i) (fun i hi=>by
  obtain⟨a,ah⟩:=cS hi;exact aiP ⟨b6 hi,bw,bE hi,bA cw.e ah,bw,bE hi,bA cw.e ah,by simp,dc hi ap,aa⟩) (aiQ ⟨dz,aa⟩)
 exact aiR ⟨by simp,l,aa⟩
theorem ait{xs:List bV}(ap:xs.length<=8388608):ar 162 [.one (.J 5 (xs.map bV.e)),.one (.J 5 (xs.map bV.e))] [.one (B true)]:=by
 have l:=eN (P:=prog) (c:=(ao f162 0)) (cH 0) xs.length (fun i:Nat=>zz (xs.map bV.e) (xs.map bV.e) i) (fun i hi=>by
  obtain⟨a,ah⟩:=cS hi;exact aiS ⟨b6 hi,bw,bE hi,bA bV.e ah,bw,bE hi,bA bV.e ah,by simp,dc hi ap,aa⟩) (aiT ⟨dz,aa⟩)
 exact aiU ⟨by simp,l,aa⟩
theorem aiu{xs:List b7}(ap:xs.length<=8388608):ar 163 [.one (.J 3 (xs.map b7.e)),.one (.J 3 (xs.map b7.e))] [.one (B true)]:=by
 have l:=eN (P:=prog) (c:=(ao f163 0)) (cH 0) xs.length (fun i:Nat=>zA (xs.map b7.e) (xs.map b7.e) i) (fun i hi=>by
  obtain⟨a,ah⟩:=cS hi;exact aiV ⟨b6 hi,bw,bE hi,bA b7.e ah,bw,bE hi,bA b7.e ah,by simp,dc hi ap,aa⟩) (aiW ⟨dz,aa⟩)
 exact aiX ⟨by simp,l,aa⟩
theorem DN(xs:List aB)(ap:xs.length<=8388608):ar 37 [.one (.J 5 (xs.map aB.e)),.one (.J 5 (xs.map aB.e))] [.one (B true)]:=by
 have l:=eN (P:=prog) (c:=(ao f37 0)) (cH 0) xs.length (fun i:Nat=>zE (xs.map aB.e) (xs.map aB.e) i) (fun i hi=>by
  obtain⟨a,ah⟩:=cS hi;exact ajc ⟨b6 hi,bw,bE hi,bA aB.e ah,bw,bE hi,bA aB.e ah,by simp,dc hi ap,aa⟩) (ain ⟨dz,aa⟩)
 exact aio ⟨by simp,l,aa⟩
theorem aiv{xs:List Cell}(ap:xs.length<=8388608):ar 19 [.one (.J 4 (xs.map Cell.e)),.one (.J 4 (xs.map Cell.e))] [.one (B true)]:=by
 have l:=eN (P:=prog) (c:=(ao f19 0)) (cH 0) xs.length (fun i:Nat=>zF (xs.map Cell.e) (xs.map Cell.e) i) (fun i hi=>by
  obtain⟨a,ah⟩:=cS hi;exact aip ⟨b6 hi,bw,bE hi,bA Cell.e ah,bw,bE hi,bA Cell.e ah,by simp,dc hi ap,aa⟩) (aiq ⟨dz,aa⟩)
 exact air ⟨by simp,l,aa⟩
theorem aiw(x:Node)(ak:x.sz<=8388608):ar 321 [.agg x.e,.agg x.e] [.one (B true)]:=
 aiY ⟨by simp,by simp,by simp,Ty x.outs ak,aa⟩
theorem aix(g:bR)(av:g.sz<=8388608):ar 159 [.agg g.e,.agg g.e] [.one (B true)]:=by
 have ap:g.nodes.length<=8388608:=wV (sz:=Node.sz) av;have l:=eN (P:=prog) (c:=(ao f262 0)) (cH 0) g.nodes.length (fun i:Nat=>zB (g.nodes.map Node.e) (g.nodes.map Node.e) i) (fun i hi=>by
  obtain⟨a,ah⟩:=cS hi;exact aiZ ⟨b6 hi,bw,bE hi,bA Node.e ah,bw,bE hi,bA Node.e ah,aiw a (s' (sz:=Node.sz) av (eA ah)),rfl,dc hi ap,aa⟩) (ai0 ⟨dz,aa⟩)
 have e:ar 159 [.agg g.e,.agg g.e] [.one (B (g.cap==g.cap))]:=ai2 ⟨ai1 ⟨by simp,l,aa⟩,rfl,by simp,aa⟩;rwa[tI]at e
theorem aiy(l:bu)(ap:l.sz<=8388608):ar 263 [.agg l.e,.agg l.e] [.one (B true)]:=by
 have e:ar 263 [.agg l.e,.agg l.e] [.one (B (l.dh==l.dh))]:=ai3 ⟨by simp,DN l.queue ap,rfl,by simp,by simp,by simp,aa⟩;rwa[tI]at e
theorem Kx(w:aR)(hw:w.sz<=8388608):ar 47 [.agg w.e,.agg w.e] [.one (B true)]:=by
 simp only[aR.sz]at hw;exact ai7 ⟨DN _ (by omega),rfl,DN _ (by omega),rfl,DN _ (by omega),rfl,aiv (by omega),rfl,Ty _ (by omega),rfl,Tz (by omega),rfl,Tz (by omega),rfl,ais (by omega),aa⟩
theorem Ky(c:bb)(al:c.sz<=8388608):ar 35 [.agg c.e,.agg c.e] [.one (B true)]:=by
 simp only[bb.sz]at al;have hw:eZ aR.sz c.ay<=8388608:=by omega
 have ap:eZ bu.sz c.bW<=8388608:=by omega
 have kw:=wV hw;have lp:=wV ap;have kW:=eN (P:=prog) (c:=(ao f160 0)) (cH 0) c.ay.length (fun i:Nat=>zD (c.ay.map aR.e) (c.ay.map aR.e) i) (fun i hi=>by
  obtain⟨a,ah⟩:=cS hi;exact ai8 ⟨b6 hi,bw,bE hi,bA aR.e ah,bw,bE hi,bA aR.e ah,Kx a (s' hw (eA ah)),rfl,dc hi kw,aa⟩) (ai9 ⟨dz,aa⟩)
 have yJ:=eN (P:=prog) (c:=(ao f161 0)) (cH 0) c.bW.length (fun i:Nat=>zC (c.bW.map bu.e) (c.bW.map bu.e) i) (fun i hi=>by
  obtain⟨a,ah⟩:=cS hi;exact ai4 ⟨b6 hi,bw,bE hi,bA bu.e ah,bw,bE hi,bA bu.e ah,aiy a (s' ap (eA ah)),rfl,dc hi lp,aa⟩) (ai5 ⟨dz,aa⟩)
 exact ajb ⟨aix c.aC (by omega),rfl,aja ⟨by simp,kW,aa⟩,rfl,ai6 ⟨by simp,yJ,aa⟩,rfl,ait (by omega),rfl,aiu (by omega),aa⟩
