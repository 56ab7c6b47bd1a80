import Derived.Test.YtdchjefneblpgaaGreatC0
import Derived.Test.YtdchjefneblpgaaGreatG1
set_option linter.unusedVariables false
set_option linter.unusedSimpArgs false
namespace Go.Proofs.YtdchjefneblpgaaGreat
open Go.Sx Go.RowKit Go.Proofs.Tryz
theorem T3(xs:List Int)(al:xs.length<=8388608):av 70 [.one (.J 1 (xs.map a')),.one (.J 1 (xs.map a'))] [.one (B true)]:=by
 have l:=eY (P:=prog) (c:=(aq f70 0)) (cM 0) xs.length (fun i:Nat=>z1 (xs.map a') (xs.map a') i) (fun i hi=>by
  obtain⟨a,ah⟩:=c0 hi;exact ah7 ⟨b' hi,bF,bI hi,bG a' ah,bF,bI hi,bG a' ah,by simp,df hi al,aa⟩) (ah8 ⟨dG,aa⟩)
 exact ah9 ⟨by simp,l,aa⟩
theorem T4{xs:List Bool}(al:xs.length<=8388608):av 172 [.one (.J 1 (xs.map cv)),.one (.J 1 (xs.map cv))] [.one (B true)]:=by
 have l:=eY (P:=prog) (c:=(aq f172 0)) (cM 0) xs.length (fun i:Nat=>z6 (xs.map cv) (xs.map cv) i) (fun i hi=>by
  obtain⟨a,ah⟩:=c0 hi;exact ajs ⟨b' hi,bF,bI hi,bG cv ah,bF,bI hi,bG cv ah,by simp,df hi al,aa⟩) (ajt ⟨dG,aa⟩)
 exact aju ⟨by simp,l,aa⟩
theorem ai8{xs:List cD}(al:xs.length<=8388608):av 173 [.one (.J 2 (xs.map cD.e)),.one (.J 2 (xs.map cD.e))] [.one (B true)]:=by
 have l:=eY (P:=prog) (c:=(aq f173 0)) (cM 0) xs.length (fun i:Nat=>z7 (xs.map cD.e) (xs.map cD.e) i) (fun i hi=>by
  obtain⟨a,ah⟩:=c0 hi;exact ajv ⟨b' hi,bF,bI hi,bG cD.e ah,bF,bI hi,bG cD.e ah,by simp,df hi al,aa⟩) (ajw ⟨dG,aa⟩)
 exact ajx ⟨by simp,l,aa⟩
theorem ai9{xs:List b0}(al:xs.length<=8388608):av 162 [.one (.J 5 (xs.map b0.e)),.one (.J 5 (xs.map b0.e))] [.one (B true)]:=by
 have l:=eY (P:=prog) (c:=(aq f162 0)) (cM 0) xs.length (fun i:Nat=>z8 (xs.map b0.e) (xs.map b0.e) i) (fun i hi=>by
  obtain⟨a,ah⟩:=c0 hi;exact ajy ⟨b' hi,bF,bI hi,bG b0.e ah,bF,bI hi,bG b0.e ah,by simp,df hi al,aa⟩) (ajz ⟨dG,aa⟩)
 exact ajA ⟨by simp,l,aa⟩
theorem aja{xs:List ca}(al:xs.length<=8388608):av 163 [.one (.J 3 (xs.map ca.e)),.one (.J 3 (xs.map ca.e))] [.one (B true)]:=by
 have l:=eY (P:=prog) (c:=(aq f163 0)) (cM 0) xs.length (fun i:Nat=>z' (xs.map ca.e) (xs.map ca.e) i) (fun i hi=>by
  obtain⟨a,ah⟩:=c0 hi;exact ajB ⟨b' hi,bF,bI hi,bG ca.e ah,bF,bI hi,bG ca.e ah,by simp,df hi al,aa⟩) (ajC ⟨dG,aa⟩)
 exact ajD ⟨by simp,l,aa⟩
theorem Ec(xs:List aG)(al:xs.length<=8388608):av 37 [.one (.J 5 (xs.map aG.e)),.one (.J 5 (xs.map aG.e))] [.one (B true)]:=by
 have l:=eY (P:=prog) (c:=(aq f37 0)) (cM 0) xs.length (fun i:Nat=>Ad (xs.map aG.e) (xs.map aG.e) i) (fun i hi=>by
  obtain⟨a,ah⟩:=c0 hi;exact ai2 ⟨b' hi,bF,bI hi,bG aG.e ah,bF,bI hi,bG aG.e ah,by simp,df hi al,aa⟩) (ai3 ⟨dG,aa⟩)
 exact ai4 ⟨by simp,l,aa⟩
theorem ajb{xs:List Cell}(al:xs.length<=8388608):av 19 [.one (.J 4 (xs.map Cell.e)),.one (.J 4 (xs.map Cell.e))] [.one (B true)]:=by
 have l:=eY (P:=prog) (c:=(aq f19 0)) (cM 0) xs.length (fun i:Nat=>Ae (xs.map Cell.e) (xs.map Cell.e) i) (fun i hi=>by
  obtain⟨a,ah⟩:=c0 hi;exact ai5 ⟨b' hi,bF,bI hi,bG Cell.e ah,bF,bI hi,bG Cell.e ah,by simp,df hi al,aa⟩) (ai6 ⟨dG,aa⟩)
 exact ai7 ⟨by simp,l,aa⟩
theorem ajc(x:Node)(ag:x.sz<=8388608):av 321 [.agg x.e,.agg x.e] [.one (B true)]:=
 ajE ⟨by simp,by simp,by simp,T3 x.outs ag,aa⟩
theorem ajd(g:bX)(au:g.sz<=8388608):av 159 [.agg g.e,.agg g.e] [.one (B true)]:=by
 have al:g.nodes.length<=8388608:=xq (sz:=Node.sz) au;have l:=eY (P:=prog) (c:=(aq f262 0)) (cM 0) g.nodes.length (fun i:Nat=>Aa (g.nodes.map Node.e) (g.nodes.map Node.e) i) (fun i hi=>by
  obtain⟨a,ah⟩:=c0 hi;exact ajF ⟨b' hi,bF,bI hi,bG Node.e ah,bF,bI hi,bG Node.e ah,ajc a (tx (sz:=Node.sz) au (eA ah)),rfl,df hi al,aa⟩) (ajG ⟨dG,aa⟩)
 have e:av 159 [.agg g.e,.agg g.e] [.one (B (g.cap==g.cap))]:=ajI ⟨ajH ⟨by simp,l,aa⟩,rfl,by simp,aa⟩;rwa[su]at e
theorem aje(l:bD)(al:l.sz<=8388608):av 263 [.agg l.e,.agg l.e] [.one (B true)]:=by
 have e:av 263 [.agg l.e,.agg l.e] [.one (B (l.du==l.du))]:=ajJ ⟨by simp,Ec l.queue al,rfl,by simp,by simp,by simp,aa⟩;rwa[su]at e
theorem KB(w:aS)(hw:w.sz<=8388608):av 47 [.agg w.e,.agg w.e] [.one (B true)]:=by
 simp only[aS.sz]at hw;exact ajN ⟨Ec _ (by omega),rfl,Ec _ (by omega),rfl,Ec _ (by omega),rfl,ajb (by omega),rfl,T3 _ (by omega),rfl,T4 (by omega),rfl,T4 (by omega),rfl,ai8 (by omega),aa⟩
theorem KC(c:bd)(ai:c.sz<=8388608):av 35 [.agg c.e,.agg c.e] [.one (B true)]:=by
 simp only[bd.sz]at ai;have hw:fb aS.sz c.az<=8388608:=by omega
 have al:fb bD.sz c.bZ<=8388608:=by omega
 have kw:=xq hw;have lU:=xq al;have lk:=eY (P:=prog) (c:=(aq f160 0)) (cM 0) c.az.length (fun i:Nat=>Ac (c.az.map aS.e) (c.az.map aS.e) i) (fun i hi=>by
  obtain⟨a,ah⟩:=c0 hi;exact ajO ⟨b' hi,bF,bI hi,bG aS.e ah,bF,bI hi,bG aS.e ah,KB a (tx hw (eA ah)),rfl,df hi kw,aa⟩) (ajP ⟨dG,aa⟩)
 have zb:=eY (P:=prog) (c:=(aq f161 0)) (cM 0) c.bZ.length (fun i:Nat=>Ab (c.bZ.map bD.e) (c.bZ.map bD.e) i) (fun i hi=>by
  obtain⟨a,ah⟩:=c0 hi;exact ajK ⟨b' hi,bF,bI hi,bG bD.e ah,bF,bI hi,bG bD.e ah,aje a (tx al (eA ah)),rfl,df hi lU,aa⟩) (ajL ⟨dG,aa⟩)
 exact ajR ⟨ajd c.aF (by omega),rfl,ajQ ⟨by simp,lk,aa⟩,rfl,ajM ⟨by simp,zb,aa⟩,rfl,ai9 (by omega),rfl,aja (by omega),aa⟩
