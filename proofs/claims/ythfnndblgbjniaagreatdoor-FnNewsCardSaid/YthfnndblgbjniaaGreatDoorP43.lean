import Derived.Test.YthfnndblgbjniaaGreatDoorC0
import Derived.Test.YthfnndblgbjniaaGreatDoorGV
set_option linter.unusedVariables false
set_option linter.unusedSimpArgs false
namespace Go.Proofs.YthfnndblgbjniaaGreatDoor
open Go.Sx Go.RowKit Go.Proofs.Tryz
theorem xq(xs:List Int):Flat (xs.map ba):=dD ba (fun _ _ aF=>⟨_,List.mem_singleton.1 aF⟩) xs
theorem xp(xs:List Bool):Flat (xs.map cu):=dD cu (fun _ _ aF=>⟨_,List.mem_singleton.1 aF⟩) xs
theorem ca.flat(r:ca):∀d∈r.e,∃x,d=.v x:=by
 intro d aF;simp only[ca.e,ep,l9,or_false]at aF;rcases aF with rfl | rfl<;>exact⟨_,rfl⟩
theorem bR.flat(r:bR):∀d∈r.e,∃x,d=.v x:=by
 intro d aF;simp only[bR.e,ep,l9,or_false]at aF;rcases aF with rfl | rfl | rfl<;>exact⟨_,rfl⟩
theorem b4.flat(r:b4):∀d∈r.e,∃x,d=.v x:=by
 intro d aF;simp only[b4.e,ep,l9,or_false]at aF;rcases aF with rfl | rfl | rfl | rfl | rfl<;>exact⟨_,rfl⟩
theorem wR{α:Type}{f:α->List D}{xs:List α}{i:Nat}{a:α}(h:xs[i]?=some a):(xs.take (i+1)).map f=(xs.take i).map f++[f a]:=by simp[rS,h]
theorem nl{l:List (List D)}{k m:Nat}(h:l.length*k<=m):(([]:List (List D)).length+l.length)*k<=m:=by simpa using h
theorem jf{l:List (List D)}{m:Nat}(h:l.length<=m):([]:List (List D)).length+l.length<=m:=by simpa using h
theorem b1.Nh{g:b1}(h:g.sz<=8388608){x:Node}(ao:x∈g.nodes):x.sz<=8388608:=uU (sz:=Node.sz) (xs:=g.nodes) (m:=8388608) (by simp only[b1.sz]at h;omega) ao
theorem b1.Ni{g:b1}(h:g.sz<=8388608):g.nodes.length<=8388608:=by simp only[b1.sz,eO]at h;omega
theorem bb.Dq{c:bb}(h:c.sz<=8388608){w:aR}(hw:w∈c.aB):w.sz<=8388608:=uU (sz:=aR.sz) (xs:=c.aB) (m:=8388608) (by simp only[bb.sz]at h;omega) hw
theorem bb.Gz{c:bb}(h:c.sz<=8388608){w:bA}(hw:w∈c.b2):w.sz<=8388608:=uU (sz:=bA.sz) (xs:=c.b2) (m:=8388608) (by simp only[bb.sz]at h;omega) hw
theorem bb.nh{c:bb}(h:c.sz<=8388608):c.aG.sz<=8388608:=by simp only[bb.sz]at h;omega
theorem acU(x:Node)(h:x.sz<=8388608):ax 125 [.agg x.e] [.agg x.e]:=by
 simp only[Node.sz]at h;exact abT ⟨nl (by simp;omega),jf (by simp;omega),xq _,ad⟩
theorem acV(x:bA)(h:x.sz<=8388608):ax 77 [.agg x.e] [.agg x.e]:=
 abX ⟨Cl x.queue h,ad⟩
theorem C2(x:bA)(h:x.sz<=8388608):ax 137 [.agg x.e] [.agg x.e]:=by
 simp only[bA.sz]at h;exact abu ⟨nl (by simp;omega),jf (by simp;omega),dD _ aH.flat _,ad⟩
theorem acW(x:aR)(h:x.sz<=8388608):ax 76 [.agg x.e] [.agg x.e]:=by
 simp only[aR.sz]at h;exact abY ⟨Cl x.queue (by omega),Cl x.cn (by omega),Cl x.cb (by omega),aob x.cells (by omega),nl (by simp;omega),jf (by simp;omega),xq _,nl (by simp;omega),jf (by simp;omega),xp _,nl (by simp;omega),jf (by simp;omega),xp _,nl (by simp;omega),jf (by simp;omega),dD _ ca.flat _,ad⟩
theorem wS(x:aR)(h:x.sz<=8388608):ax 136 [.agg x.e] [.agg x.e]:=by
 simp only[aR.sz]at h;exact aby ⟨nl (by simp;omega),jf (by simp;omega),dD _ aH.flat _,nl (by simp;omega),jf (by simp;omega),dD _ aH.flat _,nl (by simp;omega),jf (by simp;omega),dD _ aH.flat _,nl (by simp;omega),jf (by simp;omega),dD _ Cell.flat _,nl (by simp;omega),jf (by simp;omega),xq _,nl (by simp;omega),jf (by simp;omega),xp _,nl (by simp;omega),jf (by simp;omega),xp _,nl (by simp;omega),jf (by simp;omega),dD _ ca.flat _,ad⟩
theorem acX(g:b1)(ay:g.sz<=8388608):ax 75 [.agg g.e] [.agg g.e]:=by
 have a7:=b1.Ni ay;have l:=eu (P:=prog) (c:=(aq f75 0)) (cI 0) g.nodes.length (fun i:Nat=>zp (g.nodes.map Node.e) i ((g.nodes.take i).map Node.e) g.aB g.cap 0 0) (fun i hi=>by
  obtain⟨a,ai⟩:=cS hi;rw[wR ai];exact abU ⟨b3 hi,bn,bt hi,bp Node.e ai,acU a (b1.Nh ay (ee ai)),by simp;omega,by simp;omega,cT hi a7,ad⟩) (abV ⟨dv,ad⟩)
 rw[jH]at l;exact abW ⟨l,ad⟩
theorem Q9(g:b1)(ay:g.sz<=8388608):ax 135 [.agg g.e] [.agg g.e]:=by
 have a7:=b1.Ni ay;have l:=eu (P:=prog) (c:=(aq f135 0)) (cI 0) g.nodes.length (fun i:Nat=>zt i ((g.nodes.take i).map Node.e) g.aB g.cap 0 0 (g.nodes.map Node.e) g.aB g.cap) (fun i hi=>by
  obtain⟨a,ai⟩:=cS hi;have aj:=b1.Nh ay (ee ai);simp only[Node.sz]at aj;rw[wR ai];exact abv ⟨b3 hi,bn,bt hi,bp Node.e ai,nl (by simp;omega),jf (by simp;omega),xq _,by simp;omega,by simp;omega,cT hi a7,ad⟩) (abw ⟨dv,ad⟩)
 rw[jH]at l;exact abx ⟨l,ad⟩
theorem acY(c:bb)(ap:c.sz<=8388608):ax 38 [.agg c.e] [.agg c.e]:=by
 have hw:=bb.vf ap;have au:=bb.Bo ap;have bZ:c.tokens.length<=8388608:=by simp only[bb.sz,eO]at ap;omega
 have ao:c.news.length<=8388608:=by simp only[bb.sz,eO]at ap;omega
 have fk:=eu (P:=prog) (c:=(aq f38 0)) (cI 0) c.aB.length (fun i:Nat=>zq (c.aB.map aR.e) i (c.aG.nodes.map Node.e) c.aG.aB c.aG.cap ((c.aB.take i).map aR.e) (c.tokens.map b4.e) (c.news.map bR.e) 0 0 (c.aG.nodes.map Node.e) c.aG.aB c.aG.cap (c.aB.map aR.e) (c.b2.map bA.e) (c.tokens.map b4.e) (c.news.map bR.e)) (fun i hi=>by
  obtain⟨a,ai⟩:=cS hi;rw[wR ai];exact abZ ⟨b3 hi,bn,bt hi,bp aR.e ai,acW a (bb.Dq ap (ee ai)),by simp;omega,by simp;omega,cT hi hw,ad⟩) (ab0 ⟨dv,ad⟩)
 have kI:=eu (P:=prog) (c:=(aq f38 1)) (cI 2) c.b2.length (fun i:Nat=>zr (c.b2.map bA.e) i (c.aG.nodes.map Node.e) c.aG.aB c.aG.cap (c.aB.map aR.e) ((c.b2.take i).map bA.e) (c.tokens.map b4.e) (c.news.map bR.e) 0 0) (fun i hi=>by
  obtain⟨a,ai⟩:=cS hi;rw[wR ai];exact ab1 ⟨b3 hi,bn,bt hi,bp bA.e ai,acV a (bb.Gz ap (ee ai)),by simp;omega,by simp;omega,cT hi au,ad⟩) (ab2 ⟨dv,ad⟩)
 rw[jH]at fk kI;exact abt ⟨acX c.aG (bb.nh ap),nl (by simp;omega),jf (by simp;omega),dD _ b4.flat _,nl (by simp;omega),jf (by simp;omega),dD _ bR.flat _,fk,kI,ad⟩
theorem acZ(c:bb)(ap:c.sz<=8388608):ax 83 [.agg c.e] [.agg c.e]:=by
 have hw:=bb.vf ap;have au:=bb.Bo ap;have bZ:c.tokens.length<=8388608:=by simp only[bb.sz,eO]at ap;omega
 have ao:c.news.length<=8388608:=by simp only[bb.sz,eO]at ap;omega
 have fk:=eu (P:=prog) (c:=(aq f83 0)) (cI 0) c.aB.length (fun i:Nat=>zu i (c.aG.nodes.map Node.e) c.aG.aB c.aG.cap ((c.aB.take i).map aR.e) (c.tokens.map b4.e) (c.news.map bR.e) 0 0 (c.aG.nodes.map Node.e) c.aG.aB c.aG.cap (c.aB.map aR.e) (c.b2.map bA.e) (c.tokens.map b4.e) (c.news.map bR.e)) (fun i hi=>by
  obtain⟨a,ai⟩:=cS hi;rw[wR ai];exact abz ⟨b3 hi,bn,bt hi,bp aR.e ai,wS a (bb.Dq ap (ee ai)),by simp;omega,by simp;omega,cT hi hw,ad⟩) (abA ⟨dv,ad⟩)
 have kI:=eu (P:=prog) (c:=(aq f83 1)) (cI 2) c.b2.length (fun i:Nat=>zv i (c.aG.nodes.map Node.e) c.aG.aB c.aG.cap (c.aB.map aR.e) ((c.b2.take i).map bA.e) (c.tokens.map b4.e) (c.news.map bR.e) 0 0 (c.aG.nodes.map Node.e) c.aG.aB c.aG.cap (c.aB.map aR.e) (c.b2.map bA.e) (c.tokens.map b4.e) (c.news.map bR.e)) (fun i hi=>by
  obtain⟨a,ai⟩:=cS hi;rw[wR ai];exact abB ⟨b3 hi,bn,bt hi,bp bA.e ai,C2 a (bb.Gz ap (ee ai)),by simp;omega,by simp;omega,cT hi au,ad⟩) (abC ⟨dv,ad⟩)
 rw[jH]at fk kI;exact ac6 ⟨Q9 c.aG (bb.nh ap),nl (by simp;omega),jf (by simp;omega),dD _ b4.flat _,nl (by simp;omega),jf (by simp;omega),dD _ bR.flat _,fk,kI,ad⟩
end Go.Proofs.YthfnndblgbjniaaGreatDoor
namespace Go.Proofs.YthfnndblgbjniaaGreatDoor
open Go.Sx Go.RowKit Go.Proofs.Tryz
def ga(w:aR)(e:Int):Bool:=w.bx.any fun d=>d.bh==e
theorem aR.L1{w:aR}(h:w.sz<=8388608):w.bx.length<=8388608:=by simp only[aR.sz]at h;omega
theorem bb.vg{c:bb}(h:c.sz<=8388608){w:aR}(au:w∈c.aB):w.sz<=8388608:=by
 have:=CS (sz:=aR.sz) au;simp only[bb.sz,eO]at h;omega
theorem bb.GI{c:bb}(h:c.sz<=8388608):c.news.length<=8388608:=by simp only[bb.sz,eO]at h;omega
theorem Ji(w:aR)(e:Int)(hw:w.sz<=8388608):ax 21 [.agg w.e,.one (I e)] [.one (B (ga w e))]:=by
 have au:=aR.L1 hw;have l:=gv (P:=prog) (c:=(aq f21 0)) w.bx (fun d=>d.bh==e) (fun i=>uZ (w.queue.map aH.e) (w.cn.map aH.e) (w.cb.map aH.e) (w.cells.map Cell.e) (w.bN.map ba) (w.bW.map cu) (w.bB.map cu) (w.bx.map ca.e) e i) (X:=fun _ _=>Jr true) eJ (cI 0)
  (fun i a ai h=>alg ⟨b3 (aZ ai),bn,bt (aZ ai),bp ca.e ai,h,cT (aZ ai) au,ad⟩)
  (fun i a ai h=>alf ⟨b3 (aZ ai),bn,bt (aZ ai),bp ca.e ai,h,ad⟩)
  (alh ⟨dv,ad⟩)
 unfold ga;rcases l with⟨_,_,U,aa⟩ | ⟨i,a,_,_,_,_,U,aa⟩
 ·rw[U];exact alj ⟨aa,ad⟩
 rw[U];exact ali ⟨aa,ad⟩
theorem Q'(xs:List ca)(e:Int)(au:xs.length<=8388608):ax 82 [.one (.J 2 (xs.map ca.e)),.one (I e)] [.one (B (xs.any fun d=>d.bh==e))]:=
 alk ⟨an9 xs (fun d=>d.bh==e) _ _ au (by kernel_rfl) (fun x _=>alm trivial),ad⟩
theorem Ra(w:aR)(e:Int)(hw:w.sz<=8388608):ax 43 [.agg w.e,.one (I e)] [.one (B (ga w e))]:=
 amO ⟨Q' w.bx e (aR.L1 hw),ad⟩
def wY(c:bb)(e:Int):Bool:=c.aB.any fun w=>ga w e
def qi(c:bb)(e:Int):Bool:=c.news.any fun x=>x.bh==e
theorem C3(w:aR)(e:Int)(r:Bool)(h:ga w e=r)(hw:w.sz<=8388608):ax 21 [.agg w.e,.one (I e)] [.one (B r)]:=h▸Ji w e hw
theorem Nd{α:Type}{f:α->List D}(xs:List α)(b:Bool)(h:decide (xs.length=0)=b):((↑(xs.map f).length:Int)==0)=b:=by
 subst h;by_cases h:xs.length=0
 ·simp[h]
 rw[show decide (xs.length=0)=false from eC h];simp only[cr,Al,l'];omega
