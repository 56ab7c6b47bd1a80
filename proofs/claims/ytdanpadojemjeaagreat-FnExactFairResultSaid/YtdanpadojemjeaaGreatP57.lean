/- FairResult: what program and reference compute. -/
import Derived.Test.YtdanpadojemjeaaGreatP51
import Derived.Test.YtdanpadojemjeaaGreatP55
import Derived.Test.YtdanpadojemjeaaGreatP56
import Derived.Test.YtdanpadojemjeaaGreatP9
set_option linter.unusedVariables false
set_option linter.unusedSimpArgs false
namespace Go.Proofs.YtdanpadojemjeaaGreat
open Go.Sx Go.RowKit
theorem qlX{α:Type}{f:α→Nat}{k:Nat}:∀{xs:List α},(∀x∈xs,f x≤k)→(xs.map f).sum≤xs.length*k
 | [],_=>by simp
 | a::xs,h=>by
  have h1:=h a (by simp)
  have h2:=qlX (f:=f) (k:=k) (xs:=xs) (fun x hx=>h x (by simp[hx]))
  simp only[zav,zcw,zq,zR,Nat.one_mul]
  omega
theorem qrg{g:Graph}{xs:List Record}:newOk g xs=true↔qas g=true∧xs.length≤20∧xs.any qcK=false:=by
 simp only[newOk,zj,zi,zS,and_assoc]
theorem qlY{g:Graph}{xs:List Record}(h:newOk g xs=true):(qbn g xs).sz≤g.sz+1000:=by
 obtain⟨h1,h2,_⟩:=qrg.1 h
 have hn:=qbK h1
 obtain⟨n,hnn⟩:∃n:Nat,g.workers=n:=⟨g.workers.toNat,by omega⟩
 have a:=qlX (f:=Worker.sz) (k:=92) (xs:=qcM g xs n) (fun x hx=>by
  simp only[qcM,zbm]at hx
  obtain⟨w,_,rfl⟩:=hx
  have:=qlW (g:=g) h2 (w:Nat)
  simp only[qhn,Worker.sz,zh,List.length_replicate]
  omega)
 have b:=qlX (f:=Link.sz) (k:=0) (xs:=List.replicate (n*n) (qcL g.cap)) (fun x hx=>by
  rw[List.eq_of_mem_replicate hx];simp[qcL,Link.sz])
 have hm:n*n≤4*4:=Nat.mul_le_mul (by omega) (by omega)
 simp only[qbn,Cluster.sz,szS,hnn,zae,List.length_replicate,zh,qiS]at a b ⊢
 omega
theorem qrh(g:Graph)(xs:List Record):GotLe (qbn g xs):=by
 intro l hl
 have:=List.eq_of_mem_replicate hl
 subst this
 simp[qcL]
theorem qri{g:Graph}{xs:List Record}(h:newOk g xs=true):0<(qbn g xs).workers.length:=by
 have hn:=qbK (qrg.1 h).1
 simp only[qbn,qiS]
 omega
theorem qrj(c:Cluster)(most:Int):Kept' c (qbN c most).1:=qq1 _ _ _
theorem qlZ(c:Cluster)(most:Int):(qbN c most).1.sz≤c.sz+1200000:=by
 obtain⟨m,hm,hb⟩:=qlQ most
 unfold qbN
 rw[hm,zae]
 have:=qq0 m c 0
 omega
def qcb(g:Graph)(xs:List Record)(e:Int):List Cell×Bool:=
 if newOk g xs then match (qbN (qbn g xs) 3000).1.workers[0]? with
  | some w=>(qdV (qbN (qbn g xs) 3000).1 e,(qb1 w e).2&&!(qb1 w e).1.capped)
  | none=>([],false)
 else ([],false)
theorem qLU(g:Graph)(xs:List Record)(e:Int)(hg:g.sz+1300000≤8388608):Rt 40 [.agg g.e,.one (.sl 5 (xs.map Record.e)),.one (I e)] [.one (.sl 4 ((qcb g xs e).1.map Cell.e)),.one (B (qcb g xs e).2)]:=by
 have nw:=qLN g xs (by omega)
 cases h:newOk g xs with
 | false=>
  rw[qej h]at nw
  rw[show qcb g xs e=([],false) by unfold qcb;rw[h];rfl]
  exact qLz ⟨nw,rfl,trivial⟩
 | true=>
  rw[qiT h]at nw
  have hs:=qlY h
  have fr:=qKR (qbn g xs) 3000 (by omega) (qrh g xs)
  have hz:=qlZ (qbn g xs) 3000
  have hl:=(qrj (qbn g xs) 3000).wlen
  have hp:=qri h
  have fe:qcb g xs e=match (qbN (qbn g xs) 3000).1.workers[0]? with
    | some w=>(qdV (qbN (qbn g xs) 3000).1 e,(qb1 w e).2&&!(qb1 w e).1.capped)
    | none=>([],false):=by unfold qcb;rw[h];rfl
  rw[fe]
  generalize qbN (qbn g xs) 3000=o at*
  obtain⟨w,hw⟩:=qai (xs:=o.1.workers) (i:=0) (by omega)
  rw[hw]
  have dn:=qLS w e (Cluster.worker_sz1 (c:=o.1) (by omega) (qar hw))
  have oc:=qxY o.1 e (by omega)
  have h0:(o.1.workers.map Worker.e)[0]?=some w.e:=by simp[hw]
  dsimp only
  cases h5:(qb1 w e).2 with
  | true=>
   rw[h5]at dn
   rw[zbl]
   exact qLA ⟨nw,rfl,fr,by omega,by rw[zb];omega,h0,dn,oc,rfl,trivial⟩
  | false=>
   rw[h5]at dn
   rw[Bool.false_and]
   exact qLB ⟨nw,rfl,fr,by omega,by rw[zb];omega,h0,dn,oc,rfl,trivial⟩
theorem qLV(g:Graph)(xs:List Record)(e:Int)(hg:g.sz+1300000≤8388608):Rt 43 [.agg g.e,.one (.sl 5 (xs.map Record.e)),.one (I e)] [.one (.sl 4 ((qcb g xs e).1.map Cell.e)),.one (B (qcb g xs e).2)]:=by
 have nw:=qLR g xs (by omega)
 cases h:newOk g xs with
 | false=>
  rw[qej h]at nw
  rw[show qcb g xs e=([],false) by unfold qcb;rw[h];rfl]
  exact qLC ⟨nw,rfl,trivial⟩
 | true=>
  rw[qiT h]at nw
  have hs:=qlY h
  have fr:=qKS (qbn g xs) 3000 (by omega) (qrh g xs)
  have hz:=qlZ (qbn g xs) 3000
  have hl:=(qrj (qbn g xs) 3000).wlen
  have hp:=qri h
  have fe:qcb g xs e=match (qbN (qbn g xs) 3000).1.workers[0]? with
    | some w=>(qdV (qbN (qbn g xs) 3000).1 e,(qb1 w e).2&&!(qb1 w e).1.capped)
    | none=>([],false):=by unfold qcb;rw[h];rfl
  rw[fe]
  generalize qbN (qbn g xs) 3000=o at*
  obtain⟨w,hw⟩:=qai (xs:=o.1.workers) (i:=0) (by omega)
  rw[hw]
  have dn:=qLT w e (Cluster.worker_sz1 (c:=o.1) (by omega) (qar hw))
  have oc:=qxZ o.1 e (by omega)
  have h0:(o.1.workers.map Worker.e)[0]?=some w.e:=by simp[hw]
  dsimp only
  cases h5:(qb1 w e).2 with
  | true=>
   rw[h5]at dn
   rw[zbl]
   exact qLD ⟨nw,rfl,fr,by omega,by rw[zb];omega,h0,dn,oc,rfl,trivial⟩
  | false=>
   rw[h5]at dn
   rw[Bool.false_and]
   exact qLE ⟨nw,rfl,fr,by omega,by rw[zb];omega,h0,dn,oc,rfl,trivial⟩
theorem qLW(g:Graph)(xs:List Record)(e:Int)(hg:g.sz+1300000≤8388608):(qcb g xs e).1.length≤8388608:=by
 unfold qcb
 cases h:newOk g xs with
 | false=>simp
 | true=>
  have hs:=qlY h
  have hz:=qlZ (qbn g xs) 3000
  rw[zp rfl]
  split
  ·exact qxX (by omega)
  ·simp
end Go.Proofs.YtdanpadojemjeaaGreat
