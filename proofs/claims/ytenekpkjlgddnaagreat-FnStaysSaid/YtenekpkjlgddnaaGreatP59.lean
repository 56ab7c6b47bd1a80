/- What a new cluster is like. -/
import Derived.Test.YtenekpkjlgddnaaGreatP55
set_option linter.unusedVariables false
set_option linter.unusedSimpArgs false
namespace Go.Proofs.YtenekpkjlgddnaaGreat
open Go.Sx Go.RowKit
theorem qip{α:Type}{f:α→Nat}{k:Nat}:∀{xs:List α},(∀x∈xs,f x≤k)→(xs.map f).sum≤xs.length*k
 | [],_=>by simp
 | a::xs,h=>by
  have h1:=h a (by simp)
  have h2:=qip (f:=f) (k:=k) (xs:=xs) (fun x hx=>h x (by simp[hx]))
  simp only[zav,zcw,zq,zR,Nat.one_mul]
  omega
theorem qlR{g:Graph}{xs:List Record}:newOk g xs=true↔qak g=true∧xs.length≤20∧xs.any qcI=false:=by
 simp only[newOk,zj,zi,zS,and_assoc]
theorem qxC{g:Graph}{xs:List Record}(h:newOk g xs=true):(qcJ g xs).sz≤g.sz+1000:=by
 obtain⟨h1,h2,_⟩:=qlR.1 h
 have hn:=qcF h1
 obtain⟨n,hnn⟩:∃n:Nat,g.workers=n:=⟨g.workers.toNat,by omega⟩
 have a:=qip (f:=Worker.sz) (k:=92) (xs:=qcu g xs n) (fun x hx=>by
  simp only[qcu,zbm]at hx
  obtain⟨w,_,rfl⟩:=hx
  have:=qlP (g:=g) h2 (w:Nat)
  simp only[qgd,Worker.sz,zh,List.length_replicate]
  omega)
 have b:=qip (f:=Link.sz) (k:=0) (xs:=List.replicate (n*n) (qdb g.cap)) (fun x hx=>by
  rw[List.eq_of_mem_replicate hx];simp[qdb,Link.sz])
 have hm:n*n≤4*4:=Nat.mul_le_mul (by omega) (by omega)
 simp only[qcJ,Cluster.sz,szS,hnn,zae,List.length_replicate,zh,qin]at a b ⊢
 omega
theorem qxD(g:Graph)(xs:List Record):GotLe (qcJ g xs):=by
 intro l hl
 have:=List.eq_of_mem_replicate hl
 subst this
 simp[qdb]
end Go.Proofs.YtenekpkjlgddnaaGreat
