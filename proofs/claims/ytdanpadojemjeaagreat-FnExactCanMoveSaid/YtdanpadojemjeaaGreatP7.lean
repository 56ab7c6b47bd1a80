/- WithoutOne, Consumed, AllPicks: what program and reference compute. -/
import Derived.Test.YtdanpadojemjeaaGreatP9
import Derived.Test.YtdanpadojemjeaaGreatQ1
set_option linter.unusedVariables false
set_option linter.unusedSimpArgs false
namespace Go.Proofs.YtdanpadojemjeaaGreat
open Go.Sx Go.RowKit Go.Proofs.Tryz
def qbN(w:Nat):List Pick:=[⟨1,w,0⟩,⟨3,w,0⟩,⟨2,w,0⟩,⟨7,w,0⟩]
def twoOf(a b:Nat):List Pick:=if a=b then [] else [⟨4,a,b⟩,⟨5,a,b⟩]
def qck(n:Nat):List Pick:=(List.range n).flatMap qbN
def qc5(a n:Nat):List Pick:=(List.range n).flatMap (twoOf a)
def qcA(m n:Nat):List Pick:=(List.range n).flatMap fun a=>qc5 a m
def oneOf(e:Nat):List Pick:=[⟨6,e,0⟩]
def qdG(n:Nat):List Pick:=(List.range n).flatMap oneOf
def qbv(c:Cluster):List Pick:=qck (qci c.graph.workers 0 4).toNat++qcA (qci c.graph.workers 0 4).toNat (qci c.graph.workers 0 4).toNat++qdG 4
theorem qrS(n:Nat):qck (n+1)=qck n++qbN n:=by simp[qck,List.range_succ]
theorem qrT(a n:Nat):qc5 a (n+1)=qc5 a n++twoOf a n:=by simp[qc5,List.range_succ]
theorem qrU(m n:Nat):qcA m (n+1)=qcA m n++qc5 n m:=by simp[qcA,List.range_succ]
theorem qrV(n:Nat):qdG (n+1)=qdG n++[⟨6,n,0⟩]:=by simp[qdG,List.range_succ,oneOf]
theorem qhU(n:Nat):(qck n).length≤n*4:=by
 have h:=qhr qbN 4 (fun _=>by simp[qbN]) (List.range n)
 rwa[zct]at h
theorem qmd(a n:Nat):(qc5 a n).length≤n*2:=by
 have h:=qhr (twoOf a) 2 (fun b=>by unfold twoOf;split<;>simp) (List.range n)
 rwa[zct]at h
theorem qhV(m n:Nat):(qcA m n).length≤n*(m*2):=by
 have h:=qhr (fun a=>qc5 a m) (m*2) (fun a=>qmd a m) (List.range n)
 rwa[zct]at h
theorem qme(n:Nat):(qdG n).length≤n*1:=by
 have h:=qhr oneOf 1 (fun _=>by simp[oneOf]) (List.range n)
 rwa[zct]at h
theorem qmf(n:Int):∃k:Nat,qci n 0 4=k∧k≤4:=by
 refine⟨(qci n 0 4).toNat,?_,?_⟩<;>(unfold qci;simp only[show ¬(4:Int)<0 by omega,zci];split<;>(try split)<;>omega)
theorem mulLe(a b:Nat)(ha:a≤4)(hb:b≤4):a*(b*2)≤32:=by
 have:=Nat.mul_le_mul ha (zB 2 hb)
 omega
theorem qgD(c:Cluster):(qbv c).length≤100:=by
 obtain⟨k,hk,h4⟩:=qmf c.graph.workers
 unfold qbv
 rw[hk]
 have a:=qhU k
 have b:=qhV k k
 have e:=qme 4
 have m:=mulLe k k h4 h4
 simp only[zab,zae]
 omega
theorem qhW(c:Cluster):Rt 83 [.agg c.e] [.one (.sl 3 ((qbv c).map Pick.e))]:=by
 have b:=qpt c.graph.workers 0 4
 obtain⟨k,hk,h4⟩:=qmf c.graph.workers
 unfold qbv
 rw[hk]at b ⊢
 have la:=qhU k
 have lc:=qhV k k
 have m:=mulLe k k h4 h4
 have l0:=qaq (P:=prog) (c:=(qaa f83 0)) (qaf 0) k (fun i:Nat=>qhl k i ((qck i).map Pick.e)) (fun i hi=>by
  have h1:=qhU i
  rw[qrS,zU]
  exact qyq ⟨dT (by omega),by simp;omega,by simp;omega,qae Pick.e Pick.flat (qbN i),⟨by omega,by omega⟩,trivial⟩) (qyr ⟨dF (by omega),trivial⟩)
 have l2:=fun (a:Nat) (ha:a<k)=>qaq (P:=prog) (c:=(qaa f83 2)) (qaf 4) k (fun i:Nat=>qeS k a i ((qck k++qcA k a++qc5 a i).map Pick.e)) (fun i hi=>by
  have h1:=qmd a i
  have h2:=qhV k a
  have h3:=mulLe a k (by omega) h4
  rw[qrT,←zba,zU (l₂:=twoOf a i)]
  by_cases hab:a=i
  ·have e:(twoOf a i).map Pick.e=[]:=by simp[twoOf,hab]
   rw[e,zaa]
   exact qyt ⟨dT (by omega),by simp[hab],⟨by omega,by omega⟩,trivial⟩
  ·have e:(twoOf a i).map Pick.e=[[I 4,I a,I i],[I 5,I a,I i]]:=by simp[twoOf,hab,Pick.e]
   rw[e]
   have hf:Flat [[I 4,I a,I i],[I 5,I a,I i]]:=by rw[←e];exact qae Pick.e Pick.flat _
   exact qys ⟨dT (by omega),by simp;omega,by simp;omega,by simp;omega,hf,⟨by omega,by omega⟩,trivial⟩) (qyu ⟨dF (by omega),trivial⟩)
 have l1:=qaq (P:=prog) (c:=(qaa f83 1)) (qaf 2) k (fun i:Nat=>qhm k i ((qck k++qcA k i).map Pick.e)) (fun i hi=>by
  have h:=l2 i hi
  rw[qrU,←zba]
  simp only[qc5,zcq,zcm,zaa]at h
  exact qyv ⟨dT (by omega),h,⟨by omega,by omega⟩,trivial⟩) (qyw ⟨dF (by omega),trivial⟩)
 have l3:=qaq (P:=prog) (c:=(qaa f83 3)) (qaf 6) 4 (fun i:Nat=>qhn i ((qck k++qcA k k++qdG i).map Pick.e)) (fun i hi=>by
  have h1:=qme i
  rw[qrV,←zba,zU (l₂:=[_])]
  exact qyx ⟨dT (by omega),by simp;omega,by simp;omega,qae Pick.e Pick.flat [⟨6,i,0⟩],⟨by omega,by omega⟩,trivial⟩) (qyy ⟨dF (by omega),trivial⟩)
 simp only[qcA,zcq,zcm,zaa]at l1
 simp only[qdG,zcq,zcm,zaa]at l3
 rw[zae]
 exact qyz ⟨b,l0,l1,l3,trivial⟩
theorem qrW(c:Cluster):Rt 85 [.agg c.e] [.one (.sl 3 ((qbv c).map Pick.e))]:=by
 have b:=qpu c.graph.workers 0 4
 obtain⟨k,hk,h4⟩:=qmf c.graph.workers
 unfold qbv
 rw[hk]at b ⊢
 have la:=qhU k
 have lc:=qhV k k
 have m:=mulLe k k h4 h4
 have l1:=fun (w:Nat) (hw:w<k)=>qaq (P:=prog) (c:=(qaa f85 1)) (qaf 2) 4 (fun i:Nat=>qdD k w i ((qck w).map Pick.e++((qbN w).take i).map Pick.e)) (fun i hi=>by
  have h1:=qhU w
  match i,hi with
  | 0,_=>exact tr_to (qdD k w (((0:Nat):Int)+1)) (qiL ⟨rfl,by omega,by decide,rfl,by simp[qbN];omega,by simp[qbN];omega,qae Pick.e Pick.flat [⟨1,w,0⟩],⟨by omega,by omega⟩,trivial⟩) (by simp[qbN,Pick.e])
  | 1,_=>exact tr_to (qdD k w (((1:Nat):Int)+1)) (qiL ⟨rfl,by omega,by decide,rfl,by simp[qbN];omega,by simp[qbN];omega,qae Pick.e Pick.flat [⟨3,w,0⟩],⟨by omega,by omega⟩,trivial⟩) (by simp[qbN,Pick.e])
  | 2,_=>exact tr_to (qdD k w (((2:Nat):Int)+1)) (qiL ⟨rfl,by omega,by decide,rfl,by simp[qbN];omega,by simp[qbN];omega,qae Pick.e Pick.flat [⟨2,w,0⟩],⟨by omega,by omega⟩,trivial⟩) (by simp[qbN,Pick.e])
  | 3,_=>exact tr_to (qdD k w (((3:Nat):Int)+1)) (qiL ⟨rfl,by omega,by decide,rfl,by simp[qbN];omega,by simp[qbN];omega,qae Pick.e Pick.flat [⟨7,w,0⟩],⟨by omega,by omega⟩,trivial⟩) (by simp[qbN,Pick.e])) (qyA ⟨rfl,trivial⟩)
 have l0:=qaq (P:=prog) (c:=(qaa f85 0)) (qaf 0) k (fun i:Nat=>qho k i ((qck i).map Pick.e)) (fun i hi=>by
  have h:=l1 i hi
  rw[qrS,zU]
  simp only[List.take_zero,List.map_nil,zaa]at h
  exact qyB ⟨dT (by omega),h,⟨by omega,by omega⟩,trivial⟩) (qyC ⟨dF (by omega),trivial⟩)
 have l3:=fun (a:Nat) (ha:a<k)=>qaq (P:=prog) (c:=(qaa f85 3)) (qaf 6) k (fun i:Nat=>qeT k a i ((qck k++qcA k a++qc5 a i).map Pick.e)) (fun i hi=>by
  have h1:=qmd a i
  have h2:=qhV k a
  have h3:=mulLe a k (by omega) h4
  rw[qrT,←zba,zU (l₂:=twoOf a i)]
  by_cases hab:a=i
  ·have e:(twoOf a i).map Pick.e=[]:=by simp[twoOf,hab]
   rw[e,zaa]
   exact qyE ⟨dT (by omega),by simp[hab],⟨by omega,by omega⟩,trivial⟩
  ·have e:(twoOf a i).map Pick.e=[[I 4,I a,I i],[I 5,I a,I i]]:=by simp[twoOf,hab,Pick.e]
   rw[e]
   have hf:Flat [[I 4,I a,I i],[I 5,I a,I i]]:=by rw[←e];exact qae Pick.e Pick.flat _
   exact qyD ⟨dT (by omega),by simp;omega,by simp;omega,by simp;omega,hf,⟨by omega,by omega⟩,trivial⟩) (qyF ⟨dF (by omega),trivial⟩)
 have l2:=qaq (P:=prog) (c:=(qaa f85 2)) (qaf 4) k (fun i:Nat=>qhp k i ((qck k++qcA k i).map Pick.e)) (fun i hi=>by
  have h:=l3 i hi
  rw[qrU,←zba]
  simp only[qc5,zcq,zcm,zaa]at h
  exact qyG ⟨dT (by omega),h,⟨by omega,by omega⟩,trivial⟩) (qyH ⟨dF (by omega),trivial⟩)
 have l4:=qaq (P:=prog) (c:=(qaa f85 4)) (qaf 8) 4 (fun i:Nat=>qhq i ((qck k++qcA k k++qdG i).map Pick.e)) (fun i hi=>by
  have h1:=qme i
  rw[qrV,←zba,zU (l₂:=[_])]
  exact qyI ⟨dT (by omega),by simp;omega,by simp;omega,qae Pick.e Pick.flat [⟨6,i,0⟩],⟨by omega,by omega⟩,trivial⟩) (qyJ ⟨dF (by omega),trivial⟩)
 simp only[qcA,zcq,zcm,zaa]at l2
 simp only[qdG,zcq,zcm,zaa]at l4
 rw[zae]
 exact qyK ⟨b,l0,l2,l4,trivial⟩
end Go.Proofs.YtdanpadojemjeaaGreat
