/- WithoutOne, Consumed, AllPicks: what program and reference compute. -/
import Derived.Test.YtdanpadojemjeaaGreatP9
import Derived.Test.YtdanpadojemjeaaGreatQ1
set_option linter.unusedVariables false
set_option linter.unusedSimpArgs false
namespace Go.Proofs.YtdanpadojemjeaaGreat
open Go.Sx Go.RowKit Go.Proofs.Tryz
def qbF(w:Nat):List Pick:=[⟨1,w,0⟩,⟨3,w,0⟩,⟨2,w,0⟩,⟨7,w,0⟩]
def twoOf(a b:Nat):List Pick:=if a=b then [] else [⟨4,a,b⟩,⟨5,a,b⟩]
def qcj(n:Nat):List Pick:=(List.range n).flatMap qbF
def qc1(a n:Nat):List Pick:=(List.range n).flatMap (twoOf a)
def qcx(m n:Nat):List Pick:=(List.range n).flatMap fun a=>qc1 a m
def oneOf(e:Nat):List Pick:=[⟨6,e,0⟩]
def qdA(n:Nat):List Pick:=(List.range n).flatMap oneOf
def qbM(c:Cluster):List Pick:=qcj (qbR c.graph.workers 0 4).toNat++qcx (qbR c.graph.workers 0 4).toNat (qbR c.graph.workers 0 4).toNat++qdA 4
theorem qqV(n:Nat):qcj (n+1)=qcj n++qbF n:=by simp[qcj,List.range_succ]
theorem qqW(a n:Nat):qc1 a (n+1)=qc1 a n++twoOf a n:=by simp[qc1,List.range_succ]
theorem qqX(m n:Nat):qcx m (n+1)=qcx m n++qc1 n m:=by simp[qcx,List.range_succ]
theorem qqY(n:Nat):qdA (n+1)=qdA n++[⟨6,n,0⟩]:=by simp[qdA,List.range_succ,oneOf]
theorem qhi(n:Nat):(qcj n).length≤n*4:=by
 have h:=qfK qbF 4 (fun _=>by simp[qbF]) (List.range n)
 rwa[zct]at h
theorem qlL(a n:Nat):(qc1 a n).length≤n*2:=by
 have h:=qfK (twoOf a) 2 (fun b=>by unfold twoOf;split<;>simp) (List.range n)
 rwa[zct]at h
theorem qhj(m n:Nat):(qcx m n).length≤n*(m*2):=by
 have h:=qfK (fun a=>qc1 a m) (m*2) (fun a=>qlL a m) (List.range n)
 rwa[zct]at h
theorem qlM(n:Nat):(qdA n).length≤n*1:=by
 have h:=qfK oneOf 1 (fun _=>by simp[oneOf]) (List.range n)
 rwa[zct]at h
theorem qlN(n:Int):∃k:Nat,qbR n 0 4=k∧k≤4:=by
 refine⟨(qbR n 0 4).toNat,?_,?_⟩<;>(unfold qbR;simp only[show ¬(4:Int)<0 by omega,zci];split<;>(try split)<;>omega)
theorem mulLe(a b:Nat)(ha:a≤4)(hb:b≤4):a*(b*2)≤32:=by
 have:=Nat.mul_le_mul ha (zB 2 hb)
 omega
theorem qlO(c:Cluster):(qbM c).length≤100:=by
 obtain⟨k,hk,h4⟩:=qlN c.graph.workers
 unfold qbM
 rw[hk]
 have a:=qhi k
 have b:=qhj k k
 have e:=qlM 4
 have m:=mulLe k k h4 h4
 simp only[zab,zae]
 omega
theorem qqZ(c:Cluster):Rt 83 [.agg c.e] [.one (.sl 3 ((qbM c).map Pick.e))]:=by
 have b:=qkz c.graph.workers 0 4
 obtain⟨k,hk,h4⟩:=qlN c.graph.workers
 unfold qbM
 rw[hk]at b ⊢
 have la:=qhi k
 have lc:=qhj k k
 have m:=mulLe k k h4 h4
 have l0:=qan (P:=prog) (c:=(qaa f83 0)) (qaf 0) k (fun i:Nat=>qgF k i ((qcj i).map Pick.e)) (fun i hi=>by
  have h1:=qhi i
  rw[qqV,zU]
  exact quv ⟨dT (by omega),by simp;omega,by simp;omega,qae Pick.e Pick.flat (qbF i),⟨by omega,by omega⟩,trivial⟩) (quw ⟨dF (by omega),trivial⟩)
 have l2:=fun (a:Nat) (ha:a<k)=>qan (P:=prog) (c:=(qaa f83 2)) (qaf 4) k (fun i:Nat=>qeH k a i ((qcj k++qcx k a++qc1 a i).map Pick.e)) (fun i hi=>by
  have h1:=qlL a i
  have h2:=qhj k a
  have h3:=mulLe a k (by omega) h4
  rw[qqW,←zba,zU (l₂:=twoOf a i)]
  by_cases hab:a=i
  ·have e:(twoOf a i).map Pick.e=[]:=by simp[twoOf,hab]
   rw[e,zaa]
   exact quy ⟨dT (by omega),by simp[hab],⟨by omega,by omega⟩,trivial⟩
  ·have e:(twoOf a i).map Pick.e=[[I 4,I a,I i],[I 5,I a,I i]]:=by simp[twoOf,hab,Pick.e]
   rw[e]
   have hf:Flat [[I 4,I a,I i],[I 5,I a,I i]]:=by rw[←e];exact qae Pick.e Pick.flat _
   exact qux ⟨dT (by omega),by simp;omega,by simp;omega,by simp;omega,hf,⟨by omega,by omega⟩,trivial⟩) (quz ⟨dF (by omega),trivial⟩)
 have l1:=qan (P:=prog) (c:=(qaa f83 1)) (qaf 2) k (fun i:Nat=>qgG k i ((qcj k++qcx k i).map Pick.e)) (fun i hi=>by
  have h:=l2 i hi
  rw[qqX,←zba]
  simp only[qc1,zcq,zcm,zaa]at h
  exact quA ⟨dT (by omega),h,⟨by omega,by omega⟩,trivial⟩) (quB ⟨dF (by omega),trivial⟩)
 have l3:=qan (P:=prog) (c:=(qaa f83 3)) (qaf 6) 4 (fun i:Nat=>qgH i ((qcj k++qcx k k++qdA i).map Pick.e)) (fun i hi=>by
  have h1:=qlM i
  rw[qqY,←zba,zU (l₂:=[_])]
  exact quC ⟨dT (by omega),by simp;omega,by simp;omega,qae Pick.e Pick.flat [⟨6,i,0⟩],⟨by omega,by omega⟩,trivial⟩) (quD ⟨dF (by omega),trivial⟩)
 simp only[qcx,zcq,zcm,zaa]at l1
 simp only[qdA,zcq,zcm,zaa]at l3
 rw[zae]
 exact quE ⟨b,l0,l1,l3,trivial⟩
theorem qKM(c:Cluster):Rt 85 [.agg c.e] [.one (.sl 3 ((qbM c).map Pick.e))]:=by
 have b:=qkA c.graph.workers 0 4
 obtain⟨k,hk,h4⟩:=qlN c.graph.workers
 unfold qbM
 rw[hk]at b ⊢
 have la:=qhi k
 have lc:=qhj k k
 have m:=mulLe k k h4 h4
 have l1:=fun (w:Nat) (hw:w<k)=>qan (P:=prog) (c:=(qaa f85 1)) (qaf 2) 4 (fun i:Nat=>qdt k w i ((qcj w).map Pick.e++((qbF w).take i).map Pick.e)) (fun i hi=>by
  have h1:=qhi w
  match i,hi with
  | 0,_=>exact tr_to (qdt k w (((0:Nat):Int)+1)) (qif ⟨rfl,by omega,by decide,rfl,by simp[qbF];omega,by simp[qbF];omega,qae Pick.e Pick.flat [⟨1,w,0⟩],⟨by omega,by omega⟩,trivial⟩) (by simp[qbF,Pick.e])
  | 1,_=>exact tr_to (qdt k w (((1:Nat):Int)+1)) (qif ⟨rfl,by omega,by decide,rfl,by simp[qbF];omega,by simp[qbF];omega,qae Pick.e Pick.flat [⟨3,w,0⟩],⟨by omega,by omega⟩,trivial⟩) (by simp[qbF,Pick.e])
  | 2,_=>exact tr_to (qdt k w (((2:Nat):Int)+1)) (qif ⟨rfl,by omega,by decide,rfl,by simp[qbF];omega,by simp[qbF];omega,qae Pick.e Pick.flat [⟨2,w,0⟩],⟨by omega,by omega⟩,trivial⟩) (by simp[qbF,Pick.e])
  | 3,_=>exact tr_to (qdt k w (((3:Nat):Int)+1)) (qif ⟨rfl,by omega,by decide,rfl,by simp[qbF];omega,by simp[qbF];omega,qae Pick.e Pick.flat [⟨7,w,0⟩],⟨by omega,by omega⟩,trivial⟩) (by simp[qbF,Pick.e])) (quF ⟨rfl,trivial⟩)
 have l0:=qan (P:=prog) (c:=(qaa f85 0)) (qaf 0) k (fun i:Nat=>qgI k i ((qcj i).map Pick.e)) (fun i hi=>by
  have h:=l1 i hi
  rw[qqV,zU]
  simp only[List.take_zero,List.map_nil,zaa]at h
  exact quG ⟨dT (by omega),h,⟨by omega,by omega⟩,trivial⟩) (quH ⟨dF (by omega),trivial⟩)
 have l3:=fun (a:Nat) (ha:a<k)=>qan (P:=prog) (c:=(qaa f85 3)) (qaf 6) k (fun i:Nat=>qeI k a i ((qcj k++qcx k a++qc1 a i).map Pick.e)) (fun i hi=>by
  have h1:=qlL a i
  have h2:=qhj k a
  have h3:=mulLe a k (by omega) h4
  rw[qqW,←zba,zU (l₂:=twoOf a i)]
  by_cases hab:a=i
  ·have e:(twoOf a i).map Pick.e=[]:=by simp[twoOf,hab]
   rw[e,zaa]
   exact quJ ⟨dT (by omega),by simp[hab],⟨by omega,by omega⟩,trivial⟩
  ·have e:(twoOf a i).map Pick.e=[[I 4,I a,I i],[I 5,I a,I i]]:=by simp[twoOf,hab,Pick.e]
   rw[e]
   have hf:Flat [[I 4,I a,I i],[I 5,I a,I i]]:=by rw[←e];exact qae Pick.e Pick.flat _
   exact quI ⟨dT (by omega),by simp;omega,by simp;omega,by simp;omega,hf,⟨by omega,by omega⟩,trivial⟩) (quK ⟨dF (by omega),trivial⟩)
 have l2:=qan (P:=prog) (c:=(qaa f85 2)) (qaf 4) k (fun i:Nat=>qgJ k i ((qcj k++qcx k i).map Pick.e)) (fun i hi=>by
  have h:=l3 i hi
  rw[qqX,←zba]
  simp only[qc1,zcq,zcm,zaa]at h
  exact quL ⟨dT (by omega),h,⟨by omega,by omega⟩,trivial⟩) (quM ⟨dF (by omega),trivial⟩)
 have l4:=qan (P:=prog) (c:=(qaa f85 4)) (qaf 8) 4 (fun i:Nat=>qgK i ((qcj k++qcx k k++qdA i).map Pick.e)) (fun i hi=>by
  have h1:=qlM i
  rw[qqY,←zba,zU (l₂:=[_])]
  exact quN ⟨dT (by omega),by simp;omega,by simp;omega,qae Pick.e Pick.flat [⟨6,i,0⟩],⟨by omega,by omega⟩,trivial⟩) (quO ⟨dF (by omega),trivial⟩)
 simp only[qcx,zcq,zcm,zaa]at l2
 simp only[qdA,zcq,zcm,zaa]at l4
 rw[zae]
 exact quP ⟨b,l0,l2,l4,trivial⟩
end Go.Proofs.YtdanpadojemjeaaGreat
