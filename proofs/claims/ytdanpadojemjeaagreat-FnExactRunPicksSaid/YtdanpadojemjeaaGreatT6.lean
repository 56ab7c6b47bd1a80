/- The functions mark..: what they write, and what stands behind (printed by gentypes.py) -/
import Derived.Test.YtdanpadojemjeaaGreatB0
import Derived.Test.YtdanpadojemjeaaGreatGM
import Derived.Test.YtdanpadojemjeaaGreatR22
set_option linter.unusedVariables false
set_option linter.unusedSimpArgs false
namespace Go.Proofs.YtdanpadojemjeaaGreat
open Go.Sx Go.RowKit
def nextL{α:Type}(next:Int→α→Int):Int→List α→Int
 | k,[]=>k
 | k,x::r=>nextL next (next k x) r
def markL{α:Type}(mark:Int→α→α)(next:Int→α→Int):Int→List α→List α
 | _,[]=>[]
 | k,x::r=>mark k x::markL mark next (next k x) r
theorem qmt{α:Type}{next:Int→α→Int}:∀{xs ys:List α} {k:Int},nextL next k (xs++ys)=nextL next (nextL next k xs) ys
 | [],_,_=>rfl
 | x::xs,ys,k=>qmt (xs:=xs)
theorem qmu{α:Type}{mark:Int→α→α}{next:Int→α→Int}:∀{xs ys:List α} {k:Int},markL mark next k (xs++ys)=markL mark next k xs++markL mark next (nextL next k xs) ys
 | [],_,_=>rfl
 | x::xs,ys,k=>by
  simp only[List.cons_append,markL,nextL]
  rw[qmu (xs:=xs)]
theorem qb2{α:Type}{mark:Int→α→α}{next:Int→α→Int}:∀{xs:List α} {k:Int},(markL mark next k xs).length=xs.length
 | [],_=>rfl
 | x::xs,k=>by simp[markL,qb2]
theorem qdx{α:Type}{mark:Int→α→α}{next:Int→α→Int}{xs:List α}{k:Int}{i:Nat}{a:α}(h:xs[i]?=some a):(markL mark next k xs)[i]?=some (mark (nextL next k (xs.take i)) a):=by
 have hi:=lt_of h
 have e:xs=xs.take i++a::xs.drop (i+1):=by
  have ha:xs[i]=a:=by rw[zu hi]at h;exact zx h
  rw[←ha,←List.drop_eq_getElem_cons hi,zcb]
 conv=>lhs;rw[e]
 rw[qmu,zT,qb2,zay,zo (by omega),show i-min i xs.length=0 by omega]
 rfl
theorem qaH{α:Type}{next:Int→α→Int}{xs:List α}{i:Nat}{a:α}{k:Int}(h:xs[i]?=some a):nextL next k (xs.take (i+1))=next (nextL next k (xs.take i)) a:=by
 rw[zbe,h,qmt];rfl
def qal{α:Type}(e:α→List D)(mark:Int→α→α)(next:Int→α→Int)(k:Int)(xs:List α)(i:Nat):List (List D):=(markL mark next k (xs.take i)).map e++(xs.drop i).map e
section
variable {α : Type} {e : α → List D} {mark : Int → α → α} {next : Int → α → Int} {k : Int} {xs : List α} {i : Nat} {a : α}
theorem qcB(h:i≤xs.length):(qal e mark next k xs i).length=xs.length:=by simp[qal,qb2];omega
theorem qc6:qal e mark next k xs 0=xs.map e:=by simp[qal,markL]
theorem qc7:qal e mark next k xs xs.length=(markL mark next k xs).map e:=by simp[qal]
theorem qc8(h:xs[i]?=some a):(qal e mark next k xs i)[((i:Nat):Int).toNat]?=some (e a):=by
 have hi:=lt_of h
 simp only[qal,zae]
 rw[zT,zb,qb2,zay,zo (by omega),zr,zA]
 rw[show i+(i-min i xs.length)=i by omega,h];rfl
theorem qc9(h:xs[i]?=some a):(qal e mark next k xs i).set ((i:Nat):Int).toNat (e (mark (nextL next k (xs.take i)) a))=qal e mark next k xs (i+1):=by
 have hi:=lt_of h
 have ha:xs[i]=a:=by rw[zu hi]at h;exact zx h
 simp only[qal,zae]
 rw[List.set_append,zo (by simp[qb2];omega),zb,qb2,zay,show i-min i xs.length=0 by omega]
 rw[List.drop_eq_getElem_cons hi,ha,zav,List.set_cons_zero,zbe,h,qmu,zU]
 simp[markL]
theorem qda(h:i<xs.length):(i:Int)<(↑(qal e mark next k xs i).length:Int):=by rw[qcB (by omega)];omega
theorem qdb:decide ((↑xs.length:Int)<(↑(qal e mark next k xs xs.length).length:Int))=false:=by rw[qcB (zO _)];simp
theorem qav(c:α→Nat)(h:∀k x,k≤next k x∧next k x≤k+c x):∀(xs:List α) (k:Int),k≤nextL next k xs∧nextL next k xs≤k+(xs.map c).sum
 | [],k=>by simp[nextL]
 | x::xs,k=>by
  have h1:=h k x
  have h2:=qav c h xs (next k x)
  simp only[nextL,zav,zcw]
  omega
theorem qbA(c:α→Nat)(h:∀k x,k≤next k x∧next k x≤k+c x)(xs:List α)(k:Int)(i:Nat):nextL next k (xs.take i)≤nextL next k xs:=by
 have:nextL next k xs=nextL next (nextL next k (xs.take i)) (xs.drop i):=by rw[←qmt,zcb]
 rw[this]
 exact (qav c h _ _).1
theorem qbB(c:α→Nat)(h:∀k x,k≤next k x∧next k x≤k+c x)(xs:List α)(k:Int)(i:Nat):k≤nextL next k (xs.take i):=(qav c h _ _).1
end
theorem qaK{M:List (List D)}{i:Nat}{r:List D}(h:i<M.length):(M.set ((i:Nat):Int).toNat r)[((i:Nat):Int).toNat]?=some r:=by
 rw[zae,zad,zp rfl,zp h]
theorem qak{M:List (List D)}{i j:Nat}{r:List D}(h:(i:Int)<(↑M.length:Int)):(i:Int)<(↑(M.set j r).length:Int):=by rw[zn];exact h
def nI(k:Int)(_:Int):Int:=k+1
def mI(k:Int)(_:Int):Int:=k
def nB(k:Int)(_:Bool):Int:=k+1
def mB(k:Int)(_:Bool):Bool:=k.tmod 3==0
theorem nI_le(k x:Int):k≤nI k x∧nI k x≤k+(1:Nat):=by unfold nI;omega
theorem nB_le(k:Int)(x:Bool):k≤nB k x∧nB k x≤k+(1:Nat):=by unfold nB;omega
theorem qdc{α:Type}(xs:List α)(w:Nat):(xs.map fun _=>w).sum=xs.length*w:=by
 induction xs with
 | nil=>simp
 | cons x xs ih=>simp only[zav,zcw,ih,zq,zR];omega
def Stamp.mark(k:Int)(_:Stamp):Stamp:=⟨k,k+1⟩
def Stamp.next(k:Int)(_:Stamp):Int:=k+1+1
def Stamp.cb(_:Stamp):Nat:=2
theorem Stamp.next_le(k:Int)(x:Stamp):k≤Stamp.next k x∧Stamp.next k x≤k+(Stamp.cb x:Nat):=by unfold Stamp.next Stamp.cb;omega
def Record.mark(k:Int)(_:Record):Record:=⟨k,⟨k+1,k+1+1⟩,k+1+1+1,k+1+1+1+1⟩
def Record.next(k:Int)(_:Record):Int:=k+1+1+1+1+1
def Record.cb(_:Record):Nat:=5
theorem Record.next_le(k:Int)(x:Record):k≤Record.next k x∧Record.next k x≤k+(Record.cb x:Nat):=by unfold Record.next Record.cb;omega
def Cell.mark(k:Int)(_:Cell):Cell:=⟨k,k+1,k+1+1,k+1+1+1⟩
def Cell.next(k:Int)(_:Cell):Int:=k+1+1+1+1
def Cell.cb(_:Cell):Nat:=4
theorem Cell.next_le(k:Int)(x:Cell):k≤Cell.next k x∧Cell.next k x≤k+(Cell.cb x:Nat):=by unfold Cell.next Cell.cb;omega
def Done.mark(k:Int)(_:Done):Done:=⟨k,((k+1).tmod 3==0)⟩
def Done.next(k:Int)(_:Done):Int:=k+1+1
def Done.cb(_:Done):Nat:=2
theorem Done.next_le(k:Int)(x:Done):k≤Done.next k x∧Done.next k x≤k+(Done.cb x:Nat):=by unfold Done.next Done.cb;omega
def Token.mark(k:Int)(_:Token):Token:=⟨(k.tmod 3==0),k+1,k+1+1,((k+1+1+1).tmod 3==0),((k+1+1+1+1).tmod 3==0)⟩
def Token.next(k:Int)(_:Token):Int:=k+1+1+1+1+1
def Token.cb(_:Token):Nat:=5
theorem Token.next_le(k:Int)(x:Token):k≤Token.next k x∧Token.next k x≤k+(Token.cb x:Nat):=by unfold Token.next Token.cb;omega
def News.mark(k:Int)(_:News):News:=⟨k,k+1,((k+1+1).tmod 3==0)⟩
def News.next(k:Int)(_:News):Int:=k+1+1+1
def News.cb(_:News):Nat:=3
theorem News.next_le(k:Int)(x:News):k≤News.next k x∧News.next k x≤k+(News.cb x:Nat):=by unfold News.next News.cb;omega
def Pick.mark(k:Int)(_:Pick):Pick:=⟨k,k+1,k+1+1⟩
def Pick.next(k:Int)(_:Pick):Int:=k+1+1+1
def Pick.cb(_:Pick):Nat:=3
theorem Pick.next_le(k:Int)(x:Pick):k≤Pick.next k x∧Pick.next k x≤k+(Pick.cb x:Nat):=by unfold Pick.next Pick.cb;omega
def Node.mark(k:Int)(x:Node):Node:=⟨k,k+1,k+1+1,markL mI nI (k+1+1+1) x.outs⟩
def Node.next(k:Int)(x:Node):Int:=nextL nI (k+1+1+1) x.outs
def Node.cb(x:Node):Nat:=3+(x.outs.map (fun _=>1)).sum
theorem Node.next_le(k:Int)(x:Node):k≤Node.next k x∧Node.next k x≤k+(Node.cb x:Nat):=by
 unfold Node.next Node.cb
 have f0:=qav (fun _=>1) nI_le x.outs (k+1+1+1)
 omega
def Link.mark(k:Int)(x:Link):Link:=⟨k,markL Record.mark Record.next (k+1) x.queue,nextL Record.next (k+1) x.queue,nextL Record.next (k+1) x.queue+1,nextL Record.next (k+1) x.queue+1+1,nextL Record.next (k+1) x.queue+1+1+1⟩
def Link.next(k:Int)(x:Link):Int:=nextL Record.next (k+1) x.queue+1+1+1+1
def Link.cb(x:Link):Nat:=5+(x.queue.map Record.cb).sum
theorem Link.next_le(k:Int)(x:Link):k≤Link.next k x∧Link.next k x≤k+(Link.cb x:Nat):=by
 unfold Link.next Link.cb
 have f0:=qav Record.cb Record.next_le x.queue (k+1)
 omega
def Worker.mark(k:Int)(x:Worker):Worker:=⟨markL Record.mark Record.next k x.queue,markL Record.mark Record.next (nextL Record.next k x.queue) x.staged,markL Record.mark Record.next (nextL Record.next (nextL Record.next k x.queue) x.staged) x.inputs,markL Cell.mark Cell.next (nextL Record.next (nextL Record.next (nextL Record.next k x.queue) x.staged) x.inputs) x.cells,markL mI nI (nextL Cell.next (nextL Record.next (nextL Record.next (nextL Record.next k x.queue) x.staged) x.inputs) x.cells) x.sums,markL mB nB (nextL nI (nextL Cell.next (nextL Record.next (nextL Record.next (nextL Record.next k x.queue) x.staged) x.inputs) x.cells) x.sums) x.black,markL mB nB (nextL nB (nextL nI (nextL Cell.next (nextL Record.next (nextL Record.next (nextL Record.next k x.queue) x.staged) x.inputs) x.cells) x.sums) x.black) x.caps,markL Done.mark Done.next (nextL nB (nextL nB (nextL nI (nextL Cell.next (nextL Record.next (nextL Record.next (nextL Record.next k x.queue) x.staged) x.inputs) x.cells) x.sums) x.black) x.caps) x.dones⟩
def Worker.next(k:Int)(x:Worker):Int:=nextL Done.next (nextL nB (nextL nB (nextL nI (nextL Cell.next (nextL Record.next (nextL Record.next (nextL Record.next k x.queue) x.staged) x.inputs) x.cells) x.sums) x.black) x.caps) x.dones
def Worker.cb(x:Worker):Nat:=0+(x.queue.map Record.cb).sum+(x.staged.map Record.cb).sum+(x.inputs.map Record.cb).sum+(x.cells.map Cell.cb).sum+(x.sums.map (fun _=>1)).sum+(x.black.map (fun _=>1)).sum+(x.caps.map (fun _=>1)).sum+(x.dones.map Done.cb).sum
theorem Worker.next_le(k:Int)(x:Worker):k≤Worker.next k x∧Worker.next k x≤k+(Worker.cb x:Nat):=by
 unfold Worker.next Worker.cb
 have f0:=qav Record.cb Record.next_le x.queue k
 have f1:=qav Record.cb Record.next_le x.staged (nextL Record.next k x.queue)
 have f2:=qav Record.cb Record.next_le x.inputs (nextL Record.next (nextL Record.next k x.queue) x.staged)
 have f3:=qav Cell.cb Cell.next_le x.cells (nextL Record.next (nextL Record.next (nextL Record.next k x.queue) x.staged) x.inputs)
 have f4:=qav (fun _=>1) nI_le x.sums (nextL Cell.next (nextL Record.next (nextL Record.next (nextL Record.next k x.queue) x.staged) x.inputs) x.cells)
 have f5:=qav (fun _=>1) nB_le x.black (nextL nI (nextL Cell.next (nextL Record.next (nextL Record.next (nextL Record.next k x.queue) x.staged) x.inputs) x.cells) x.sums)
 have f6:=qav (fun _=>1) nB_le x.caps (nextL nB (nextL nI (nextL Cell.next (nextL Record.next (nextL Record.next (nextL Record.next k x.queue) x.staged) x.inputs) x.cells) x.sums) x.black)
 have f7:=qav Done.cb Done.next_le x.dones (nextL nB (nextL nB (nextL nI (nextL Cell.next (nextL Record.next (nextL Record.next (nextL Record.next k x.queue) x.staged) x.inputs) x.cells) x.sums) x.black) x.caps)
 omega
end Go.Proofs.YtdanpadojemjeaaGreat
namespace Go.Proofs.YtdanpadojemjeaaGreat
open Go.Sx Go.RowKit
theorem qfN{α:Type}(c s:α→Nat)(h:∀x,c x≤6+5*s x):∀xs:List α,(xs.map c).sum≤6*xs.length+5*(xs.map s).sum
 | []=>by simp
 | x::xs=>by
  have h1:=h x
  have h2:=qfN c s h xs
  simp only[zav,zcw,zq]
  omega
theorem Stamp.cb_sum(xs:List Stamp):(xs.map Stamp.cb).sum=xs.length*2:=qdc xs 2
theorem Record.cb_sum(xs:List Record):(xs.map Record.cb).sum=xs.length*5:=qdc xs 5
theorem Cell.cb_sum(xs:List Cell):(xs.map Cell.cb).sum=xs.length*4:=qdc xs 4
theorem Done.cb_sum(xs:List Done):(xs.map Done.cb).sum=xs.length*2:=qdc xs 2
theorem Token.cb_sum(xs:List Token):(xs.map Token.cb).sum=xs.length*5:=qdc xs 5
theorem News.cb_sum(xs:List News):(xs.map News.cb).sum=xs.length*3:=qdc xs 3
theorem Pick.cb_sum(xs:List Pick):(xs.map Pick.cb).sum=xs.length*3:=qdc xs 3
theorem Node.cb_le(x:Node):x.cb≤6+5*x.sz:=by
 simp only[Node.cb,Node.sz,qdc]
 omega
theorem Link.cb_le(x:Link):x.cb≤6+5*x.sz:=by
 simp only[Link.cb,Link.sz,Record.cb_sum]
 omega
theorem Worker.cb_le(x:Worker):x.cb≤6+5*x.sz:=by
 simp only[Worker.cb,Worker.sz,qdc,Cell.cb_sum,Done.cb_sum,qdc,Record.cb_sum]
 omega
theorem qsf(xs:List Int)(k:Int)(hk:0≤k)(hM:nextL nI k xs≤1000000000000)(hl:xs.length≤8388608):
  RetG Tryz.prog 131 [.one (.gv 1 (xs.map eI) (some ((markL mI nI k xs).map eI))),.one (.ro (I k))] [.one (I (nextL nI k xs))]:=by
 have l:=qaq (P:=Tryz.prog) (c:=qaa Tryz.f131 0) (stE:=qmk (nextL nI k xs) ((markL mI nI k xs).map eI)) (qaf 0) xs.length (fun i=>qfu i (nextL nI k (xs.take i)) (qal eI mI nI k xs i)) (fun i hi=>by
  obtain⟨a,ha⟩:=qag hi
  have h0:=qbB (fun _=>1) nI_le xs k i
  have h1:=zaq (qbA (fun _=>1) nI_le xs k (i+1)) hM
  rw[qaH ha]at h1
  have hlen:(qal eI mI nI k xs i).length=xs.length:=qcB (by omega)
  have hlt:=qda (e:=eI) (mark:=mI) (next:=nI) (k:=k) hi
  have hg:=qc8 (e:=eI) (mark:=mI) (next:=nI) (k:=k) ha
  have hset:=qc9 (e:=eI) (mark:=mI) (next:=nI) (k:=k) ha
  show Tr _ _ (qfu (i:Nat) (nextL nI k (xs.take i)) (qal eI mI nI k xs i)) _ (qfu (i+1:Nat) (nextL nI k (xs.take (i+1))) (qal eI mI nI k xs (i+1)))
  rw[←hset,qaH ha]
  generalize nextL nI k (xs.take i)=K at*
  generalize qal eI mI nI k xs i=M at*
  unfold nI at h1
  have t:=qOw i K M _ ⟨by rw[hlen];simp only[zi];omega,lt0,hlt,hg,⟨by omega,by omega⟩,up1 hi hl,trivial⟩
  try simp only[zam]at t
  exact t) (by
  have t:=qOx xs.length (nextL nI k (xs.take xs.length)) (qal eI mI nI k xs xs.length) ⟨qdb,trivial⟩
  rw[qc7,zC]at t ⊢
  exact t)
 rw[qc6]at l
 exact qOy ⟨l,trivial⟩
theorem qsg(xs:List Int)(k:Int)(hk:0≤k)(hM:nextL nI k xs≤1000000000000)(hl:xs.length≤8388608):Rt 135 [.one (.sl 1 ((markL mI nI k xs).map eI)),.one (I k)] [.one (I (nextL nI k xs))]:=by
 have hlm:(markL mI nI k xs).length=xs.length:=qb2
 have l:=qaq (P:=Tryz.prog) (c:=qaa Tryz.f135 0) (qaf 0) (markL mI nI k xs).length (fun i=>qfF ((markL mI nI k xs).map eI) i (nextL nI k (xs.take i))) (fun i hi2=>by
  have hi:i<xs.length:=by omega
  obtain⟨a,ha⟩:=qag hi
  have ha2:=qdx (mark:=mI) (next:=nI) (k:=k) ha
  have h0:=qbB (fun _=>1) nI_le xs k i
  have h1:=zaq (qbA (fun _=>1) nI_le xs k (i+1)) hM
  rw[qaH ha]at h1
  show Tr _ _ (qfF ((markL mI nI k xs).map eI) (i:Nat) (nextL nI k (xs.take i))) _ (qfF ((markL mI nI k xs).map eI) (i+1:Nat) (nextL nI k (xs.take (i+1))))
  rw[qaH ha]
  generalize nextL nI k (xs.take i)=K at*
  unfold nI at h1
  exact qO5 ⟨lt1 hi2,lt0,lt2 hi2,qac eI ha2,by simp[mI],⟨by omega,by omega⟩,⟨by omega,by omega⟩,trivial⟩) (qO6 ⟨ge1,trivial⟩)
 rw[hlm,zC]at l
 exact qO7 ⟨l,trivial⟩
theorem qmv(xs:List Bool)(k:Int)(hk:0≤k)(hM:nextL nB k xs≤1000000000000)(hl:xs.length≤8388608):
  RetG Tryz.prog 32 [.one (.gv 1 (xs.map eB) (some ((markL mB nB k xs).map eB))),.one (.ro (I k))] [.one (I (nextL nB k xs))]:=by
 have l:=qaq (P:=Tryz.prog) (c:=qaa Tryz.f32 0) (stE:=qmm (nextL nB k xs) ((markL mB nB k xs).map eB)) (qaf 0) xs.length (fun i=>qfw i (nextL nB k (xs.take i)) (qal eB mB nB k xs i)) (fun i hi=>by
  obtain⟨a,ha⟩:=qag hi
  have h0:=qbB (fun _=>1) nB_le xs k i
  have h1:=zaq (qbA (fun _=>1) nB_le xs k (i+1)) hM
  rw[qaH ha]at h1
  have hlen:(qal eB mB nB k xs i).length=xs.length:=qcB (by omega)
  have hlt:=qda (e:=eB) (mark:=mB) (next:=nB) (k:=k) hi
  have hg:=qc8 (e:=eB) (mark:=mB) (next:=nB) (k:=k) ha
  have hset:=qc9 (e:=eB) (mark:=mB) (next:=nB) (k:=k) ha
  show Tr _ _ (qfw (i:Nat) (nextL nB k (xs.take i)) (qal eB mB nB k xs i)) _ (qfw (i+1:Nat) (nextL nB k (xs.take (i+1))) (qal eB mB nB k xs (i+1)))
  rw[←hset,qaH ha]
  generalize nextL nB k (xs.take i)=K at*
  generalize qal eB mB nB k xs i=M at*
  unfold nB at h1
  have t:=qOC i K M _ ⟨by rw[hlen];simp only[zi];omega,by omega,lt0,hlt,hg,⟨by omega,by omega⟩,up1 hi hl,trivial⟩
  try simp only[zam]at t
  exact t) (by
  have t:=qOD xs.length (nextL nB k (xs.take xs.length)) (qal eB mB nB k xs xs.length) ⟨qdb,trivial⟩
  rw[qc7,zC]at t ⊢
  exact t)
 rw[qc6]at l
 exact qOE ⟨l,trivial⟩
theorem qmw(xs:List Bool)(k:Int)(hk:0≤k)(hM:nextL nB k xs≤1000000000000)(hl:xs.length≤8388608):Rt 33 [.one (.sl 1 ((markL mB nB k xs).map eB)),.one (I k)] [.one (I (nextL nB k xs))]:=by
 have hlm:(markL mB nB k xs).length=xs.length:=qb2
 have l:=qaq (P:=Tryz.prog) (c:=qaa Tryz.f33 0) (qaf 0) (markL mB nB k xs).length (fun i=>qfH ((markL mB nB k xs).map eB) i (nextL nB k (xs.take i))) (fun i hi2=>by
  have hi:i<xs.length:=by omega
  obtain⟨a,ha⟩:=qag hi
  have ha2:=qdx (mark:=mB) (next:=nB) (k:=k) ha
  have h0:=qbB (fun _=>1) nB_le xs k i
  have h1:=zaq (qbA (fun _=>1) nB_le xs k (i+1)) hM
  rw[qaH ha]at h1
  show Tr _ _ (qfH ((markL mB nB k xs).map eB) (i:Nat) (nextL nB k (xs.take i))) _ (qfH ((markL mB nB k xs).map eB) (i+1:Nat) (nextL nB k (xs.take (i+1))))
  rw[qaH ha]
  generalize nextL nB k (xs.take i)=K at*
  unfold nB at h1
  exact qPb ⟨lt1 hi2,lt0,lt2 hi2,qac eB ha2,by omega,by simp[mB],⟨by omega,by omega⟩,⟨by omega,by omega⟩,trivial⟩) (qPc ⟨ge1,trivial⟩)
 rw[hlm,zC]at l
 exact qPd ⟨l,trivial⟩
theorem qjr(xs:List Record)(k:Int)(hk:0≤k)(hM:nextL Record.next k xs≤1000000000000)(hl:xs.length≤8388608):
  RetG Tryz.prog 48 [.one (.gv 5 (xs.map Record.e) (some ((markL Record.mark Record.next k xs).map Record.e))),.one (.ro (I k))] [.one (I (nextL Record.next k xs))]:=by
 have l:=qaq (P:=Tryz.prog) (c:=qaa Tryz.f48 0) (stE:=qmi (nextL Record.next k xs) ((markL Record.mark Record.next k xs).map Record.e)) (qaf 0) xs.length (fun i=>qfs i (nextL Record.next k (xs.take i)) (qal Record.e Record.mark Record.next k xs i)) (fun i hi=>by
  obtain⟨a,ha⟩:=qag hi
  have h0:=qbB Record.cb Record.next_le xs k i
  have h1:=zaq (qbA Record.cb Record.next_le xs k (i+1)) hM
  rw[qaH ha]at h1
  have hlen:(qal Record.e Record.mark Record.next k xs i).length=xs.length:=qcB (by omega)
  have hlt:=qda (e:=Record.e) (mark:=Record.mark) (next:=Record.next) (k:=k) hi
  have hg:=qc8 (e:=Record.e) (mark:=Record.mark) (next:=Record.next) (k:=k) ha
  have hset:=qc9 (e:=Record.e) (mark:=Record.mark) (next:=Record.next) (k:=k) ha
  show Tr _ _ (qfs (i:Nat) (nextL Record.next k (xs.take i)) (qal Record.e Record.mark Record.next k xs i)) _ (qfs (i+1:Nat) (nextL Record.next k (xs.take (i+1))) (qal Record.e Record.mark Record.next k xs (i+1)))
  rw[←hset,qaH ha]
  generalize nextL Record.next k (xs.take i)=K at*
  generalize qal Record.e Record.mark Record.next k xs i=M at*
  unfold Record.next at h1
  have t:=qOq i K M _ _ _ _ _ _ _ _ _ _ _ _ _ _ _ _ _ _ _ _ _ _ _ _ _ ⟨by rw[hlen];simp only[zi];omega,lt0,hlt,hg,⟨by omega,by omega⟩,lt0,qak hlt,qaK (by (try simp only[zn]);omega),⟨by omega,by omega⟩,lt0,qak (qak hlt),qaK (by (try simp only[zn]);omega),⟨by omega,by omega⟩,lt0,qak (qak (qak hlt)),qaK (by (try simp only[zn]);omega),⟨by omega,by omega⟩,lt0,qak (qak (qak (qak hlt))),qaK (by (try simp only[zn]);omega),⟨by omega,by omega⟩,up1 hi hl,trivial⟩
  try simp only[zam]at t
  exact t) (by
  have t:=qOr xs.length (nextL Record.next k (xs.take xs.length)) (qal Record.e Record.mark Record.next k xs xs.length) ⟨qdb,trivial⟩
  rw[qc7,zC]at t ⊢
  exact t)
 rw[qc6]at l
 exact qOs ⟨l,trivial⟩
theorem qjs(xs:List Record)(k:Int)(hk:0≤k)(hM:nextL Record.next k xs≤1000000000000)(hl:xs.length≤8388608):Rt 134 [.one (.sl 5 ((markL Record.mark Record.next k xs).map Record.e)),.one (I k)] [.one (I (nextL Record.next k xs))]:=by
 have hlm:(markL Record.mark Record.next k xs).length=xs.length:=qb2
 have l:=qaq (P:=Tryz.prog) (c:=qaa Tryz.f134 0) (qaf 0) (markL Record.mark Record.next k xs).length (fun i=>qfD ((markL Record.mark Record.next k xs).map Record.e) i (nextL Record.next k (xs.take i))) (fun i hi2=>by
  have hi:i<xs.length:=by omega
  obtain⟨a,ha⟩:=qag hi
  have ha2:=qdx (mark:=Record.mark) (next:=Record.next) (k:=k) ha
  have h0:=qbB Record.cb Record.next_le xs k i
  have h1:=zaq (qbA Record.cb Record.next_le xs k (i+1)) hM
  rw[qaH ha]at h1
  show Tr _ _ (qfD ((markL Record.mark Record.next k xs).map Record.e) (i:Nat) (nextL Record.next k (xs.take i))) _ (qfD ((markL Record.mark Record.next k xs).map Record.e) (i+1:Nat) (nextL Record.next k (xs.take (i+1))))
  rw[qaH ha]
  generalize nextL Record.next k (xs.take i)=K at*
  unfold Record.next at h1
  exact qOZ ⟨lt1 hi2,lt0,lt2 hi2,qac Record.e ha2,by simp[Record.mark],⟨by omega,by omega⟩,lt0,lt2 hi2,qac Record.e ha2,by simp[Record.mark],⟨by omega,by omega⟩,lt0,lt2 hi2,qac Record.e ha2,by simp[Record.mark],⟨by omega,by omega⟩,lt0,lt2 hi2,qac Record.e ha2,by simp[Record.mark],⟨by omega,by omega⟩,lt0,lt2 hi2,qac Record.e ha2,by simp[Record.mark],⟨by omega,by omega⟩,⟨by omega,by omega⟩,trivial⟩) (qO0 ⟨ge1,trivial⟩)
 rw[hlm,zC]at l
 exact qO1 ⟨l,trivial⟩
theorem qPv(xs:List Cell)(k:Int)(hk:0≤k)(hM:nextL Cell.next k xs≤1000000000000)(hl:xs.length≤8388608):
  RetG Tryz.prog 49 [.one (.gv 4 (xs.map Cell.e) (some ((markL Cell.mark Cell.next k xs).map Cell.e))),.one (.ro (I k))] [.one (I (nextL Cell.next k xs))]:=by
 have l:=qaq (P:=Tryz.prog) (c:=qaa Tryz.f49 0) (stE:=qml (nextL Cell.next k xs) ((markL Cell.mark Cell.next k xs).map Cell.e)) (qaf 0) xs.length (fun i=>qfv i (nextL Cell.next k (xs.take i)) (qal Cell.e Cell.mark Cell.next k xs i)) (fun i hi=>by
  obtain⟨a,ha⟩:=qag hi
  have h0:=qbB Cell.cb Cell.next_le xs k i
  have h1:=zaq (qbA Cell.cb Cell.next_le xs k (i+1)) hM
  rw[qaH ha]at h1
  have hlen:(qal Cell.e Cell.mark Cell.next k xs i).length=xs.length:=qcB (by omega)
  have hlt:=qda (e:=Cell.e) (mark:=Cell.mark) (next:=Cell.next) (k:=k) hi
  have hg:=qc8 (e:=Cell.e) (mark:=Cell.mark) (next:=Cell.next) (k:=k) ha
  have hset:=qc9 (e:=Cell.e) (mark:=Cell.mark) (next:=Cell.next) (k:=k) ha
  show Tr _ _ (qfv (i:Nat) (nextL Cell.next k (xs.take i)) (qal Cell.e Cell.mark Cell.next k xs i)) _ (qfv (i+1:Nat) (nextL Cell.next k (xs.take (i+1))) (qal Cell.e Cell.mark Cell.next k xs (i+1)))
  rw[←hset,qaH ha]
  generalize nextL Cell.next k (xs.take i)=K at*
  generalize qal Cell.e Cell.mark Cell.next k xs i=M at*
  unfold Cell.next at h1
  have t:=qOz i K M _ _ _ _ _ _ _ _ _ _ _ _ _ _ _ _ ⟨by rw[hlen];simp only[zi];omega,lt0,hlt,hg,⟨by omega,by omega⟩,lt0,qak hlt,qaK (by (try simp only[zn]);omega),⟨by omega,by omega⟩,lt0,qak (qak hlt),qaK (by (try simp only[zn]);omega),⟨by omega,by omega⟩,lt0,qak (qak (qak hlt)),qaK (by (try simp only[zn]);omega),⟨by omega,by omega⟩,up1 hi hl,trivial⟩
  try simp only[zam]at t
  exact t) (by
  have t:=qOA xs.length (nextL Cell.next k (xs.take xs.length)) (qal Cell.e Cell.mark Cell.next k xs xs.length) ⟨qdb,trivial⟩
  rw[qc7,zC]at t ⊢
  exact t)
 rw[qc6]at l
 exact qOB ⟨l,trivial⟩
theorem qPw(xs:List Cell)(k:Int)(hk:0≤k)(hM:nextL Cell.next k xs≤1000000000000)(hl:xs.length≤8388608):Rt 50 [.one (.sl 4 ((markL Cell.mark Cell.next k xs).map Cell.e)),.one (I k)] [.one (I (nextL Cell.next k xs))]:=by
 have hlm:(markL Cell.mark Cell.next k xs).length=xs.length:=qb2
 have l:=qaq (P:=Tryz.prog) (c:=qaa Tryz.f50 0) (qaf 0) (markL Cell.mark Cell.next k xs).length (fun i=>qfG ((markL Cell.mark Cell.next k xs).map Cell.e) i (nextL Cell.next k (xs.take i))) (fun i hi2=>by
  have hi:i<xs.length:=by omega
  obtain⟨a,ha⟩:=qag hi
  have ha2:=qdx (mark:=Cell.mark) (next:=Cell.next) (k:=k) ha
  have h0:=qbB Cell.cb Cell.next_le xs k i
  have h1:=zaq (qbA Cell.cb Cell.next_le xs k (i+1)) hM
  rw[qaH ha]at h1
  show Tr _ _ (qfG ((markL Cell.mark Cell.next k xs).map Cell.e) (i:Nat) (nextL Cell.next k (xs.take i))) _ (qfG ((markL Cell.mark Cell.next k xs).map Cell.e) (i+1:Nat) (nextL Cell.next k (xs.take (i+1))))
  rw[qaH ha]
  generalize nextL Cell.next k (xs.take i)=K at*
  unfold Cell.next at h1
  exact qO8 ⟨lt1 hi2,lt0,lt2 hi2,qac Cell.e ha2,by simp[Cell.mark],⟨by omega,by omega⟩,lt0,lt2 hi2,qac Cell.e ha2,by simp[Cell.mark],⟨by omega,by omega⟩,lt0,lt2 hi2,qac Cell.e ha2,by simp[Cell.mark],⟨by omega,by omega⟩,lt0,lt2 hi2,qac Cell.e ha2,by simp[Cell.mark],⟨by omega,by omega⟩,⟨by omega,by omega⟩,trivial⟩) (qO9 ⟨ge1,trivial⟩)
 rw[hlm,zC]at l
 exact qPa ⟨l,trivial⟩
theorem qPx(xs:List Done)(k:Int)(hk:0≤k)(hM:nextL Done.next k xs≤1000000000000)(hl:xs.length≤8388608):
  RetG Tryz.prog 132 [.one (.gv 2 (xs.map Done.e) (some ((markL Done.mark Done.next k xs).map Done.e))),.one (.ro (I k))] [.one (I (nextL Done.next k xs))]:=by
 have l:=qaq (P:=Tryz.prog) (c:=qaa Tryz.f132 0) (stE:=qmn (nextL Done.next k xs) ((markL Done.mark Done.next k xs).map Done.e)) (qaf 0) xs.length (fun i=>qfx i (nextL Done.next k (xs.take i)) (qal Done.e Done.mark Done.next k xs i)) (fun i hi=>by
  obtain⟨a,ha⟩:=qag hi
  have h0:=qbB Done.cb Done.next_le xs k i
  have h1:=zaq (qbA Done.cb Done.next_le xs k (i+1)) hM
  rw[qaH ha]at h1
  have hlen:(qal Done.e Done.mark Done.next k xs i).length=xs.length:=qcB (by omega)
  have hlt:=qda (e:=Done.e) (mark:=Done.mark) (next:=Done.next) (k:=k) hi
  have hg:=qc8 (e:=Done.e) (mark:=Done.mark) (next:=Done.next) (k:=k) ha
  have hset:=qc9 (e:=Done.e) (mark:=Done.mark) (next:=Done.next) (k:=k) ha
  show Tr _ _ (qfx (i:Nat) (nextL Done.next k (xs.take i)) (qal Done.e Done.mark Done.next k xs i)) _ (qfx (i+1:Nat) (nextL Done.next k (xs.take (i+1))) (qal Done.e Done.mark Done.next k xs (i+1)))
  rw[←hset,qaH ha]
  generalize nextL Done.next k (xs.take i)=K at*
  generalize qal Done.e Done.mark Done.next k xs i=M at*
  unfold Done.next at h1
  have t:=qOF i K M _ _ _ _ ⟨by rw[hlen];simp only[zi];omega,lt0,hlt,hg,⟨by omega,by omega⟩,by omega,lt0,qak hlt,qaK (by (try simp only[zn]);omega),⟨by omega,by omega⟩,up1 hi hl,trivial⟩
  try simp only[zam]at t
  exact t) (by
  have t:=qOG xs.length (nextL Done.next k (xs.take xs.length)) (qal Done.e Done.mark Done.next k xs xs.length) ⟨qdb,trivial⟩
  rw[qc7,zC]at t ⊢
  exact t)
 rw[qc6]at l
 exact qOH ⟨l,trivial⟩
theorem qPy(xs:List Done)(k:Int)(hk:0≤k)(hM:nextL Done.next k xs≤1000000000000)(hl:xs.length≤8388608):Rt 136 [.one (.sl 2 ((markL Done.mark Done.next k xs).map Done.e)),.one (I k)] [.one (I (nextL Done.next k xs))]:=by
 have hlm:(markL Done.mark Done.next k xs).length=xs.length:=qb2
 have l:=qaq (P:=Tryz.prog) (c:=qaa Tryz.f136 0) (qaf 0) (markL Done.mark Done.next k xs).length (fun i=>qfI ((markL Done.mark Done.next k xs).map Done.e) i (nextL Done.next k (xs.take i))) (fun i hi2=>by
  have hi:i<xs.length:=by omega
  obtain⟨a,ha⟩:=qag hi
  have ha2:=qdx (mark:=Done.mark) (next:=Done.next) (k:=k) ha
  have h0:=qbB Done.cb Done.next_le xs k i
  have h1:=zaq (qbA Done.cb Done.next_le xs k (i+1)) hM
  rw[qaH ha]at h1
  show Tr _ _ (qfI ((markL Done.mark Done.next k xs).map Done.e) (i:Nat) (nextL Done.next k (xs.take i))) _ (qfI ((markL Done.mark Done.next k xs).map Done.e) (i+1:Nat) (nextL Done.next k (xs.take (i+1))))
  rw[qaH ha]
  generalize nextL Done.next k (xs.take i)=K at*
  unfold Done.next at h1
  exact qPe ⟨lt1 hi2,lt0,lt2 hi2,qac Done.e ha2,by simp[Done.mark],⟨by omega,by omega⟩,lt0,lt2 hi2,qac Done.e ha2,by omega,by simp[Done.mark],⟨by omega,by omega⟩,⟨by omega,by omega⟩,trivial⟩) (qPf ⟨ge1,trivial⟩)
 rw[hlm,zC]at l
 exact qPg ⟨l,trivial⟩
theorem qPz(xs:List Token)(k:Int)(hk:0≤k)(hM:nextL Token.next k xs≤1000000000000)(hl:xs.length≤8388608):
  RetG Tryz.prog 73 [.one (.gv 5 (xs.map Token.e) (some ((markL Token.mark Token.next k xs).map Token.e))),.one (.ro (I k))] [.one (I (nextL Token.next k xs))]:=by
 have l:=qaq (P:=Tryz.prog) (c:=qaa Tryz.f73 0) (stE:=qmo (nextL Token.next k xs) ((markL Token.mark Token.next k xs).map Token.e)) (qaf 0) xs.length (fun i=>qfy i (nextL Token.next k (xs.take i)) (qal Token.e Token.mark Token.next k xs i)) (fun i hi=>by
  obtain⟨a,ha⟩:=qag hi
  have h0:=qbB Token.cb Token.next_le xs k i
  have h1:=zaq (qbA Token.cb Token.next_le xs k (i+1)) hM
  rw[qaH ha]at h1
  have hlen:(qal Token.e Token.mark Token.next k xs i).length=xs.length:=qcB (by omega)
  have hlt:=qda (e:=Token.e) (mark:=Token.mark) (next:=Token.next) (k:=k) hi
  have hg:=qc8 (e:=Token.e) (mark:=Token.mark) (next:=Token.next) (k:=k) ha
  have hset:=qc9 (e:=Token.e) (mark:=Token.mark) (next:=Token.next) (k:=k) ha
  show Tr _ _ (qfy (i:Nat) (nextL Token.next k (xs.take i)) (qal Token.e Token.mark Token.next k xs i)) _ (qfy (i+1:Nat) (nextL Token.next k (xs.take (i+1))) (qal Token.e Token.mark Token.next k xs (i+1)))
  rw[←hset,qaH ha]
  generalize nextL Token.next k (xs.take i)=K at*
  generalize qal Token.e Token.mark Token.next k xs i=M at*
  unfold Token.next at h1
  have t:=qOI i K M _ _ _ _ _ _ _ _ _ _ _ _ _ _ _ _ _ _ _ _ _ _ _ _ _ ⟨by rw[hlen];simp only[zi];omega,by omega,lt0,hlt,hg,⟨by omega,by omega⟩,lt0,qak hlt,qaK (by (try simp only[zn]);omega),⟨by omega,by omega⟩,lt0,qak (qak hlt),qaK (by (try simp only[zn]);omega),⟨by omega,by omega⟩,by omega,lt0,qak (qak (qak hlt)),qaK (by (try simp only[zn]);omega),⟨by omega,by omega⟩,by omega,lt0,qak (qak (qak (qak hlt))),qaK (by (try simp only[zn]);omega),⟨by omega,by omega⟩,up1 hi hl,trivial⟩
  try simp only[zam]at t
  exact t) (by
  have t:=qOJ xs.length (nextL Token.next k (xs.take xs.length)) (qal Token.e Token.mark Token.next k xs xs.length) ⟨qdb,trivial⟩
  rw[qc7,zC]at t ⊢
  exact t)
 rw[qc6]at l
 exact qOK ⟨l,trivial⟩
theorem qPA(xs:List Token)(k:Int)(hk:0≤k)(hM:nextL Token.next k xs≤1000000000000)(hl:xs.length≤8388608):Rt 78 [.one (.sl 5 ((markL Token.mark Token.next k xs).map Token.e)),.one (I k)] [.one (I (nextL Token.next k xs))]:=by
 have hlm:(markL Token.mark Token.next k xs).length=xs.length:=qb2
 have l:=qaq (P:=Tryz.prog) (c:=qaa Tryz.f78 0) (qaf 0) (markL Token.mark Token.next k xs).length (fun i=>qfJ ((markL Token.mark Token.next k xs).map Token.e) i (nextL Token.next k (xs.take i))) (fun i hi2=>by
  have hi:i<xs.length:=by omega
  obtain⟨a,ha⟩:=qag hi
  have ha2:=qdx (mark:=Token.mark) (next:=Token.next) (k:=k) ha
  have h0:=qbB Token.cb Token.next_le xs k i
  have h1:=zaq (qbA Token.cb Token.next_le xs k (i+1)) hM
  rw[qaH ha]at h1
  show Tr _ _ (qfJ ((markL Token.mark Token.next k xs).map Token.e) (i:Nat) (nextL Token.next k (xs.take i))) _ (qfJ ((markL Token.mark Token.next k xs).map Token.e) (i+1:Nat) (nextL Token.next k (xs.take (i+1))))
  rw[qaH ha]
  generalize nextL Token.next k (xs.take i)=K at*
  unfold Token.next at h1
  exact qPh ⟨lt1 hi2,lt0,lt2 hi2,qac Token.e ha2,by omega,by simp[Token.mark],⟨by omega,by omega⟩,lt0,lt2 hi2,qac Token.e ha2,by simp[Token.mark],⟨by omega,by omega⟩,lt0,lt2 hi2,qac Token.e ha2,by simp[Token.mark],⟨by omega,by omega⟩,lt0,lt2 hi2,qac Token.e ha2,by omega,by simp[Token.mark],⟨by omega,by omega⟩,lt0,lt2 hi2,qac Token.e ha2,by omega,by simp[Token.mark],⟨by omega,by omega⟩,⟨by omega,by omega⟩,trivial⟩) (qPi ⟨ge1,trivial⟩)
 rw[hlm,zC]at l
 exact qPj ⟨l,trivial⟩
theorem qPB(xs:List News)(k:Int)(hk:0≤k)(hM:nextL News.next k xs≤1000000000000)(hl:xs.length≤8388608):
  RetG Tryz.prog 74 [.one (.gv 3 (xs.map News.e) (some ((markL News.mark News.next k xs).map News.e))),.one (.ro (I k))] [.one (I (nextL News.next k xs))]:=by
 have l:=qaq (P:=Tryz.prog) (c:=qaa Tryz.f74 0) (stE:=qmj (nextL News.next k xs) ((markL News.mark News.next k xs).map News.e)) (qaf 0) xs.length (fun i=>qft i (nextL News.next k (xs.take i)) (qal News.e News.mark News.next k xs i)) (fun i hi=>by
  obtain⟨a,ha⟩:=qag hi
  have h0:=qbB News.cb News.next_le xs k i
  have h1:=zaq (qbA News.cb News.next_le xs k (i+1)) hM
  rw[qaH ha]at h1
  have hlen:(qal News.e News.mark News.next k xs i).length=xs.length:=qcB (by omega)
  have hlt:=qda (e:=News.e) (mark:=News.mark) (next:=News.next) (k:=k) hi
  have hg:=qc8 (e:=News.e) (mark:=News.mark) (next:=News.next) (k:=k) ha
  have hset:=qc9 (e:=News.e) (mark:=News.mark) (next:=News.next) (k:=k) ha
  show Tr _ _ (qft (i:Nat) (nextL News.next k (xs.take i)) (qal News.e News.mark News.next k xs i)) _ (qft (i+1:Nat) (nextL News.next k (xs.take (i+1))) (qal News.e News.mark News.next k xs (i+1)))
  rw[←hset,qaH ha]
  generalize nextL News.next k (xs.take i)=K at*
  generalize qal News.e News.mark News.next k xs i=M at*
  unfold News.next at h1
  have t:=qOt i K M _ _ _ _ _ _ _ _ _ ⟨by rw[hlen];simp only[zi];omega,lt0,hlt,hg,⟨by omega,by omega⟩,lt0,qak hlt,qaK (by (try simp only[zn]);omega),⟨by omega,by omega⟩,by omega,lt0,qak (qak hlt),qaK (by (try simp only[zn]);omega),⟨by omega,by omega⟩,up1 hi hl,trivial⟩
  try simp only[zam]at t
  exact t) (by
  have t:=qOu xs.length (nextL News.next k (xs.take xs.length)) (qal News.e News.mark News.next k xs xs.length) ⟨qdb,trivial⟩
  rw[qc7,zC]at t ⊢
  exact t)
 rw[qc6]at l
 exact qOv ⟨l,trivial⟩
theorem qPC(xs:List News)(k:Int)(hk:0≤k)(hM:nextL News.next k xs≤1000000000000)(hl:xs.length≤8388608):Rt 79 [.one (.sl 3 ((markL News.mark News.next k xs).map News.e)),.one (I k)] [.one (I (nextL News.next k xs))]:=by
 have hlm:(markL News.mark News.next k xs).length=xs.length:=qb2
 have l:=qaq (P:=Tryz.prog) (c:=qaa Tryz.f79 0) (qaf 0) (markL News.mark News.next k xs).length (fun i=>qfE ((markL News.mark News.next k xs).map News.e) i (nextL News.next k (xs.take i))) (fun i hi2=>by
  have hi:i<xs.length:=by omega
  obtain⟨a,ha⟩:=qag hi
  have ha2:=qdx (mark:=News.mark) (next:=News.next) (k:=k) ha
  have h0:=qbB News.cb News.next_le xs k i
  have h1:=zaq (qbA News.cb News.next_le xs k (i+1)) hM
  rw[qaH ha]at h1
  show Tr _ _ (qfE ((markL News.mark News.next k xs).map News.e) (i:Nat) (nextL News.next k (xs.take i))) _ (qfE ((markL News.mark News.next k xs).map News.e) (i+1:Nat) (nextL News.next k (xs.take (i+1))))
  rw[qaH ha]
  generalize nextL News.next k (xs.take i)=K at*
  unfold News.next at h1
  exact qO2 ⟨lt1 hi2,lt0,lt2 hi2,qac News.e ha2,by simp[News.mark],⟨by omega,by omega⟩,lt0,lt2 hi2,qac News.e ha2,by simp[News.mark],⟨by omega,by omega⟩,lt0,lt2 hi2,qac News.e ha2,by omega,by simp[News.mark],⟨by omega,by omega⟩,⟨by omega,by omega⟩,trivial⟩) (qO3 ⟨ge1,trivial⟩)
 rw[hlm,zC]at l
 exact qO4 ⟨l,trivial⟩
theorem qPD(xs:List Pick)(k:Int)(hk:0≤k)(hM:nextL Pick.next k xs≤1000000000000)(hl:xs.length≤8388608):
  RetG Tryz.prog 31 [.one (.gv 3 (xs.map Pick.e) (some ((markL Pick.mark Pick.next k xs).map Pick.e))),.one (.ro (I k))] [.one (I (nextL Pick.next k xs))]:=by
 have l:=qaq (P:=Tryz.prog) (c:=qaa Tryz.f31 0) (stE:=qms (nextL Pick.next k xs) ((markL Pick.mark Pick.next k xs).map Pick.e)) (qaf 0) xs.length (fun i=>qfC i (nextL Pick.next k (xs.take i)) (qal Pick.e Pick.mark Pick.next k xs i)) (fun i hi=>by
  obtain⟨a,ha⟩:=qag hi
  have h0:=qbB Pick.cb Pick.next_le xs k i
  have h1:=zaq (qbA Pick.cb Pick.next_le xs k (i+1)) hM
  rw[qaH ha]at h1
  have hlen:(qal Pick.e Pick.mark Pick.next k xs i).length=xs.length:=qcB (by omega)
  have hlt:=qda (e:=Pick.e) (mark:=Pick.mark) (next:=Pick.next) (k:=k) hi
  have hg:=qc8 (e:=Pick.e) (mark:=Pick.mark) (next:=Pick.next) (k:=k) ha
  have hset:=qc9 (e:=Pick.e) (mark:=Pick.mark) (next:=Pick.next) (k:=k) ha
  show Tr _ _ (qfC (i:Nat) (nextL Pick.next k (xs.take i)) (qal Pick.e Pick.mark Pick.next k xs i)) _ (qfC (i+1:Nat) (nextL Pick.next k (xs.take (i+1))) (qal Pick.e Pick.mark Pick.next k xs (i+1)))
  rw[←hset,qaH ha]
  generalize nextL Pick.next k (xs.take i)=K at*
  generalize qal Pick.e Pick.mark Pick.next k xs i=M at*
  unfold Pick.next at h1
  have t:=qOW i K M _ _ _ _ _ _ _ _ _ ⟨by rw[hlen];simp only[zi];omega,lt0,hlt,hg,⟨by omega,by omega⟩,lt0,qak hlt,qaK (by (try simp only[zn]);omega),⟨by omega,by omega⟩,lt0,qak (qak hlt),qaK (by (try simp only[zn]);omega),⟨by omega,by omega⟩,up1 hi hl,trivial⟩
  try simp only[zam]at t
  exact t) (by
  have t:=qOX xs.length (nextL Pick.next k (xs.take xs.length)) (qal Pick.e Pick.mark Pick.next k xs xs.length) ⟨qdb,trivial⟩
  rw[qc7,zC]at t ⊢
  exact t)
 rw[qc6]at l
 exact qOY ⟨l,trivial⟩
theorem qPE(xs:List Node)(k:Int)(hk:0≤k)(hM:nextL Node.next k xs≤1000000000000)(hl:xs.length≤8388608)(hs:∀x∈xs,x.sz≤8388608):
  RetG Tryz.prog 109 [.one (.gv 4 (xs.map Node.e) (some ((markL Node.mark Node.next k xs).map Node.e))),.one (.ro (I k))] [.one (I (nextL Node.next k xs))]:=by
 have l:=qaq (P:=Tryz.prog) (c:=qaa Tryz.f109 0) (stE:=qmp (nextL Node.next k xs) ((markL Node.mark Node.next k xs).map Node.e)) (qaf 0) xs.length (fun i=>qfz i (nextL Node.next k (xs.take i)) (qal Node.e Node.mark Node.next k xs i)) (fun i hi=>by
  obtain⟨a,ha⟩:=qag hi
  have h0:=qbB Node.cb Node.next_le xs k i
  have h1:=zaq (qbA Node.cb Node.next_le xs k (i+1)) hM
  rw[qaH ha]at h1
  have hlen:(qal Node.e Node.mark Node.next k xs i).length=xs.length:=qcB (by omega)
  have hlt:=qda (e:=Node.e) (mark:=Node.mark) (next:=Node.next) (k:=k) hi
  have hg:=qc8 (e:=Node.e) (mark:=Node.mark) (next:=Node.next) (k:=k) ha
  have hset:=qc9 (e:=Node.e) (mark:=Node.mark) (next:=Node.next) (k:=k) ha
  show Tr _ _ (qfz (i:Nat) (nextL Node.next k (xs.take i)) (qal Node.e Node.mark Node.next k xs i)) _ (qfz (i+1:Nat) (nextL Node.next k (xs.take (i+1))) (qal Node.e Node.mark Node.next k xs (i+1)))
  rw[←hset,qaH ha]
  generalize nextL Node.next k (xs.take i)=K at*
  generalize qal Node.e Node.mark Node.next k xs i=M at*
  have hz:=hs a (qas ha)
  unfold Node.next at h1
  have f0:=qav (fun _=>1) nI_le a.outs (K+1+1+1)
  have t:=qOL i K M _ _ _ _ _ _ _ _ _ _ _ _ _ _ _ _ _ _ ⟨by rw[hlen];simp only[zi];omega,lt0,hlt,hg,⟨by omega,by omega⟩,lt0,qak hlt,qaK (by (try simp only[zn]);omega),⟨by omega,by omega⟩,lt0,qak (qak hlt),qaK (by (try simp only[zn]);omega),⟨by omega,by omega⟩,lt0,qak (qak (qak hlt)),qaK (by (try simp only[zn]);omega),qsf a.outs (K+1+1+1) (by omega) (by omega) (by simp only[Node.sz]at hz;omega),qaK (by (try simp only[zn]);omega),rfl,up1 hi hl,trivial⟩
  try simp only[zam]at t
  exact t) (by
  have t:=qOM xs.length (nextL Node.next k (xs.take xs.length)) (qal Node.e Node.mark Node.next k xs xs.length) ⟨qdb,trivial⟩
  rw[qc7,zC]at t ⊢
  exact t)
 rw[qc6]at l
 exact qON ⟨l,trivial⟩
theorem qPF(xs:List Node)(k:Int)(hk:0≤k)(hM:nextL Node.next k xs≤1000000000000)(hl:xs.length≤8388608)(hs:∀x∈xs,x.sz≤8388608):Rt 133 [.one (.sl 4 ((markL Node.mark Node.next k xs).map Node.e)),.one (I k)] [.one (I (nextL Node.next k xs))]:=by
 have hlm:(markL Node.mark Node.next k xs).length=xs.length:=qb2
 have l:=qaq (P:=Tryz.prog) (c:=qaa Tryz.f133 0) (qaf 0) (markL Node.mark Node.next k xs).length (fun i=>qfK ((markL Node.mark Node.next k xs).map Node.e) i (nextL Node.next k (xs.take i))) (fun i hi2=>by
  have hi:i<xs.length:=by omega
  obtain⟨a,ha⟩:=qag hi
  have ha2:=qdx (mark:=Node.mark) (next:=Node.next) (k:=k) ha
  have h0:=qbB Node.cb Node.next_le xs k i
  have h1:=zaq (qbA Node.cb Node.next_le xs k (i+1)) hM
  rw[qaH ha]at h1
  show Tr _ _ (qfK ((markL Node.mark Node.next k xs).map Node.e) (i:Nat) (nextL Node.next k (xs.take i))) _ (qfK ((markL Node.mark Node.next k xs).map Node.e) (i+1:Nat) (nextL Node.next k (xs.take (i+1))))
  rw[qaH ha]
  generalize nextL Node.next k (xs.take i)=K at*
  have hz:=hs a (qas ha)
  unfold Node.next at h1
  have f0:=qav (fun _=>1) nI_le a.outs (K+1+1+1)
  exact qPk ⟨lt1 hi2,lt0,lt2 hi2,qac Node.e ha2,by simp[Node.mark],⟨by omega,by omega⟩,lt0,lt2 hi2,qac Node.e ha2,by simp[Node.mark],⟨by omega,by omega⟩,lt0,lt2 hi2,qac Node.e ha2,by simp[Node.mark],⟨by omega,by omega⟩,lt0,lt2 hi2,qac Node.e ha2,qsg a.outs (K+1+1+1) (by omega) (by omega) (by simp only[Node.sz]at hz;omega),by simp only[zf];(try unfold Node.next);omega,⟨by omega,by omega⟩,trivial⟩) (qPl ⟨ge1,trivial⟩)
 rw[hlm,zC]at l
 exact qPm ⟨l,trivial⟩
theorem qPG(xs:List Link)(k:Int)(hk:0≤k)(hM:nextL Link.next k xs≤1000000000000)(hl:xs.length≤8388608)(hs:∀x∈xs,x.sz≤8388608):
  RetG Tryz.prog 72 [.one (.gv 6 (xs.map Link.e) (some ((markL Link.mark Link.next k xs).map Link.e))),.one (.ro (I k))] [.one (I (nextL Link.next k xs))]:=by
 have l:=qaq (P:=Tryz.prog) (c:=qaa Tryz.f72 0) (stE:=qmq (nextL Link.next k xs) ((markL Link.mark Link.next k xs).map Link.e)) (qaf 0) xs.length (fun i=>qfA i (nextL Link.next k (xs.take i)) (qal Link.e Link.mark Link.next k xs i)) (fun i hi=>by
  obtain⟨a,ha⟩:=qag hi
  have h0:=qbB Link.cb Link.next_le xs k i
  have h1:=zaq (qbA Link.cb Link.next_le xs k (i+1)) hM
  rw[qaH ha]at h1
  have hlen:(qal Link.e Link.mark Link.next k xs i).length=xs.length:=qcB (by omega)
  have hlt:=qda (e:=Link.e) (mark:=Link.mark) (next:=Link.next) (k:=k) hi
  have hg:=qc8 (e:=Link.e) (mark:=Link.mark) (next:=Link.next) (k:=k) ha
  have hset:=qc9 (e:=Link.e) (mark:=Link.mark) (next:=Link.next) (k:=k) ha
  show Tr _ _ (qfA (i:Nat) (nextL Link.next k (xs.take i)) (qal Link.e Link.mark Link.next k xs i)) _ (qfA (i+1:Nat) (nextL Link.next k (xs.take (i+1))) (qal Link.e Link.mark Link.next k xs (i+1)))
  rw[←hset,qaH ha]
  generalize nextL Link.next k (xs.take i)=K at*
  generalize qal Link.e Link.mark Link.next k xs i=M at*
  have hz:=hs a (qas ha)
  unfold Link.next at h1
  have f0:=qav Record.cb Record.next_le a.queue (K+1)
  have t:=qOO i K M _ _ _ _ _ _ _ _ _ _ _ _ _ _ _ _ _ _ _ _ _ _ _ _ _ _ _ _ _ _ _ _ _ _ _ _ _ _ ⟨by rw[hlen];simp only[zi];omega,lt0,hlt,hg,⟨by omega,by omega⟩,lt0,qak hlt,qaK (by (try simp only[zn]);omega),qjr a.queue (K+1) (by omega) (by omega) (by simp only[Link.sz]at hz;omega),qaK (by (try simp only[zn]);omega),rfl,lt0,qak (qak hlt),qaK (by (try simp only[zn]);omega),⟨by omega,by omega⟩,lt0,qak (qak (qak hlt)),qaK (by (try simp only[zn]);omega),⟨by omega,by omega⟩,lt0,qak (qak (qak (qak hlt))),qaK (by (try simp only[zn]);omega),⟨by omega,by omega⟩,lt0,qak (qak (qak (qak (qak hlt)))),qaK (by (try simp only[zn]);omega),⟨by omega,by omega⟩,up1 hi hl,trivial⟩
  try simp only[zam]at t
  exact t) (by
  have t:=qOP xs.length (nextL Link.next k (xs.take xs.length)) (qal Link.e Link.mark Link.next k xs xs.length) ⟨qdb,trivial⟩
  rw[qc7,zC]at t ⊢
  exact t)
 rw[qc6]at l
 exact qOQ ⟨l,trivial⟩
theorem qPH(xs:List Link)(k:Int)(hk:0≤k)(hM:nextL Link.next k xs≤1000000000000)(hl:xs.length≤8388608)(hs:∀x∈xs,x.sz≤8388608):Rt 77 [.one (.sl 6 ((markL Link.mark Link.next k xs).map Link.e)),.one (I k)] [.one (I (nextL Link.next k xs))]:=by
 have hlm:(markL Link.mark Link.next k xs).length=xs.length:=qb2
 have l:=qaq (P:=Tryz.prog) (c:=qaa Tryz.f77 0) (qaf 0) (markL Link.mark Link.next k xs).length (fun i=>qfL ((markL Link.mark Link.next k xs).map Link.e) i (nextL Link.next k (xs.take i))) (fun i hi2=>by
  have hi:i<xs.length:=by omega
  obtain⟨a,ha⟩:=qag hi
  have ha2:=qdx (mark:=Link.mark) (next:=Link.next) (k:=k) ha
  have h0:=qbB Link.cb Link.next_le xs k i
  have h1:=zaq (qbA Link.cb Link.next_le xs k (i+1)) hM
  rw[qaH ha]at h1
  show Tr _ _ (qfL ((markL Link.mark Link.next k xs).map Link.e) (i:Nat) (nextL Link.next k (xs.take i))) _ (qfL ((markL Link.mark Link.next k xs).map Link.e) (i+1:Nat) (nextL Link.next k (xs.take (i+1))))
  rw[qaH ha]
  generalize nextL Link.next k (xs.take i)=K at*
  have hz:=hs a (qas ha)
  unfold Link.next at h1
  have f0:=qav Record.cb Record.next_le a.queue (K+1)
  exact qPn ⟨lt1 hi2,lt0,lt2 hi2,qac Link.e ha2,by simp[Link.mark],⟨by omega,by omega⟩,lt0,lt2 hi2,qac Link.e ha2,qjs a.queue (K+1) (by omega) (by omega) (by simp only[Link.sz]at hz;omega),by simp only[zf];(try unfold Link.next);omega,lt0,lt2 hi2,qac Link.e ha2,by simp[Link.mark],⟨by omega,by omega⟩,lt0,lt2 hi2,qac Link.e ha2,by simp[Link.mark],⟨by omega,by omega⟩,lt0,lt2 hi2,qac Link.e ha2,by simp[Link.mark],⟨by omega,by omega⟩,lt0,lt2 hi2,qac Link.e ha2,by simp[Link.mark],⟨by omega,by omega⟩,⟨by omega,by omega⟩,trivial⟩) (qPo ⟨ge1,trivial⟩)
 rw[hlm,zC]at l
 exact qPp ⟨l,trivial⟩
theorem qPI(xs:List Worker)(k:Int)(hk:0≤k)(hM:nextL Worker.next k xs≤1000000000000)(hl:xs.length≤8388608)(hs:∀x∈xs,x.sz≤8388608):
  RetG Tryz.prog 71 [.one (.gv 8 (xs.map Worker.e) (some ((markL Worker.mark Worker.next k xs).map Worker.e))),.one (.ro (I k))] [.one (I (nextL Worker.next k xs))]:=by
 have l:=qaq (P:=Tryz.prog) (c:=qaa Tryz.f71 0) (stE:=qmr (nextL Worker.next k xs) ((markL Worker.mark Worker.next k xs).map Worker.e)) (qaf 0) xs.length (fun i=>qfB i (nextL Worker.next k (xs.take i)) (qal Worker.e Worker.mark Worker.next k xs i)) (fun i hi=>by
  obtain⟨a,ha⟩:=qag hi
  have h0:=qbB Worker.cb Worker.next_le xs k i
  have h1:=zaq (qbA Worker.cb Worker.next_le xs k (i+1)) hM
  rw[qaH ha]at h1
  have hlen:(qal Worker.e Worker.mark Worker.next k xs i).length=xs.length:=qcB (by omega)
  have hlt:=qda (e:=Worker.e) (mark:=Worker.mark) (next:=Worker.next) (k:=k) hi
  have hg:=qc8 (e:=Worker.e) (mark:=Worker.mark) (next:=Worker.next) (k:=k) ha
  have hset:=qc9 (e:=Worker.e) (mark:=Worker.mark) (next:=Worker.next) (k:=k) ha
  show Tr _ _ (qfB (i:Nat) (nextL Worker.next k (xs.take i)) (qal Worker.e Worker.mark Worker.next k xs i)) _ (qfB (i+1:Nat) (nextL Worker.next k (xs.take (i+1))) (qal Worker.e Worker.mark Worker.next k xs (i+1)))
  rw[←hset,qaH ha]
  generalize nextL Worker.next k (xs.take i)=K at*
  generalize qal Worker.e Worker.mark Worker.next k xs i=M at*
  have hz:=hs a (qas ha)
  unfold Worker.next at h1
  have f0:=qav Record.cb Record.next_le a.queue K
  have f1:=qav Record.cb Record.next_le a.staged (nextL Record.next K a.queue)
  have f2:=qav Record.cb Record.next_le a.inputs (nextL Record.next (nextL Record.next K a.queue) a.staged)
  have f3:=qav Cell.cb Cell.next_le a.cells (nextL Record.next (nextL Record.next (nextL Record.next K a.queue) a.staged) a.inputs)
  have f4:=qav (fun _=>1) nI_le a.sums (nextL Cell.next (nextL Record.next (nextL Record.next (nextL Record.next K a.queue) a.staged) a.inputs) a.cells)
  have f5:=qav (fun _=>1) nB_le a.black (nextL nI (nextL Cell.next (nextL Record.next (nextL Record.next (nextL Record.next K a.queue) a.staged) a.inputs) a.cells) a.sums)
  have f6:=qav (fun _=>1) nB_le a.caps (nextL nB (nextL nI (nextL Cell.next (nextL Record.next (nextL Record.next (nextL Record.next K a.queue) a.staged) a.inputs) a.cells) a.sums) a.black)
  have f7:=qav Done.cb Done.next_le a.dones (nextL nB (nextL nB (nextL nI (nextL Cell.next (nextL Record.next (nextL Record.next (nextL Record.next K a.queue) a.staged) a.inputs) a.cells) a.sums) a.black) a.caps)
  have t:=qOR i K M _ _ _ _ _ _ _ _ _ _ _ _ _ _ _ _ _ _ _ _ _ _ _ _ _ _ _ _ _ _ _ _ _ _ _ _ _ _ _ _ _ _ _ _ _ _ _ _ _ _ _ _ _ _ _ _ _ _ _ _ _ _ _ _ _ _ _ _ _ _ _ _ _ _ _ _ _ _ _ _ ⟨by rw[hlen];simp only[zi];omega,lt0,hlt,hg,qjr a.queue K (by omega) (by omega) (by simp only[Worker.sz]at hz;omega),hg,rfl,lt0,qak hlt,qaK (by (try simp only[zn]);omega),qjr a.staged (nextL Record.next K a.queue) (by omega) (by omega) (by simp only[Worker.sz]at hz;omega),qaK (by (try simp only[zn]);omega),rfl,lt0,qak (qak hlt),qaK (by (try simp only[zn]);omega),qjr a.inputs (nextL Record.next (nextL Record.next K a.queue) a.staged) (by omega) (by omega) (by simp only[Worker.sz]at hz;omega),qaK (by (try simp only[zn]);omega),rfl,lt0,qak (qak (qak hlt)),qaK (by (try simp only[zn]);omega),qPv a.cells (nextL Record.next (nextL Record.next (nextL Record.next K a.queue) a.staged) a.inputs) (by omega) (by omega) (by simp only[Worker.sz]at hz;omega),qaK (by (try simp only[zn]);omega),rfl,lt0,qak (qak (qak (qak hlt))),qaK (by (try simp only[zn]);omega),qsf a.sums (nextL Cell.next (nextL Record.next (nextL Record.next (nextL Record.next K a.queue) a.staged) a.inputs) a.cells) (by omega) (by omega) (by simp only[Worker.sz]at hz;omega),qaK (by (try simp only[zn]);omega),rfl,lt0,qak (qak (qak (qak (qak hlt)))),qaK (by (try simp only[zn]);omega),qmv a.black (nextL nI (nextL Cell.next (nextL Record.next (nextL Record.next (nextL Record.next K a.queue) a.staged) a.inputs) a.cells) a.sums) (by omega) (by omega) (by simp only[Worker.sz]at hz;omega),qaK (by (try simp only[zn]);omega),rfl,lt0,qak (qak (qak (qak (qak (qak hlt))))),qaK (by (try simp only[zn]);omega),qmv a.caps (nextL nB (nextL nI (nextL Cell.next (nextL Record.next (nextL Record.next (nextL Record.next K a.queue) a.staged) a.inputs) a.cells) a.sums) a.black) (by omega) (by omega) (by simp only[Worker.sz]at hz;omega),qaK (by (try simp only[zn]);omega),rfl,lt0,qak (qak (qak (qak (qak (qak (qak hlt)))))),qaK (by (try simp only[zn]);omega),qPx a.dones (nextL nB (nextL nB (nextL nI (nextL Cell.next (nextL Record.next (nextL Record.next (nextL Record.next K a.queue) a.staged) a.inputs) a.cells) a.sums) a.black) a.caps) (by omega) (by omega) (by simp only[Worker.sz]at hz;omega),qaK (by (try simp only[zn]);omega),rfl,up1 hi hl,trivial⟩
  try simp only[zam]at t
  exact t) (by
  have t:=qOS xs.length (nextL Worker.next k (xs.take xs.length)) (qal Worker.e Worker.mark Worker.next k xs xs.length) ⟨qdb,trivial⟩
  rw[qc7,zC]at t ⊢
  exact t)
 rw[qc6]at l
 exact qOT ⟨l,trivial⟩
theorem qPJ(xs:List Worker)(k:Int)(hk:0≤k)(hM:nextL Worker.next k xs≤1000000000000)(hl:xs.length≤8388608)(hs:∀x∈xs,x.sz≤8388608):Rt 76 [.one (.sl 8 ((markL Worker.mark Worker.next k xs).map Worker.e)),.one (I k)] [.one (I (nextL Worker.next k xs))]:=by
 have hlm:(markL Worker.mark Worker.next k xs).length=xs.length:=qb2
 have l:=qaq (P:=Tryz.prog) (c:=qaa Tryz.f76 0) (qaf 0) (markL Worker.mark Worker.next k xs).length (fun i=>qfM ((markL Worker.mark Worker.next k xs).map Worker.e) i (nextL Worker.next k (xs.take i))) (fun i hi2=>by
  have hi:i<xs.length:=by omega
  obtain⟨a,ha⟩:=qag hi
  have ha2:=qdx (mark:=Worker.mark) (next:=Worker.next) (k:=k) ha
  have h0:=qbB Worker.cb Worker.next_le xs k i
  have h1:=zaq (qbA Worker.cb Worker.next_le xs k (i+1)) hM
  rw[qaH ha]at h1
  show Tr _ _ (qfM ((markL Worker.mark Worker.next k xs).map Worker.e) (i:Nat) (nextL Worker.next k (xs.take i))) _ (qfM ((markL Worker.mark Worker.next k xs).map Worker.e) (i+1:Nat) (nextL Worker.next k (xs.take (i+1))))
  rw[qaH ha]
  generalize nextL Worker.next k (xs.take i)=K at*
  have hz:=hs a (qas ha)
  unfold Worker.next at h1
  have f0:=qav Record.cb Record.next_le a.queue K
  have f1:=qav Record.cb Record.next_le a.staged (nextL Record.next K a.queue)
  have f2:=qav Record.cb Record.next_le a.inputs (nextL Record.next (nextL Record.next K a.queue) a.staged)
  have f3:=qav Cell.cb Cell.next_le a.cells (nextL Record.next (nextL Record.next (nextL Record.next K a.queue) a.staged) a.inputs)
  have f4:=qav (fun _=>1) nI_le a.sums (nextL Cell.next (nextL Record.next (nextL Record.next (nextL Record.next K a.queue) a.staged) a.inputs) a.cells)
  have f5:=qav (fun _=>1) nB_le a.black (nextL nI (nextL Cell.next (nextL Record.next (nextL Record.next (nextL Record.next K a.queue) a.staged) a.inputs) a.cells) a.sums)
  have f6:=qav (fun _=>1) nB_le a.caps (nextL nB (nextL nI (nextL Cell.next (nextL Record.next (nextL Record.next (nextL Record.next K a.queue) a.staged) a.inputs) a.cells) a.sums) a.black)
  have f7:=qav Done.cb Done.next_le a.dones (nextL nB (nextL nB (nextL nI (nextL Cell.next (nextL Record.next (nextL Record.next (nextL Record.next K a.queue) a.staged) a.inputs) a.cells) a.sums) a.black) a.caps)
  exact qPq ⟨lt1 hi2,lt0,lt2 hi2,qac Worker.e ha2,qjs a.queue K (by omega) (by omega) (by simp only[Worker.sz]at hz;omega),by simp only[zf];(try unfold Worker.next);omega,lt0,lt2 hi2,qac Worker.e ha2,qjs a.staged (nextL Record.next K a.queue) (by omega) (by omega) (by simp only[Worker.sz]at hz;omega),by simp only[zf];(try unfold Worker.next);omega,lt0,lt2 hi2,qac Worker.e ha2,qjs a.inputs (nextL Record.next (nextL Record.next K a.queue) a.staged) (by omega) (by omega) (by simp only[Worker.sz]at hz;omega),by simp only[zf];(try unfold Worker.next);omega,lt0,lt2 hi2,qac Worker.e ha2,qPw a.cells (nextL Record.next (nextL Record.next (nextL Record.next K a.queue) a.staged) a.inputs) (by omega) (by omega) (by simp only[Worker.sz]at hz;omega),by simp only[zf];(try unfold Worker.next);omega,lt0,lt2 hi2,qac Worker.e ha2,qsg a.sums (nextL Cell.next (nextL Record.next (nextL Record.next (nextL Record.next K a.queue) a.staged) a.inputs) a.cells) (by omega) (by omega) (by simp only[Worker.sz]at hz;omega),by simp only[zf];(try unfold Worker.next);omega,lt0,lt2 hi2,qac Worker.e ha2,qmw a.black (nextL nI (nextL Cell.next (nextL Record.next (nextL Record.next (nextL Record.next K a.queue) a.staged) a.inputs) a.cells) a.sums) (by omega) (by omega) (by simp only[Worker.sz]at hz;omega),by simp only[zf];(try unfold Worker.next);omega,lt0,lt2 hi2,qac Worker.e ha2,qmw a.caps (nextL nB (nextL nI (nextL Cell.next (nextL Record.next (nextL Record.next (nextL Record.next K a.queue) a.staged) a.inputs) a.cells) a.sums) a.black) (by omega) (by omega) (by simp only[Worker.sz]at hz;omega),by simp only[zf];(try unfold Worker.next);omega,lt0,lt2 hi2,qac Worker.e ha2,qPy a.dones (nextL nB (nextL nB (nextL nI (nextL Cell.next (nextL Record.next (nextL Record.next (nextL Record.next K a.queue) a.staged) a.inputs) a.cells) a.sums) a.black) a.caps) (by omega) (by omega) (by simp only[Worker.sz]at hz;omega),by simp only[zf];(try unfold Worker.next);omega,⟨by omega,by omega⟩,trivial⟩) (qPr ⟨ge1,trivial⟩)
 rw[hlm,zC]at l
 exact qPs ⟨l,trivial⟩
def Cluster.topNext(k:Int)(c:Cluster):Int:=nextL News.next (nextL Token.next (nextL Link.next (nextL Worker.next (nextL Node.next k c.graph.nodes) c.workers) c.links) c.tokens) c.news
theorem qen(c:Cluster)(k:Int)(hk:0≤k)(hM:c.topNext k≤1000000000000)(hc:c.sz≤8388608):
  RetG Tryz.prog 16 [.agg [.gv 4 (c.graph.nodes.map Node.e) (some ((markL Node.mark Node.next k c.graph.nodes).map Node.e)),.ro (I c.graph.workers),.ro (I c.graph.cap),.gv 8 (c.workers.map Worker.e) (some ((markL Worker.mark Worker.next (nextL Node.next k c.graph.nodes) c.workers).map Worker.e)),.gv 6 (c.links.map Link.e) (some ((markL Link.mark Link.next (nextL Worker.next (nextL Node.next k c.graph.nodes) c.workers) c.links).map Link.e)),.gv 5 (c.tokens.map Token.e) (some ((markL Token.mark Token.next (nextL Link.next (nextL Worker.next (nextL Node.next k c.graph.nodes) c.workers) c.links) c.tokens).map Token.e)),.gv 3 (c.news.map News.e) (some ((markL News.mark News.next (nextL Token.next (nextL Link.next (nextL Worker.next (nextL Node.next k c.graph.nodes) c.workers) c.links) c.tokens) c.news).map News.e))],.one (.ro (I k))] [.one (I (c.topNext k))]:=by
 have f0:=qav Node.cb Node.next_le c.graph.nodes k
 have f1:=qav Worker.cb Worker.next_le c.workers (nextL Node.next k c.graph.nodes)
 have f2:=qav Link.cb Link.next_le c.links (nextL Worker.next (nextL Node.next k c.graph.nodes) c.workers)
 have f3:=qav Token.cb Token.next_le c.tokens (nextL Link.next (nextL Worker.next (nextL Node.next k c.graph.nodes) c.workers) c.links)
 have f4:=qav News.cb News.next_le c.news (nextL Token.next (nextL Link.next (nextL Worker.next (nextL Node.next k c.graph.nodes) c.workers) c.links) c.tokens)
 unfold Cluster.topNext at hM ⊢
 have hz:=hc
 simp only[Cluster.sz,Graph.sz,szS]at hz
 exact qOV ⟨qOU ⟨qPE c.graph.nodes k (by omega) (by omega) (by omega) (fun x hx=>by have:=qdj (sz:=Node.sz) hx;omega),trivial⟩,qPI c.workers (nextL Node.next k c.graph.nodes) (by omega) (by omega) (by omega) (fun x hx=>by have:=qdj (sz:=Worker.sz) hx;omega),qPG c.links (nextL Worker.next (nextL Node.next k c.graph.nodes) c.workers) (by omega) (by omega) (by omega) (fun x hx=>by have:=qdj (sz:=Link.sz) hx;omega),qPz c.tokens (nextL Link.next (nextL Worker.next (nextL Node.next k c.graph.nodes) c.workers) c.links) (by omega) (by omega) (by omega),qPB c.news (nextL Token.next (nextL Link.next (nextL Worker.next (nextL Node.next k c.graph.nodes) c.workers) c.links) c.tokens) (by omega) (by omega) (by omega),trivial⟩
def Cluster.marked(k:Int)(c:Cluster):List D:=[.sl 4 ((markL Node.mark Node.next k c.graph.nodes).map Node.e),I c.graph.workers,I c.graph.cap,.sl 8 ((markL Worker.mark Worker.next (nextL Node.next k c.graph.nodes) c.workers).map Worker.e),.sl 6 ((markL Link.mark Link.next (nextL Worker.next (nextL Node.next k c.graph.nodes) c.workers) c.links).map Link.e),.sl 5 ((markL Token.mark Token.next (nextL Link.next (nextL Worker.next (nextL Node.next k c.graph.nodes) c.workers) c.links) c.tokens).map Token.e),.sl 3 ((markL News.mark News.next (nextL Token.next (nextL Link.next (nextL Worker.next (nextL Node.next k c.graph.nodes) c.workers) c.links) c.tokens) c.news).map News.e)]
theorem qjt(c:Cluster)(k:Int)(hk:0≤k)(hM:c.topNext k≤1000000000000)(hc:c.sz≤8388608):
  Rt 17 [.agg (c.marked k),.one (I k)] [.one (I (c.topNext k))]:=by
 have f0:=qav Node.cb Node.next_le c.graph.nodes k
 have f1:=qav Worker.cb Worker.next_le c.workers (nextL Node.next k c.graph.nodes)
 have f2:=qav Link.cb Link.next_le c.links (nextL Worker.next (nextL Node.next k c.graph.nodes) c.workers)
 have f3:=qav Token.cb Token.next_le c.tokens (nextL Link.next (nextL Worker.next (nextL Node.next k c.graph.nodes) c.workers) c.links)
 have f4:=qav News.cb News.next_le c.news (nextL Token.next (nextL Link.next (nextL Worker.next (nextL Node.next k c.graph.nodes) c.workers) c.links) c.tokens)
 unfold Cluster.topNext at hM ⊢
 have hz:=hc
 simp only[Cluster.sz,Graph.sz,szS]at hz
 exact qPu ⟨qPt ⟨qPF c.graph.nodes k (by omega) (by omega) (by omega) (fun x hx=>by have:=qdj (sz:=Node.sz) hx;omega),by simp only[zf];omega,trivial⟩,by simp only[zf];omega,qPJ c.workers (nextL Node.next k c.graph.nodes) (by omega) (by omega) (by omega) (fun x hx=>by have:=qdj (sz:=Worker.sz) hx;omega),by simp only[zf];omega,qPH c.links (nextL Worker.next (nextL Node.next k c.graph.nodes) c.workers) (by omega) (by omega) (by omega) (fun x hx=>by have:=qdj (sz:=Link.sz) hx;omega),by simp only[zf];omega,qPA c.tokens (nextL Link.next (nextL Worker.next (nextL Node.next k c.graph.nodes) c.workers) c.links) (by omega) (by omega) (by omega),by simp only[zf];omega,qPC c.news (nextL Token.next (nextL Link.next (nextL Worker.next (nextL Node.next k c.graph.nodes) c.workers) c.links) c.tokens) (by omega) (by omega) (by omega),by simp only[zf];omega,trivial⟩
end Go.Proofs.YtdanpadojemjeaaGreat
