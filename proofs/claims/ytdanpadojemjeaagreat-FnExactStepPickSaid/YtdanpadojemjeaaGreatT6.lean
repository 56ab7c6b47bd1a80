/- The functions mark..: what they write, and what stands behind (printed by gentypes.py) -/
import Derived.Test.YtdanpadojemjeaaGreatT1
import Derived.Test.YtdanpadojemjeaaGreatGM
import Derived.Test.YtdanpadojemjeaaGreatR22
set_option linter.unusedVariables false
set_option linter.unusedSimpArgs false
namespace Go.Proofs.YtdanpadojemjeaaGreat
open Go.Sx Go.RowKit
def nextL{α:Type}(next:Int→α→Int):Int→List α→Int
 | k,[]=>k
 | k,x::r=>nextL next (next k x) r
def markL{α:Type}(mark:Int→α→α)(next:Int→α→Int):Int→List α→List α
 | _,[]=>[]
 | k,x::r=>mark k x::markL mark next (next k x) r
theorem qlg{α:Type}{next:Int→α→Int}:∀{xs ys:List α} {k:Int},nextL next k (xs++ys)=nextL next (nextL next k xs) ys
 | [],_,_=>rfl
 | x::xs,ys,k=>qlg (xs:=xs)
theorem qlh{α:Type}{mark:Int→α→α}{next:Int→α→Int}:∀{xs ys:List α} {k:Int},markL mark next k (xs++ys)=markL mark next k xs++markL mark next (nextL next k xs) ys
 | [],_,_=>rfl
 | x::xs,ys,k=>by
  simp only[List.cons_append,markL,nextL]
  rw[qlh (xs:=xs)]
theorem qbW{α:Type}{mark:Int→α→α}{next:Int→α→Int}:∀{xs:List α} {k:Int},(markL mark next k xs).length=xs.length
 | [],_=>rfl
 | x::xs,k=>by simp[markL,qbW]
theorem qdf{α:Type}{mark:Int→α→α}{next:Int→α→Int}{xs:List α}{k:Int}{i:Nat}{a:α}(h:xs[i]?=some a):(markL mark next k xs)[i]?=some (mark (nextL next k (xs.take i)) a):=by
 have hi:=lt_of h
 have e:xs=xs.take i++a::xs.drop (i+1):=by
  have ha:xs[i]=a:=by rw[zt hi]at h;exact zx h
  rw[←ha,←List.drop_eq_getElem_cons hi,zca]
 conv=>lhs;rw[e]
 rw[qlh,zT,qbW,zay,zo (by omega),show i-min i xs.length=0 by omega]
 rfl
theorem qaG{α:Type}{next:Int→α→Int}{xs:List α}{i:Nat}{a:α}{k:Int}(h:xs[i]?=some a):nextL next k (xs.take (i+1))=next (nextL next k (xs.take i)) a:=by
 rw[zbj,h,qlg];rfl
def qan{α:Type}(e:α→List D)(mark:Int→α→α)(next:Int→α→Int)(k:Int)(xs:List α)(i:Nat):List (List D):=(markL mark next k (xs.take i)).map e++(xs.drop i).map e
section
variable {α : Type} {e : α → List D} {mark : Int → α → α} {next : Int → α → Int} {k : Int} {xs : List α} {i : Nat} {a : α}
theorem qcE(h:i≤xs.length):(qan e mark next k xs i).length=xs.length:=by simp[qan,qbW];omega
theorem qdg:qan e mark next k xs 0=xs.map e:=by simp[qan,markL]
theorem qdh:qan e mark next k xs xs.length=(markL mark next k xs).map e:=by simp[qan]
theorem qdi(h:xs[i]?=some a):(qan e mark next k xs i)[((i:Nat):Int).toNat]?=some (e a):=by
 have hi:=lt_of h
 simp only[qan,zbb]
 rw[zT,zb,qbW,zay,zo (by omega),zp,zA]
 rw[show i+(i-min i xs.length)=i by omega,h];rfl
theorem qdj(h:xs[i]?=some a):(qan e mark next k xs i).set ((i:Nat):Int).toNat (e (mark (nextL next k (xs.take i)) a))=qan e mark next k xs (i+1):=by
 have hi:=lt_of h
 have ha:xs[i]=a:=by rw[zt hi]at h;exact zx h
 simp only[qan,zbb]
 rw[List.set_append,zo (by simp[qbW];omega),zb,qbW,zay,show i-min i xs.length=0 by omega]
 rw[List.drop_eq_getElem_cons hi,ha,zar,List.set_cons_zero,zbj,h,qlh,zai]
 simp[markL]
theorem qdk(h:i<xs.length):(i:Int)<(↑(qan e mark next k xs i).length:Int):=by rw[qcE (by omega)];omega
theorem qdl:decide ((↑xs.length:Int)<(↑(qan e mark next k xs xs.length).length:Int))=false:=by rw[qcE (zP _)];simp
theorem qau(c:α→Nat)(h:∀k x,k≤next k x∧next k x≤k+c x):∀(xs:List α) (k:Int),k≤nextL next k xs∧nextL next k xs≤k+(xs.map c).sum
 | [],k=>by simp[nextL]
 | x::xs,k=>by
  have h1:=h k x
  have h2:=qau c h xs (next k x)
  simp only[nextL,zar,zcs]
  omega
theorem qbz(c:α→Nat)(h:∀k x,k≤next k x∧next k x≤k+c x)(xs:List α)(k:Int)(i:Nat):nextL next k (xs.take i)≤nextL next k xs:=by
 have:nextL next k xs=nextL next (nextL next k (xs.take i)) (xs.drop i):=by rw[←qlg,zca]
 rw[this]
 exact (qau c h _ _).1
theorem qbA(c:α→Nat)(h:∀k x,k≤next k x∧next k x≤k+c x)(xs:List α)(k:Int)(i:Nat):k≤nextL next k (xs.take i):=(qau c h _ _).1
end
theorem qaI{M:List (List D)}{i:Nat}{r:List D}(h:i<M.length):(M.set ((i:Nat):Int).toNat r)[((i:Nat):Int).toNat]?=some r:=by
 rw[zbb,zaa,zq rfl,zq h]
theorem qak{M:List (List D)}{i j:Nat}{r:List D}(h:(i:Int)<(↑M.length:Int)):(i:Int)<(↑(M.set j r).length:Int):=by rw[zn];exact h
def nI(k:Int)(_:Int):Int:=k+1
def mI(k:Int)(_:Int):Int:=k
def nB(k:Int)(_:Bool):Int:=k+1
def mB(k:Int)(_:Bool):Bool:=k.tmod 3==0
theorem nI_le(k x:Int):k≤nI k x∧nI k x≤k+(1:Nat):=by unfold nI;omega
theorem nB_le(k:Int)(x:Bool):k≤nB k x∧nB k x≤k+(1:Nat):=by unfold nB;omega
theorem qdm{α:Type}(xs:List α)(w:Nat):(xs.map fun _=>w).sum=xs.length*w:=by
 induction xs with
 | nil=>simp
 | cons x xs ih=>simp only[zar,zcs,ih,zr,zR];omega
def Stamp.mark(k:Int)(_:Stamp):Stamp:=⟨k,k+1⟩
def Stamp.next(k:Int)(_:Stamp):Int:=k+1+1
def Stamp.cb(_:Stamp):Nat:=2
theorem Stamp.next_le(k:Int)(x:Stamp):k≤Stamp.next k x∧Stamp.next k x≤k+(Stamp.cb x:Nat):=by unfold Stamp.next Stamp.cb;omega
def Record.mark(k:Int)(_:Record):Record:=⟨k,⟨k+1,k+1+1⟩,k+1+1+1,k+1+1+1+1⟩
def Record.next(k:Int)(_:Record):Int:=k+1+1+1+1+1
def Record.cb(_:Record):Nat:=5
theorem Record.next_le(k:Int)(x:Record):k≤Record.next k x∧Record.next k x≤k+(Record.cb x:Nat):=by unfold Record.next Record.cb;omega
def Cell.mark(k:Int)(_:Cell):Cell:=⟨k,k+1,k+1+1,k+1+1+1⟩
def Cell.next(k:Int)(_:Cell):Int:=k+1+1+1+1
def Cell.cb(_:Cell):Nat:=4
theorem Cell.next_le(k:Int)(x:Cell):k≤Cell.next k x∧Cell.next k x≤k+(Cell.cb x:Nat):=by unfold Cell.next Cell.cb;omega
def Done.mark(k:Int)(_:Done):Done:=⟨k,((k+1).tmod 3==0)⟩
def Done.next(k:Int)(_:Done):Int:=k+1+1
def Done.cb(_:Done):Nat:=2
theorem Done.next_le(k:Int)(x:Done):k≤Done.next k x∧Done.next k x≤k+(Done.cb x:Nat):=by unfold Done.next Done.cb;omega
def Token.mark(k:Int)(_:Token):Token:=⟨(k.tmod 3==0),k+1,k+1+1,((k+1+1+1).tmod 3==0),((k+1+1+1+1).tmod 3==0)⟩
def Token.next(k:Int)(_:Token):Int:=k+1+1+1+1+1
def Token.cb(_:Token):Nat:=5
theorem Token.next_le(k:Int)(x:Token):k≤Token.next k x∧Token.next k x≤k+(Token.cb x:Nat):=by unfold Token.next Token.cb;omega
def News.mark(k:Int)(_:News):News:=⟨k,k+1,((k+1+1).tmod 3==0)⟩
def News.next(k:Int)(_:News):Int:=k+1+1+1
def News.cb(_:News):Nat:=3
theorem News.next_le(k:Int)(x:News):k≤News.next k x∧News.next k x≤k+(News.cb x:Nat):=by unfold News.next News.cb;omega
def Pick.mark(k:Int)(_:Pick):Pick:=⟨k,k+1,k+1+1⟩
def Pick.next(k:Int)(_:Pick):Int:=k+1+1+1
def Pick.cb(_:Pick):Nat:=3
theorem Pick.next_le(k:Int)(x:Pick):k≤Pick.next k x∧Pick.next k x≤k+(Pick.cb x:Nat):=by unfold Pick.next Pick.cb;omega
def Node.mark(k:Int)(x:Node):Node:=⟨k,k+1,k+1+1,markL mI nI (k+1+1+1) x.outs⟩
def Node.next(k:Int)(x:Node):Int:=nextL nI (k+1+1+1) x.outs
def Node.cb(x:Node):Nat:=3+(x.outs.map (fun _=>1)).sum
theorem Node.next_le(k:Int)(x:Node):k≤Node.next k x∧Node.next k x≤k+(Node.cb x:Nat):=by
 unfold Node.next Node.cb
 have f0:=qau (fun _=>1) nI_le x.outs (k+1+1+1)
 omega
def Link.mark(k:Int)(x:Link):Link:=⟨k,markL Record.mark Record.next (k+1) x.queue,nextL Record.next (k+1) x.queue,nextL Record.next (k+1) x.queue+1,nextL Record.next (k+1) x.queue+1+1,nextL Record.next (k+1) x.queue+1+1+1⟩
def Link.next(k:Int)(x:Link):Int:=nextL Record.next (k+1) x.queue+1+1+1+1
def Link.cb(x:Link):Nat:=5+(x.queue.map Record.cb).sum
theorem Link.next_le(k:Int)(x:Link):k≤Link.next k x∧Link.next k x≤k+(Link.cb x:Nat):=by
 unfold Link.next Link.cb
 have f0:=qau Record.cb Record.next_le x.queue (k+1)
 omega
def Worker.mark(k:Int)(x:Worker):Worker:=⟨markL Record.mark Record.next k x.queue,markL Record.mark Record.next (nextL Record.next k x.queue) x.staged,markL Record.mark Record.next (nextL Record.next (nextL Record.next k x.queue) x.staged) x.inputs,markL Cell.mark Cell.next (nextL Record.next (nextL Record.next (nextL Record.next k x.queue) x.staged) x.inputs) x.cells,markL mI nI (nextL Cell.next (nextL Record.next (nextL Record.next (nextL Record.next k x.queue) x.staged) x.inputs) x.cells) x.sums,markL mB nB (nextL nI (nextL Cell.next (nextL Record.next (nextL Record.next (nextL Record.next k x.queue) x.staged) x.inputs) x.cells) x.sums) x.black,markL mB nB (nextL nB (nextL nI (nextL Cell.next (nextL Record.next (nextL Record.next (nextL Record.next k x.queue) x.staged) x.inputs) x.cells) x.sums) x.black) x.caps,markL Done.mark Done.next (nextL nB (nextL nB (nextL nI (nextL Cell.next (nextL Record.next (nextL Record.next (nextL Record.next k x.queue) x.staged) x.inputs) x.cells) x.sums) x.black) x.caps) x.dones⟩
def Worker.next(k:Int)(x:Worker):Int:=nextL Done.next (nextL nB (nextL nB (nextL nI (nextL Cell.next (nextL Record.next (nextL Record.next (nextL Record.next k x.queue) x.staged) x.inputs) x.cells) x.sums) x.black) x.caps) x.dones
def Worker.cb(x:Worker):Nat:=0+(x.queue.map Record.cb).sum+(x.staged.map Record.cb).sum+(x.inputs.map Record.cb).sum+(x.cells.map Cell.cb).sum+(x.sums.map (fun _=>1)).sum+(x.black.map (fun _=>1)).sum+(x.caps.map (fun _=>1)).sum+(x.dones.map Done.cb).sum
theorem Worker.next_le(k:Int)(x:Worker):k≤Worker.next k x∧Worker.next k x≤k+(Worker.cb x:Nat):=by
 unfold Worker.next Worker.cb
 have f0:=qau Record.cb Record.next_le x.queue k
 have f1:=qau Record.cb Record.next_le x.staged (nextL Record.next k x.queue)
 have f2:=qau Record.cb Record.next_le x.inputs (nextL Record.next (nextL Record.next k x.queue) x.staged)
 have f3:=qau Cell.cb Cell.next_le x.cells (nextL Record.next (nextL Record.next (nextL Record.next k x.queue) x.staged) x.inputs)
 have f4:=qau (fun _=>1) nI_le x.sums (nextL Cell.next (nextL Record.next (nextL Record.next (nextL Record.next k x.queue) x.staged) x.inputs) x.cells)
 have f5:=qau (fun _=>1) nB_le x.black (nextL nI (nextL Cell.next (nextL Record.next (nextL Record.next (nextL Record.next k x.queue) x.staged) x.inputs) x.cells) x.sums)
 have f6:=qau (fun _=>1) nB_le x.caps (nextL nB (nextL nI (nextL Cell.next (nextL Record.next (nextL Record.next (nextL Record.next k x.queue) x.staged) x.inputs) x.cells) x.sums) x.black)
 have f7:=qau Done.cb Done.next_le x.dones (nextL nB (nextL nB (nextL nI (nextL Cell.next (nextL Record.next (nextL Record.next (nextL Record.next k x.queue) x.staged) x.inputs) x.cells) x.sums) x.black) x.caps)
 omega
end Go.Proofs.YtdanpadojemjeaaGreat
namespace Go.Proofs.YtdanpadojemjeaaGreat
open Go.Sx Go.RowKit
theorem qiy{α:Type}(c s:α→Nat)(h:∀x,c x≤6+5*s x):∀xs:List α,(xs.map c).sum≤6*xs.length+5*(xs.map s).sum
 | []=>by simp
 | x::xs=>by
  have h1:=h x
  have h2:=qiy c s h xs
  simp only[zar,zcs,zr]
  omega
theorem Stamp.cb_sum(xs:List Stamp):(xs.map Stamp.cb).sum=xs.length*2:=qdm xs 2
theorem Record.cb_sum(xs:List Record):(xs.map Record.cb).sum=xs.length*5:=qdm xs 5
theorem Cell.cb_sum(xs:List Cell):(xs.map Cell.cb).sum=xs.length*4:=qdm xs 4
theorem Done.cb_sum(xs:List Done):(xs.map Done.cb).sum=xs.length*2:=qdm xs 2
theorem Token.cb_sum(xs:List Token):(xs.map Token.cb).sum=xs.length*5:=qdm xs 5
theorem News.cb_sum(xs:List News):(xs.map News.cb).sum=xs.length*3:=qdm xs 3
theorem Pick.cb_sum(xs:List Pick):(xs.map Pick.cb).sum=xs.length*3:=qdm xs 3
theorem Node.cb_le(x:Node):x.cb≤6+5*x.sz:=by
 simp only[Node.cb,Node.sz,qdm]
 omega
theorem Link.cb_le(x:Link):x.cb≤6+5*x.sz:=by
 simp only[Link.cb,Link.sz,Record.cb_sum]
 omega
theorem Worker.cb_le(x:Worker):x.cb≤6+5*x.sz:=by
 simp only[Worker.cb,Worker.sz,qdm,Cell.cb_sum,Done.cb_sum,qdm,Record.cb_sum]
 omega
theorem qqm(xs:List Int)(k:Int)(hk:0≤k)(hM:nextL nI k xs≤1000000000000)(hl:xs.length≤8388608):
  RetG Tryz.prog 131 [.one (.gv 1 (xs.map eI) (some ((markL mI nI k xs).map eI))),.one (.ro (I k))] [.one (I (nextL nI k xs))]:=by
 have l:=qat (P:=Tryz.prog) (c:=qaa Tryz.f131 0) (stE:=qk8 (nextL nI k xs) ((markL mI nI k xs).map eI)) (qaf 0) xs.length (fun i=>qe6 i (nextL nI k (xs.take i)) (qan eI mI nI k xs i)) (fun i hi=>by
  obtain⟨a,ha⟩:=qah hi
  have h0:=qbA (fun _=>1) nI_le xs k i
  have h1:=zan (qbz (fun _=>1) nI_le xs k (i+1)) hM
  rw[qaG ha]at h1
  have hlen:(qan eI mI nI k xs i).length=xs.length:=qcE (by omega)
  have hlt:=qdk (e:=eI) (mark:=mI) (next:=nI) (k:=k) hi
  have hg:=qdi (e:=eI) (mark:=mI) (next:=nI) (k:=k) ha
  have hset:=qdj (e:=eI) (mark:=mI) (next:=nI) (k:=k) ha
  show Tr _ _ (qe6 (i:Nat) (nextL nI k (xs.take i)) (qan eI mI nI k xs i)) _ (qe6 (i+1:Nat) (nextL nI k (xs.take (i+1))) (qan eI mI nI k xs (i+1)))
  rw[←hset,qaG ha]
  generalize nextL nI k (xs.take i)=K at*
  generalize qan eI mI nI k xs i=M at*
  unfold nI at h1
  have t:=qLj i K M _ ⟨by rw[hlen];simp only[zi];omega,lt0,hlt,hg,⟨by omega,by omega⟩,up1 hi hl,trivial⟩
  try simp only[zak]at t
  exact t) (by
  have t:=qLk xs.length (nextL nI k (xs.take xs.length)) (qan eI mI nI k xs xs.length) ⟨qdl,trivial⟩
  rw[qdh,zG]at t ⊢
  exact t)
 rw[qdg]at l
 exact qLl ⟨l,trivial⟩
theorem qqn(xs:List Int)(k:Int)(hk:0≤k)(hM:nextL nI k xs≤1000000000000)(hl:xs.length≤8388608):Rt 135 [.one (.sl 1 ((markL mI nI k xs).map eI)),.one (I k)] [.one (I (nextL nI k xs))]:=by
 have hlm:(markL mI nI k xs).length=xs.length:=qbW
 have l:=qat (P:=Tryz.prog) (c:=qaa Tryz.f135 0) (qaf 0) (markL mI nI k xs).length (fun i=>qfg ((markL mI nI k xs).map eI) i (nextL nI k (xs.take i))) (fun i hi2=>by
  have hi:i<xs.length:=by omega
  obtain⟨a,ha⟩:=qah hi
  have ha2:=qdf (mark:=mI) (next:=nI) (k:=k) ha
  have h0:=qbA (fun _=>1) nI_le xs k i
  have h1:=zan (qbz (fun _=>1) nI_le xs k (i+1)) hM
  rw[qaG ha]at h1
  show Tr _ _ (qfg ((markL mI nI k xs).map eI) (i:Nat) (nextL nI k (xs.take i))) _ (qfg ((markL mI nI k xs).map eI) (i+1:Nat) (nextL nI k (xs.take (i+1))))
  rw[qaG ha]
  generalize nextL nI k (xs.take i)=K at*
  unfold nI at h1
  exact qLP ⟨lt1 hi2,lt0,lt2 hi2,qac eI ha2,by simp[mI],⟨by omega,by omega⟩,⟨by omega,by omega⟩,trivial⟩) (qLQ ⟨ge1,trivial⟩)
 rw[hlm,zG]at l
 exact qLR ⟨l,trivial⟩
theorem qqo(xs:List Bool)(k:Int)(hk:0≤k)(hM:nextL nB k xs≤1000000000000)(hl:xs.length≤8388608):
  RetG Tryz.prog 32 [.one (.gv 1 (xs.map eB) (some ((markL mB nB k xs).map eB))),.one (.ro (I k))] [.one (I (nextL nB k xs))]:=by
 have l:=qat (P:=Tryz.prog) (c:=qaa Tryz.f32 0) (stE:=qla (nextL nB k xs) ((markL mB nB k xs).map eB)) (qaf 0) xs.length (fun i=>qe8 i (nextL nB k (xs.take i)) (qan eB mB nB k xs i)) (fun i hi=>by
  obtain⟨a,ha⟩:=qah hi
  have h0:=qbA (fun _=>1) nB_le xs k i
  have h1:=zan (qbz (fun _=>1) nB_le xs k (i+1)) hM
  rw[qaG ha]at h1
  have hlen:(qan eB mB nB k xs i).length=xs.length:=qcE (by omega)
  have hlt:=qdk (e:=eB) (mark:=mB) (next:=nB) (k:=k) hi
  have hg:=qdi (e:=eB) (mark:=mB) (next:=nB) (k:=k) ha
  have hset:=qdj (e:=eB) (mark:=mB) (next:=nB) (k:=k) ha
  show Tr _ _ (qe8 (i:Nat) (nextL nB k (xs.take i)) (qan eB mB nB k xs i)) _ (qe8 (i+1:Nat) (nextL nB k (xs.take (i+1))) (qan eB mB nB k xs (i+1)))
  rw[←hset,qaG ha]
  generalize nextL nB k (xs.take i)=K at*
  generalize qan eB mB nB k xs i=M at*
  unfold nB at h1
  have t:=qLp i K M _ ⟨by rw[hlen];simp only[zi];omega,by omega,lt0,hlt,hg,⟨by omega,by omega⟩,up1 hi hl,trivial⟩
  try simp only[zak]at t
  exact t) (by
  have t:=qLq xs.length (nextL nB k (xs.take xs.length)) (qan eB mB nB k xs xs.length) ⟨qdl,trivial⟩
  rw[qdh,zG]at t ⊢
  exact t)
 rw[qdg]at l
 exact qLr ⟨l,trivial⟩
theorem qqp(xs:List Bool)(k:Int)(hk:0≤k)(hM:nextL nB k xs≤1000000000000)(hl:xs.length≤8388608):Rt 33 [.one (.sl 1 ((markL mB nB k xs).map eB)),.one (I k)] [.one (I (nextL nB k xs))]:=by
 have hlm:(markL mB nB k xs).length=xs.length:=qbW
 have l:=qat (P:=Tryz.prog) (c:=qaa Tryz.f33 0) (qaf 0) (markL mB nB k xs).length (fun i=>qfi ((markL mB nB k xs).map eB) i (nextL nB k (xs.take i))) (fun i hi2=>by
  have hi:i<xs.length:=by omega
  obtain⟨a,ha⟩:=qah hi
  have ha2:=qdf (mark:=mB) (next:=nB) (k:=k) ha
  have h0:=qbA (fun _=>1) nB_le xs k i
  have h1:=zan (qbz (fun _=>1) nB_le xs k (i+1)) hM
  rw[qaG ha]at h1
  show Tr _ _ (qfi ((markL mB nB k xs).map eB) (i:Nat) (nextL nB k (xs.take i))) _ (qfi ((markL mB nB k xs).map eB) (i+1:Nat) (nextL nB k (xs.take (i+1))))
  rw[qaG ha]
  generalize nextL nB k (xs.take i)=K at*
  unfold nB at h1
  exact qLV ⟨lt1 hi2,lt0,lt2 hi2,qac eB ha2,by omega,by simp[mB],⟨by omega,by omega⟩,⟨by omega,by omega⟩,trivial⟩) (qLW ⟨ge1,trivial⟩)
 rw[hlm,zG]at l
 exact qLX ⟨l,trivial⟩
theorem qiz(xs:List Record)(k:Int)(hk:0≤k)(hM:nextL Record.next k xs≤1000000000000)(hl:xs.length≤8388608):
  RetG Tryz.prog 48 [.one (.gv 5 (xs.map Record.e) (some ((markL Record.mark Record.next k xs).map Record.e))),.one (.ro (I k))] [.one (I (nextL Record.next k xs))]:=by
 have l:=qat (P:=Tryz.prog) (c:=qaa Tryz.f48 0) (stE:=qk6 (nextL Record.next k xs) ((markL Record.mark Record.next k xs).map Record.e)) (qaf 0) xs.length (fun i=>qe4 i (nextL Record.next k (xs.take i)) (qan Record.e Record.mark Record.next k xs i)) (fun i hi=>by
  obtain⟨a,ha⟩:=qah hi
  have h0:=qbA Record.cb Record.next_le xs k i
  have h1:=zan (qbz Record.cb Record.next_le xs k (i+1)) hM
  rw[qaG ha]at h1
  have hlen:(qan Record.e Record.mark Record.next k xs i).length=xs.length:=qcE (by omega)
  have hlt:=qdk (e:=Record.e) (mark:=Record.mark) (next:=Record.next) (k:=k) hi
  have hg:=qdi (e:=Record.e) (mark:=Record.mark) (next:=Record.next) (k:=k) ha
  have hset:=qdj (e:=Record.e) (mark:=Record.mark) (next:=Record.next) (k:=k) ha
  show Tr _ _ (qe4 (i:Nat) (nextL Record.next k (xs.take i)) (qan Record.e Record.mark Record.next k xs i)) _ (qe4 (i+1:Nat) (nextL Record.next k (xs.take (i+1))) (qan Record.e Record.mark Record.next k xs (i+1)))
  rw[←hset,qaG ha]
  generalize nextL Record.next k (xs.take i)=K at*
  generalize qan Record.e Record.mark Record.next k xs i=M at*
  unfold Record.next at h1
  have t:=qLd i K M _ _ _ _ _ _ _ _ _ _ _ _ _ _ _ _ _ _ _ _ _ _ _ _ _ ⟨by rw[hlen];simp only[zi];omega,lt0,hlt,hg,⟨by omega,by omega⟩,lt0,qak hlt,qaI (by (try simp only[zn]);omega),⟨by omega,by omega⟩,lt0,qak (qak hlt),qaI (by (try simp only[zn]);omega),⟨by omega,by omega⟩,lt0,qak (qak (qak hlt)),qaI (by (try simp only[zn]);omega),⟨by omega,by omega⟩,lt0,qak (qak (qak (qak hlt))),qaI (by (try simp only[zn]);omega),⟨by omega,by omega⟩,up1 hi hl,trivial⟩
  try simp only[zak]at t
  exact t) (by
  have t:=qLe xs.length (nextL Record.next k (xs.take xs.length)) (qan Record.e Record.mark Record.next k xs xs.length) ⟨qdl,trivial⟩
  rw[qdh,zG]at t ⊢
  exact t)
 rw[qdg]at l
 exact qLf ⟨l,trivial⟩
theorem qiA(xs:List Record)(k:Int)(hk:0≤k)(hM:nextL Record.next k xs≤1000000000000)(hl:xs.length≤8388608):Rt 134 [.one (.sl 5 ((markL Record.mark Record.next k xs).map Record.e)),.one (I k)] [.one (I (nextL Record.next k xs))]:=by
 have hlm:(markL Record.mark Record.next k xs).length=xs.length:=qbW
 have l:=qat (P:=Tryz.prog) (c:=qaa Tryz.f134 0) (qaf 0) (markL Record.mark Record.next k xs).length (fun i=>qfe ((markL Record.mark Record.next k xs).map Record.e) i (nextL Record.next k (xs.take i))) (fun i hi2=>by
  have hi:i<xs.length:=by omega
  obtain⟨a,ha⟩:=qah hi
  have ha2:=qdf (mark:=Record.mark) (next:=Record.next) (k:=k) ha
  have h0:=qbA Record.cb Record.next_le xs k i
  have h1:=zan (qbz Record.cb Record.next_le xs k (i+1)) hM
  rw[qaG ha]at h1
  show Tr _ _ (qfe ((markL Record.mark Record.next k xs).map Record.e) (i:Nat) (nextL Record.next k (xs.take i))) _ (qfe ((markL Record.mark Record.next k xs).map Record.e) (i+1:Nat) (nextL Record.next k (xs.take (i+1))))
  rw[qaG ha]
  generalize nextL Record.next k (xs.take i)=K at*
  unfold Record.next at h1
  exact qLJ ⟨lt1 hi2,lt0,lt2 hi2,qac Record.e ha2,by simp[Record.mark],⟨by omega,by omega⟩,lt0,lt2 hi2,qac Record.e ha2,by simp[Record.mark],⟨by omega,by omega⟩,lt0,lt2 hi2,qac Record.e ha2,by simp[Record.mark],⟨by omega,by omega⟩,lt0,lt2 hi2,qac Record.e ha2,by simp[Record.mark],⟨by omega,by omega⟩,lt0,lt2 hi2,qac Record.e ha2,by simp[Record.mark],⟨by omega,by omega⟩,⟨by omega,by omega⟩,trivial⟩) (qLK ⟨ge1,trivial⟩)
 rw[hlm,zG]at l
 exact qLL ⟨l,trivial⟩
theorem qMf(xs:List Cell)(k:Int)(hk:0≤k)(hM:nextL Cell.next k xs≤1000000000000)(hl:xs.length≤8388608):
  RetG Tryz.prog 49 [.one (.gv 4 (xs.map Cell.e) (some ((markL Cell.mark Cell.next k xs).map Cell.e))),.one (.ro (I k))] [.one (I (nextL Cell.next k xs))]:=by
 have l:=qat (P:=Tryz.prog) (c:=qaa Tryz.f49 0) (stE:=qk9 (nextL Cell.next k xs) ((markL Cell.mark Cell.next k xs).map Cell.e)) (qaf 0) xs.length (fun i=>qe7 i (nextL Cell.next k (xs.take i)) (qan Cell.e Cell.mark Cell.next k xs i)) (fun i hi=>by
  obtain⟨a,ha⟩:=qah hi
  have h0:=qbA Cell.cb Cell.next_le xs k i
  have h1:=zan (qbz Cell.cb Cell.next_le xs k (i+1)) hM
  rw[qaG ha]at h1
  have hlen:(qan Cell.e Cell.mark Cell.next k xs i).length=xs.length:=qcE (by omega)
  have hlt:=qdk (e:=Cell.e) (mark:=Cell.mark) (next:=Cell.next) (k:=k) hi
  have hg:=qdi (e:=Cell.e) (mark:=Cell.mark) (next:=Cell.next) (k:=k) ha
  have hset:=qdj (e:=Cell.e) (mark:=Cell.mark) (next:=Cell.next) (k:=k) ha
  show Tr _ _ (qe7 (i:Nat) (nextL Cell.next k (xs.take i)) (qan Cell.e Cell.mark Cell.next k xs i)) _ (qe7 (i+1:Nat) (nextL Cell.next k (xs.take (i+1))) (qan Cell.e Cell.mark Cell.next k xs (i+1)))
  rw[←hset,qaG ha]
  generalize nextL Cell.next k (xs.take i)=K at*
  generalize qan Cell.e Cell.mark Cell.next k xs i=M at*
  unfold Cell.next at h1
  have t:=qLm i K M _ _ _ _ _ _ _ _ _ _ _ _ _ _ _ _ ⟨by rw[hlen];simp only[zi];omega,lt0,hlt,hg,⟨by omega,by omega⟩,lt0,qak hlt,qaI (by (try simp only[zn]);omega),⟨by omega,by omega⟩,lt0,qak (qak hlt),qaI (by (try simp only[zn]);omega),⟨by omega,by omega⟩,lt0,qak (qak (qak hlt)),qaI (by (try simp only[zn]);omega),⟨by omega,by omega⟩,up1 hi hl,trivial⟩
  try simp only[zak]at t
  exact t) (by
  have t:=qLn xs.length (nextL Cell.next k (xs.take xs.length)) (qan Cell.e Cell.mark Cell.next k xs xs.length) ⟨qdl,trivial⟩
  rw[qdh,zG]at t ⊢
  exact t)
 rw[qdg]at l
 exact qLo ⟨l,trivial⟩
theorem qMg(xs:List Cell)(k:Int)(hk:0≤k)(hM:nextL Cell.next k xs≤1000000000000)(hl:xs.length≤8388608):Rt 50 [.one (.sl 4 ((markL Cell.mark Cell.next k xs).map Cell.e)),.one (I k)] [.one (I (nextL Cell.next k xs))]:=by
 have hlm:(markL Cell.mark Cell.next k xs).length=xs.length:=qbW
 have l:=qat (P:=Tryz.prog) (c:=qaa Tryz.f50 0) (qaf 0) (markL Cell.mark Cell.next k xs).length (fun i=>qfh ((markL Cell.mark Cell.next k xs).map Cell.e) i (nextL Cell.next k (xs.take i))) (fun i hi2=>by
  have hi:i<xs.length:=by omega
  obtain⟨a,ha⟩:=qah hi
  have ha2:=qdf (mark:=Cell.mark) (next:=Cell.next) (k:=k) ha
  have h0:=qbA Cell.cb Cell.next_le xs k i
  have h1:=zan (qbz Cell.cb Cell.next_le xs k (i+1)) hM
  rw[qaG ha]at h1
  show Tr _ _ (qfh ((markL Cell.mark Cell.next k xs).map Cell.e) (i:Nat) (nextL Cell.next k (xs.take i))) _ (qfh ((markL Cell.mark Cell.next k xs).map Cell.e) (i+1:Nat) (nextL Cell.next k (xs.take (i+1))))
  rw[qaG ha]
  generalize nextL Cell.next k (xs.take i)=K at*
  unfold Cell.next at h1
  exact qLS ⟨lt1 hi2,lt0,lt2 hi2,qac Cell.e ha2,by simp[Cell.mark],⟨by omega,by omega⟩,lt0,lt2 hi2,qac Cell.e ha2,by simp[Cell.mark],⟨by omega,by omega⟩,lt0,lt2 hi2,qac Cell.e ha2,by simp[Cell.mark],⟨by omega,by omega⟩,lt0,lt2 hi2,qac Cell.e ha2,by simp[Cell.mark],⟨by omega,by omega⟩,⟨by omega,by omega⟩,trivial⟩) (qLT ⟨ge1,trivial⟩)
 rw[hlm,zG]at l
 exact qLU ⟨l,trivial⟩
theorem qMh(xs:List Done)(k:Int)(hk:0≤k)(hM:nextL Done.next k xs≤1000000000000)(hl:xs.length≤8388608):
  RetG Tryz.prog 132 [.one (.gv 2 (xs.map Done.e) (some ((markL Done.mark Done.next k xs).map Done.e))),.one (.ro (I k))] [.one (I (nextL Done.next k xs))]:=by
 have l:=qat (P:=Tryz.prog) (c:=qaa Tryz.f132 0) (stE:=qlb (nextL Done.next k xs) ((markL Done.mark Done.next k xs).map Done.e)) (qaf 0) xs.length (fun i=>qe9 i (nextL Done.next k (xs.take i)) (qan Done.e Done.mark Done.next k xs i)) (fun i hi=>by
  obtain⟨a,ha⟩:=qah hi
  have h0:=qbA Done.cb Done.next_le xs k i
  have h1:=zan (qbz Done.cb Done.next_le xs k (i+1)) hM
  rw[qaG ha]at h1
  have hlen:(qan Done.e Done.mark Done.next k xs i).length=xs.length:=qcE (by omega)
  have hlt:=qdk (e:=Done.e) (mark:=Done.mark) (next:=Done.next) (k:=k) hi
  have hg:=qdi (e:=Done.e) (mark:=Done.mark) (next:=Done.next) (k:=k) ha
  have hset:=qdj (e:=Done.e) (mark:=Done.mark) (next:=Done.next) (k:=k) ha
  show Tr _ _ (qe9 (i:Nat) (nextL Done.next k (xs.take i)) (qan Done.e Done.mark Done.next k xs i)) _ (qe9 (i+1:Nat) (nextL Done.next k (xs.take (i+1))) (qan Done.e Done.mark Done.next k xs (i+1)))
  rw[←hset,qaG ha]
  generalize nextL Done.next k (xs.take i)=K at*
  generalize qan Done.e Done.mark Done.next k xs i=M at*
  unfold Done.next at h1
  have t:=qLs i K M _ _ _ _ ⟨by rw[hlen];simp only[zi];omega,lt0,hlt,hg,⟨by omega,by omega⟩,by omega,lt0,qak hlt,qaI (by (try simp only[zn]);omega),⟨by omega,by omega⟩,up1 hi hl,trivial⟩
  try simp only[zak]at t
  exact t) (by
  have t:=qLt xs.length (nextL Done.next k (xs.take xs.length)) (qan Done.e Done.mark Done.next k xs xs.length) ⟨qdl,trivial⟩
  rw[qdh,zG]at t ⊢
  exact t)
 rw[qdg]at l
 exact qLu ⟨l,trivial⟩
theorem qMi(xs:List Done)(k:Int)(hk:0≤k)(hM:nextL Done.next k xs≤1000000000000)(hl:xs.length≤8388608):Rt 136 [.one (.sl 2 ((markL Done.mark Done.next k xs).map Done.e)),.one (I k)] [.one (I (nextL Done.next k xs))]:=by
 have hlm:(markL Done.mark Done.next k xs).length=xs.length:=qbW
 have l:=qat (P:=Tryz.prog) (c:=qaa Tryz.f136 0) (qaf 0) (markL Done.mark Done.next k xs).length (fun i=>qfj ((markL Done.mark Done.next k xs).map Done.e) i (nextL Done.next k (xs.take i))) (fun i hi2=>by
  have hi:i<xs.length:=by omega
  obtain⟨a,ha⟩:=qah hi
  have ha2:=qdf (mark:=Done.mark) (next:=Done.next) (k:=k) ha
  have h0:=qbA Done.cb Done.next_le xs k i
  have h1:=zan (qbz Done.cb Done.next_le xs k (i+1)) hM
  rw[qaG ha]at h1
  show Tr _ _ (qfj ((markL Done.mark Done.next k xs).map Done.e) (i:Nat) (nextL Done.next k (xs.take i))) _ (qfj ((markL Done.mark Done.next k xs).map Done.e) (i+1:Nat) (nextL Done.next k (xs.take (i+1))))
  rw[qaG ha]
  generalize nextL Done.next k (xs.take i)=K at*
  unfold Done.next at h1
  exact qLY ⟨lt1 hi2,lt0,lt2 hi2,qac Done.e ha2,by simp[Done.mark],⟨by omega,by omega⟩,lt0,lt2 hi2,qac Done.e ha2,by omega,by simp[Done.mark],⟨by omega,by omega⟩,⟨by omega,by omega⟩,trivial⟩) (qLZ ⟨ge1,trivial⟩)
 rw[hlm,zG]at l
 exact qL0 ⟨l,trivial⟩
theorem qMj(xs:List Token)(k:Int)(hk:0≤k)(hM:nextL Token.next k xs≤1000000000000)(hl:xs.length≤8388608):
  RetG Tryz.prog 73 [.one (.gv 5 (xs.map Token.e) (some ((markL Token.mark Token.next k xs).map Token.e))),.one (.ro (I k))] [.one (I (nextL Token.next k xs))]:=by
 have l:=qat (P:=Tryz.prog) (c:=qaa Tryz.f73 0) (stE:=qlc (nextL Token.next k xs) ((markL Token.mark Token.next k xs).map Token.e)) (qaf 0) xs.length (fun i=>qfa i (nextL Token.next k (xs.take i)) (qan Token.e Token.mark Token.next k xs i)) (fun i hi=>by
  obtain⟨a,ha⟩:=qah hi
  have h0:=qbA Token.cb Token.next_le xs k i
  have h1:=zan (qbz Token.cb Token.next_le xs k (i+1)) hM
  rw[qaG ha]at h1
  have hlen:(qan Token.e Token.mark Token.next k xs i).length=xs.length:=qcE (by omega)
  have hlt:=qdk (e:=Token.e) (mark:=Token.mark) (next:=Token.next) (k:=k) hi
  have hg:=qdi (e:=Token.e) (mark:=Token.mark) (next:=Token.next) (k:=k) ha
  have hset:=qdj (e:=Token.e) (mark:=Token.mark) (next:=Token.next) (k:=k) ha
  show Tr _ _ (qfa (i:Nat) (nextL Token.next k (xs.take i)) (qan Token.e Token.mark Token.next k xs i)) _ (qfa (i+1:Nat) (nextL Token.next k (xs.take (i+1))) (qan Token.e Token.mark Token.next k xs (i+1)))
  rw[←hset,qaG ha]
  generalize nextL Token.next k (xs.take i)=K at*
  generalize qan Token.e Token.mark Token.next k xs i=M at*
  unfold Token.next at h1
  have t:=qLv i K M _ _ _ _ _ _ _ _ _ _ _ _ _ _ _ _ _ _ _ _ _ _ _ _ _ ⟨by rw[hlen];simp only[zi];omega,by omega,lt0,hlt,hg,⟨by omega,by omega⟩,lt0,qak hlt,qaI (by (try simp only[zn]);omega),⟨by omega,by omega⟩,lt0,qak (qak hlt),qaI (by (try simp only[zn]);omega),⟨by omega,by omega⟩,by omega,lt0,qak (qak (qak hlt)),qaI (by (try simp only[zn]);omega),⟨by omega,by omega⟩,by omega,lt0,qak (qak (qak (qak hlt))),qaI (by (try simp only[zn]);omega),⟨by omega,by omega⟩,up1 hi hl,trivial⟩
  try simp only[zak]at t
  exact t) (by
  have t:=qLw xs.length (nextL Token.next k (xs.take xs.length)) (qan Token.e Token.mark Token.next k xs xs.length) ⟨qdl,trivial⟩
  rw[qdh,zG]at t ⊢
  exact t)
 rw[qdg]at l
 exact qLx ⟨l,trivial⟩
theorem qMk(xs:List Token)(k:Int)(hk:0≤k)(hM:nextL Token.next k xs≤1000000000000)(hl:xs.length≤8388608):Rt 78 [.one (.sl 5 ((markL Token.mark Token.next k xs).map Token.e)),.one (I k)] [.one (I (nextL Token.next k xs))]:=by
 have hlm:(markL Token.mark Token.next k xs).length=xs.length:=qbW
 have l:=qat (P:=Tryz.prog) (c:=qaa Tryz.f78 0) (qaf 0) (markL Token.mark Token.next k xs).length (fun i=>qfk ((markL Token.mark Token.next k xs).map Token.e) i (nextL Token.next k (xs.take i))) (fun i hi2=>by
  have hi:i<xs.length:=by omega
  obtain⟨a,ha⟩:=qah hi
  have ha2:=qdf (mark:=Token.mark) (next:=Token.next) (k:=k) ha
  have h0:=qbA Token.cb Token.next_le xs k i
  have h1:=zan (qbz Token.cb Token.next_le xs k (i+1)) hM
  rw[qaG ha]at h1
  show Tr _ _ (qfk ((markL Token.mark Token.next k xs).map Token.e) (i:Nat) (nextL Token.next k (xs.take i))) _ (qfk ((markL Token.mark Token.next k xs).map Token.e) (i+1:Nat) (nextL Token.next k (xs.take (i+1))))
  rw[qaG ha]
  generalize nextL Token.next k (xs.take i)=K at*
  unfold Token.next at h1
  exact qL1 ⟨lt1 hi2,lt0,lt2 hi2,qac Token.e ha2,by omega,by simp[Token.mark],⟨by omega,by omega⟩,lt0,lt2 hi2,qac Token.e ha2,by simp[Token.mark],⟨by omega,by omega⟩,lt0,lt2 hi2,qac Token.e ha2,by simp[Token.mark],⟨by omega,by omega⟩,lt0,lt2 hi2,qac Token.e ha2,by omega,by simp[Token.mark],⟨by omega,by omega⟩,lt0,lt2 hi2,qac Token.e ha2,by omega,by simp[Token.mark],⟨by omega,by omega⟩,⟨by omega,by omega⟩,trivial⟩) (qL2 ⟨ge1,trivial⟩)
 rw[hlm,zG]at l
 exact qL3 ⟨l,trivial⟩
theorem qMl(xs:List News)(k:Int)(hk:0≤k)(hM:nextL News.next k xs≤1000000000000)(hl:xs.length≤8388608):
  RetG Tryz.prog 74 [.one (.gv 3 (xs.map News.e) (some ((markL News.mark News.next k xs).map News.e))),.one (.ro (I k))] [.one (I (nextL News.next k xs))]:=by
 have l:=qat (P:=Tryz.prog) (c:=qaa Tryz.f74 0) (stE:=qk7 (nextL News.next k xs) ((markL News.mark News.next k xs).map News.e)) (qaf 0) xs.length (fun i=>qe5 i (nextL News.next k (xs.take i)) (qan News.e News.mark News.next k xs i)) (fun i hi=>by
  obtain⟨a,ha⟩:=qah hi
  have h0:=qbA News.cb News.next_le xs k i
  have h1:=zan (qbz News.cb News.next_le xs k (i+1)) hM
  rw[qaG ha]at h1
  have hlen:(qan News.e News.mark News.next k xs i).length=xs.length:=qcE (by omega)
  have hlt:=qdk (e:=News.e) (mark:=News.mark) (next:=News.next) (k:=k) hi
  have hg:=qdi (e:=News.e) (mark:=News.mark) (next:=News.next) (k:=k) ha
  have hset:=qdj (e:=News.e) (mark:=News.mark) (next:=News.next) (k:=k) ha
  show Tr _ _ (qe5 (i:Nat) (nextL News.next k (xs.take i)) (qan News.e News.mark News.next k xs i)) _ (qe5 (i+1:Nat) (nextL News.next k (xs.take (i+1))) (qan News.e News.mark News.next k xs (i+1)))
  rw[←hset,qaG ha]
  generalize nextL News.next k (xs.take i)=K at*
  generalize qan News.e News.mark News.next k xs i=M at*
  unfold News.next at h1
  have t:=qLg i K M _ _ _ _ _ _ _ _ _ ⟨by rw[hlen];simp only[zi];omega,lt0,hlt,hg,⟨by omega,by omega⟩,lt0,qak hlt,qaI (by (try simp only[zn]);omega),⟨by omega,by omega⟩,by omega,lt0,qak (qak hlt),qaI (by (try simp only[zn]);omega),⟨by omega,by omega⟩,up1 hi hl,trivial⟩
  try simp only[zak]at t
  exact t) (by
  have t:=qLh xs.length (nextL News.next k (xs.take xs.length)) (qan News.e News.mark News.next k xs xs.length) ⟨qdl,trivial⟩
  rw[qdh,zG]at t ⊢
  exact t)
 rw[qdg]at l
 exact qLi ⟨l,trivial⟩
theorem qMm(xs:List News)(k:Int)(hk:0≤k)(hM:nextL News.next k xs≤1000000000000)(hl:xs.length≤8388608):Rt 79 [.one (.sl 3 ((markL News.mark News.next k xs).map News.e)),.one (I k)] [.one (I (nextL News.next k xs))]:=by
 have hlm:(markL News.mark News.next k xs).length=xs.length:=qbW
 have l:=qat (P:=Tryz.prog) (c:=qaa Tryz.f79 0) (qaf 0) (markL News.mark News.next k xs).length (fun i=>qff ((markL News.mark News.next k xs).map News.e) i (nextL News.next k (xs.take i))) (fun i hi2=>by
  have hi:i<xs.length:=by omega
  obtain⟨a,ha⟩:=qah hi
  have ha2:=qdf (mark:=News.mark) (next:=News.next) (k:=k) ha
  have h0:=qbA News.cb News.next_le xs k i
  have h1:=zan (qbz News.cb News.next_le xs k (i+1)) hM
  rw[qaG ha]at h1
  show Tr _ _ (qff ((markL News.mark News.next k xs).map News.e) (i:Nat) (nextL News.next k (xs.take i))) _ (qff ((markL News.mark News.next k xs).map News.e) (i+1:Nat) (nextL News.next k (xs.take (i+1))))
  rw[qaG ha]
  generalize nextL News.next k (xs.take i)=K at*
  unfold News.next at h1
  exact qLM ⟨lt1 hi2,lt0,lt2 hi2,qac News.e ha2,by simp[News.mark],⟨by omega,by omega⟩,lt0,lt2 hi2,qac News.e ha2,by simp[News.mark],⟨by omega,by omega⟩,lt0,lt2 hi2,qac News.e ha2,by omega,by simp[News.mark],⟨by omega,by omega⟩,⟨by omega,by omega⟩,trivial⟩) (qLN ⟨ge1,trivial⟩)
 rw[hlm,zG]at l
 exact qLO ⟨l,trivial⟩
theorem qMn(xs:List Node)(k:Int)(hk:0≤k)(hM:nextL Node.next k xs≤1000000000000)(hl:xs.length≤8388608)(hs:∀x∈xs,x.sz≤8388608):
  RetG Tryz.prog 109 [.one (.gv 4 (xs.map Node.e) (some ((markL Node.mark Node.next k xs).map Node.e))),.one (.ro (I k))] [.one (I (nextL Node.next k xs))]:=by
 have l:=qat (P:=Tryz.prog) (c:=qaa Tryz.f109 0) (stE:=qld (nextL Node.next k xs) ((markL Node.mark Node.next k xs).map Node.e)) (qaf 0) xs.length (fun i=>qfb i (nextL Node.next k (xs.take i)) (qan Node.e Node.mark Node.next k xs i)) (fun i hi=>by
  obtain⟨a,ha⟩:=qah hi
  have h0:=qbA Node.cb Node.next_le xs k i
  have h1:=zan (qbz Node.cb Node.next_le xs k (i+1)) hM
  rw[qaG ha]at h1
  have hlen:(qan Node.e Node.mark Node.next k xs i).length=xs.length:=qcE (by omega)
  have hlt:=qdk (e:=Node.e) (mark:=Node.mark) (next:=Node.next) (k:=k) hi
  have hg:=qdi (e:=Node.e) (mark:=Node.mark) (next:=Node.next) (k:=k) ha
  have hset:=qdj (e:=Node.e) (mark:=Node.mark) (next:=Node.next) (k:=k) ha
  show Tr _ _ (qfb (i:Nat) (nextL Node.next k (xs.take i)) (qan Node.e Node.mark Node.next k xs i)) _ (qfb (i+1:Nat) (nextL Node.next k (xs.take (i+1))) (qan Node.e Node.mark Node.next k xs (i+1)))
  rw[←hset,qaG ha]
  generalize nextL Node.next k (xs.take i)=K at*
  generalize qan Node.e Node.mark Node.next k xs i=M at*
  have hz:=hs a (qaq ha)
  unfold Node.next at h1
  have f0:=qau (fun _=>1) nI_le a.outs (K+1+1+1)
  have t:=qLy i K M _ _ _ _ _ _ _ _ _ _ _ _ _ _ _ _ _ _ ⟨by rw[hlen];simp only[zi];omega,lt0,hlt,hg,⟨by omega,by omega⟩,lt0,qak hlt,qaI (by (try simp only[zn]);omega),⟨by omega,by omega⟩,lt0,qak (qak hlt),qaI (by (try simp only[zn]);omega),⟨by omega,by omega⟩,lt0,qak (qak (qak hlt)),qaI (by (try simp only[zn]);omega),qqm a.outs (K+1+1+1) (by omega) (by omega) (by simp only[Node.sz]at hz;omega),qaI (by (try simp only[zn]);omega),rfl,up1 hi hl,trivial⟩
  try simp only[zak]at t
  exact t) (by
  have t:=qLz xs.length (nextL Node.next k (xs.take xs.length)) (qan Node.e Node.mark Node.next k xs xs.length) ⟨qdl,trivial⟩
  rw[qdh,zG]at t ⊢
  exact t)
 rw[qdg]at l
 exact qLA ⟨l,trivial⟩
theorem qMo(xs:List Node)(k:Int)(hk:0≤k)(hM:nextL Node.next k xs≤1000000000000)(hl:xs.length≤8388608)(hs:∀x∈xs,x.sz≤8388608):Rt 133 [.one (.sl 4 ((markL Node.mark Node.next k xs).map Node.e)),.one (I k)] [.one (I (nextL Node.next k xs))]:=by
 have hlm:(markL Node.mark Node.next k xs).length=xs.length:=qbW
 have l:=qat (P:=Tryz.prog) (c:=qaa Tryz.f133 0) (qaf 0) (markL Node.mark Node.next k xs).length (fun i=>qfl ((markL Node.mark Node.next k xs).map Node.e) i (nextL Node.next k (xs.take i))) (fun i hi2=>by
  have hi:i<xs.length:=by omega
  obtain⟨a,ha⟩:=qah hi
  have ha2:=qdf (mark:=Node.mark) (next:=Node.next) (k:=k) ha
  have h0:=qbA Node.cb Node.next_le xs k i
  have h1:=zan (qbz Node.cb Node.next_le xs k (i+1)) hM
  rw[qaG ha]at h1
  show Tr _ _ (qfl ((markL Node.mark Node.next k xs).map Node.e) (i:Nat) (nextL Node.next k (xs.take i))) _ (qfl ((markL Node.mark Node.next k xs).map Node.e) (i+1:Nat) (nextL Node.next k (xs.take (i+1))))
  rw[qaG ha]
  generalize nextL Node.next k (xs.take i)=K at*
  have hz:=hs a (qaq ha)
  unfold Node.next at h1
  have f0:=qau (fun _=>1) nI_le a.outs (K+1+1+1)
  exact qL4 ⟨lt1 hi2,lt0,lt2 hi2,qac Node.e ha2,by simp[Node.mark],⟨by omega,by omega⟩,lt0,lt2 hi2,qac Node.e ha2,by simp[Node.mark],⟨by omega,by omega⟩,lt0,lt2 hi2,qac Node.e ha2,by simp[Node.mark],⟨by omega,by omega⟩,lt0,lt2 hi2,qac Node.e ha2,qqn a.outs (K+1+1+1) (by omega) (by omega) (by simp only[Node.sz]at hz;omega),by simp only[zf];(try unfold Node.next);omega,⟨by omega,by omega⟩,trivial⟩) (qL5 ⟨ge1,trivial⟩)
 rw[hlm,zG]at l
 exact qL6 ⟨l,trivial⟩
theorem qMp(xs:List Link)(k:Int)(hk:0≤k)(hM:nextL Link.next k xs≤1000000000000)(hl:xs.length≤8388608)(hs:∀x∈xs,x.sz≤8388608):
  RetG Tryz.prog 72 [.one (.gv 6 (xs.map Link.e) (some ((markL Link.mark Link.next k xs).map Link.e))),.one (.ro (I k))] [.one (I (nextL Link.next k xs))]:=by
 have l:=qat (P:=Tryz.prog) (c:=qaa Tryz.f72 0) (stE:=qle (nextL Link.next k xs) ((markL Link.mark Link.next k xs).map Link.e)) (qaf 0) xs.length (fun i=>qfc i (nextL Link.next k (xs.take i)) (qan Link.e Link.mark Link.next k xs i)) (fun i hi=>by
  obtain⟨a,ha⟩:=qah hi
  have h0:=qbA Link.cb Link.next_le xs k i
  have h1:=zan (qbz Link.cb Link.next_le xs k (i+1)) hM
  rw[qaG ha]at h1
  have hlen:(qan Link.e Link.mark Link.next k xs i).length=xs.length:=qcE (by omega)
  have hlt:=qdk (e:=Link.e) (mark:=Link.mark) (next:=Link.next) (k:=k) hi
  have hg:=qdi (e:=Link.e) (mark:=Link.mark) (next:=Link.next) (k:=k) ha
  have hset:=qdj (e:=Link.e) (mark:=Link.mark) (next:=Link.next) (k:=k) ha
  show Tr _ _ (qfc (i:Nat) (nextL Link.next k (xs.take i)) (qan Link.e Link.mark Link.next k xs i)) _ (qfc (i+1:Nat) (nextL Link.next k (xs.take (i+1))) (qan Link.e Link.mark Link.next k xs (i+1)))
  rw[←hset,qaG ha]
  generalize nextL Link.next k (xs.take i)=K at*
  generalize qan Link.e Link.mark Link.next k xs i=M at*
  have hz:=hs a (qaq ha)
  unfold Link.next at h1
  have f0:=qau Record.cb Record.next_le a.queue (K+1)
  have t:=qLB i K M _ _ _ _ _ _ _ _ _ _ _ _ _ _ _ _ _ _ _ _ _ _ _ _ _ _ _ _ _ _ _ _ _ _ _ _ _ _ ⟨by rw[hlen];simp only[zi];omega,lt0,hlt,hg,⟨by omega,by omega⟩,lt0,qak hlt,qaI (by (try simp only[zn]);omega),qiz a.queue (K+1) (by omega) (by omega) (by simp only[Link.sz]at hz;omega),qaI (by (try simp only[zn]);omega),rfl,lt0,qak (qak hlt),qaI (by (try simp only[zn]);omega),⟨by omega,by omega⟩,lt0,qak (qak (qak hlt)),qaI (by (try simp only[zn]);omega),⟨by omega,by omega⟩,lt0,qak (qak (qak (qak hlt))),qaI (by (try simp only[zn]);omega),⟨by omega,by omega⟩,lt0,qak (qak (qak (qak (qak hlt)))),qaI (by (try simp only[zn]);omega),⟨by omega,by omega⟩,up1 hi hl,trivial⟩
  try simp only[zak]at t
  exact t) (by
  have t:=qLC xs.length (nextL Link.next k (xs.take xs.length)) (qan Link.e Link.mark Link.next k xs xs.length) ⟨qdl,trivial⟩
  rw[qdh,zG]at t ⊢
  exact t)
 rw[qdg]at l
 exact qLD ⟨l,trivial⟩
theorem qMq(xs:List Link)(k:Int)(hk:0≤k)(hM:nextL Link.next k xs≤1000000000000)(hl:xs.length≤8388608)(hs:∀x∈xs,x.sz≤8388608):Rt 77 [.one (.sl 6 ((markL Link.mark Link.next k xs).map Link.e)),.one (I k)] [.one (I (nextL Link.next k xs))]:=by
 have hlm:(markL Link.mark Link.next k xs).length=xs.length:=qbW
 have l:=qat (P:=Tryz.prog) (c:=qaa Tryz.f77 0) (qaf 0) (markL Link.mark Link.next k xs).length (fun i=>qfm ((markL Link.mark Link.next k xs).map Link.e) i (nextL Link.next k (xs.take i))) (fun i hi2=>by
  have hi:i<xs.length:=by omega
  obtain⟨a,ha⟩:=qah hi
  have ha2:=qdf (mark:=Link.mark) (next:=Link.next) (k:=k) ha
  have h0:=qbA Link.cb Link.next_le xs k i
  have h1:=zan (qbz Link.cb Link.next_le xs k (i+1)) hM
  rw[qaG ha]at h1
  show Tr _ _ (qfm ((markL Link.mark Link.next k xs).map Link.e) (i:Nat) (nextL Link.next k (xs.take i))) _ (qfm ((markL Link.mark Link.next k xs).map Link.e) (i+1:Nat) (nextL Link.next k (xs.take (i+1))))
  rw[qaG ha]
  generalize nextL Link.next k (xs.take i)=K at*
  have hz:=hs a (qaq ha)
  unfold Link.next at h1
  have f0:=qau Record.cb Record.next_le a.queue (K+1)
  exact qL7 ⟨lt1 hi2,lt0,lt2 hi2,qac Link.e ha2,by simp[Link.mark],⟨by omega,by omega⟩,lt0,lt2 hi2,qac Link.e ha2,qiA a.queue (K+1) (by omega) (by omega) (by simp only[Link.sz]at hz;omega),by simp only[zf];(try unfold Link.next);omega,lt0,lt2 hi2,qac Link.e ha2,by simp[Link.mark],⟨by omega,by omega⟩,lt0,lt2 hi2,qac Link.e ha2,by simp[Link.mark],⟨by omega,by omega⟩,lt0,lt2 hi2,qac Link.e ha2,by simp[Link.mark],⟨by omega,by omega⟩,lt0,lt2 hi2,qac Link.e ha2,by simp[Link.mark],⟨by omega,by omega⟩,⟨by omega,by omega⟩,trivial⟩) (qL8 ⟨ge1,trivial⟩)
 rw[hlm,zG]at l
 exact qL9 ⟨l,trivial⟩
theorem qMr(xs:List Worker)(k:Int)(hk:0≤k)(hM:nextL Worker.next k xs≤1000000000000)(hl:xs.length≤8388608)(hs:∀x∈xs,x.sz≤8388608):
  RetG Tryz.prog 71 [.one (.gv 8 (xs.map Worker.e) (some ((markL Worker.mark Worker.next k xs).map Worker.e))),.one (.ro (I k))] [.one (I (nextL Worker.next k xs))]:=by
 have l:=qat (P:=Tryz.prog) (c:=qaa Tryz.f71 0) (stE:=qlf (nextL Worker.next k xs) ((markL Worker.mark Worker.next k xs).map Worker.e)) (qaf 0) xs.length (fun i=>qfd i (nextL Worker.next k (xs.take i)) (qan Worker.e Worker.mark Worker.next k xs i)) (fun i hi=>by
  obtain⟨a,ha⟩:=qah hi
  have h0:=qbA Worker.cb Worker.next_le xs k i
  have h1:=zan (qbz Worker.cb Worker.next_le xs k (i+1)) hM
  rw[qaG ha]at h1
  have hlen:(qan Worker.e Worker.mark Worker.next k xs i).length=xs.length:=qcE (by omega)
  have hlt:=qdk (e:=Worker.e) (mark:=Worker.mark) (next:=Worker.next) (k:=k) hi
  have hg:=qdi (e:=Worker.e) (mark:=Worker.mark) (next:=Worker.next) (k:=k) ha
  have hset:=qdj (e:=Worker.e) (mark:=Worker.mark) (next:=Worker.next) (k:=k) ha
  show Tr _ _ (qfd (i:Nat) (nextL Worker.next k (xs.take i)) (qan Worker.e Worker.mark Worker.next k xs i)) _ (qfd (i+1:Nat) (nextL Worker.next k (xs.take (i+1))) (qan Worker.e Worker.mark Worker.next k xs (i+1)))
  rw[←hset,qaG ha]
  generalize nextL Worker.next k (xs.take i)=K at*
  generalize qan Worker.e Worker.mark Worker.next k xs i=M at*
  have hz:=hs a (qaq ha)
  unfold Worker.next at h1
  have f0:=qau Record.cb Record.next_le a.queue K
  have f1:=qau Record.cb Record.next_le a.staged (nextL Record.next K a.queue)
  have f2:=qau Record.cb Record.next_le a.inputs (nextL Record.next (nextL Record.next K a.queue) a.staged)
  have f3:=qau Cell.cb Cell.next_le a.cells (nextL Record.next (nextL Record.next (nextL Record.next K a.queue) a.staged) a.inputs)
  have f4:=qau (fun _=>1) nI_le a.sums (nextL Cell.next (nextL Record.next (nextL Record.next (nextL Record.next K a.queue) a.staged) a.inputs) a.cells)
  have f5:=qau (fun _=>1) nB_le a.black (nextL nI (nextL Cell.next (nextL Record.next (nextL Record.next (nextL Record.next K a.queue) a.staged) a.inputs) a.cells) a.sums)
  have f6:=qau (fun _=>1) nB_le a.caps (nextL nB (nextL nI (nextL Cell.next (nextL Record.next (nextL Record.next (nextL Record.next K a.queue) a.staged) a.inputs) a.cells) a.sums) a.black)
  have f7:=qau Done.cb Done.next_le a.dones (nextL nB (nextL nB (nextL nI (nextL Cell.next (nextL Record.next (nextL Record.next (nextL Record.next K a.queue) a.staged) a.inputs) a.cells) a.sums) a.black) a.caps)
  have t:=qLE i K M _ _ _ _ _ _ _ _ _ _ _ _ _ _ _ _ _ _ _ _ _ _ _ _ _ _ _ _ _ _ _ _ _ _ _ _ _ _ _ _ _ _ _ _ _ _ _ _ _ _ _ _ _ _ _ _ _ _ _ _ _ _ _ _ _ _ _ _ _ _ _ _ _ _ _ _ _ _ _ _ ⟨by rw[hlen];simp only[zi];omega,lt0,hlt,hg,qiz a.queue K (by omega) (by omega) (by simp only[Worker.sz]at hz;omega),hg,rfl,lt0,qak hlt,qaI (by (try simp only[zn]);omega),qiz a.staged (nextL Record.next K a.queue) (by omega) (by omega) (by simp only[Worker.sz]at hz;omega),qaI (by (try simp only[zn]);omega),rfl,lt0,qak (qak hlt),qaI (by (try simp only[zn]);omega),qiz a.inputs (nextL Record.next (nextL Record.next K a.queue) a.staged) (by omega) (by omega) (by simp only[Worker.sz]at hz;omega),qaI (by (try simp only[zn]);omega),rfl,lt0,qak (qak (qak hlt)),qaI (by (try simp only[zn]);omega),qMf a.cells (nextL Record.next (nextL Record.next (nextL Record.next K a.queue) a.staged) a.inputs) (by omega) (by omega) (by simp only[Worker.sz]at hz;omega),qaI (by (try simp only[zn]);omega),rfl,lt0,qak (qak (qak (qak hlt))),qaI (by (try simp only[zn]);omega),qqm a.sums (nextL Cell.next (nextL Record.next (nextL Record.next (nextL Record.next K a.queue) a.staged) a.inputs) a.cells) (by omega) (by omega) (by simp only[Worker.sz]at hz;omega),qaI (by (try simp only[zn]);omega),rfl,lt0,qak (qak (qak (qak (qak hlt)))),qaI (by (try simp only[zn]);omega),qqo a.black (nextL nI (nextL Cell.next (nextL Record.next (nextL Record.next (nextL Record.next K a.queue) a.staged) a.inputs) a.cells) a.sums) (by omega) (by omega) (by simp only[Worker.sz]at hz;omega),qaI (by (try simp only[zn]);omega),rfl,lt0,qak (qak (qak (qak (qak (qak hlt))))),qaI (by (try simp only[zn]);omega),qqo a.caps (nextL nB (nextL nI (nextL Cell.next (nextL Record.next (nextL Record.next (nextL Record.next K a.queue) a.staged) a.inputs) a.cells) a.sums) a.black) (by omega) (by omega) (by simp only[Worker.sz]at hz;omega),qaI (by (try simp only[zn]);omega),rfl,lt0,qak (qak (qak (qak (qak (qak (qak hlt)))))),qaI (by (try simp only[zn]);omega),qMh a.dones (nextL nB (nextL nB (nextL nI (nextL Cell.next (nextL Record.next (nextL Record.next (nextL Record.next K a.queue) a.staged) a.inputs) a.cells) a.sums) a.black) a.caps) (by omega) (by omega) (by simp only[Worker.sz]at hz;omega),qaI (by (try simp only[zn]);omega),rfl,up1 hi hl,trivial⟩
  try simp only[zak]at t
  exact t) (by
  have t:=qLF xs.length (nextL Worker.next k (xs.take xs.length)) (qan Worker.e Worker.mark Worker.next k xs xs.length) ⟨qdl,trivial⟩
  rw[qdh,zG]at t ⊢
  exact t)
 rw[qdg]at l
 exact qLG ⟨l,trivial⟩
theorem qMs(xs:List Worker)(k:Int)(hk:0≤k)(hM:nextL Worker.next k xs≤1000000000000)(hl:xs.length≤8388608)(hs:∀x∈xs,x.sz≤8388608):Rt 76 [.one (.sl 8 ((markL Worker.mark Worker.next k xs).map Worker.e)),.one (I k)] [.one (I (nextL Worker.next k xs))]:=by
 have hlm:(markL Worker.mark Worker.next k xs).length=xs.length:=qbW
 have l:=qat (P:=Tryz.prog) (c:=qaa Tryz.f76 0) (qaf 0) (markL Worker.mark Worker.next k xs).length (fun i=>qfn ((markL Worker.mark Worker.next k xs).map Worker.e) i (nextL Worker.next k (xs.take i))) (fun i hi2=>by
  have hi:i<xs.length:=by omega
  obtain⟨a,ha⟩:=qah hi
  have ha2:=qdf (mark:=Worker.mark) (next:=Worker.next) (k:=k) ha
  have h0:=qbA Worker.cb Worker.next_le xs k i
  have h1:=zan (qbz Worker.cb Worker.next_le xs k (i+1)) hM
  rw[qaG ha]at h1
  show Tr _ _ (qfn ((markL Worker.mark Worker.next k xs).map Worker.e) (i:Nat) (nextL Worker.next k (xs.take i))) _ (qfn ((markL Worker.mark Worker.next k xs).map Worker.e) (i+1:Nat) (nextL Worker.next k (xs.take (i+1))))
  rw[qaG ha]
  generalize nextL Worker.next k (xs.take i)=K at*
  have hz:=hs a (qaq ha)
  unfold Worker.next at h1
  have f0:=qau Record.cb Record.next_le a.queue K
  have f1:=qau Record.cb Record.next_le a.staged (nextL Record.next K a.queue)
  have f2:=qau Record.cb Record.next_le a.inputs (nextL Record.next (nextL Record.next K a.queue) a.staged)
  have f3:=qau Cell.cb Cell.next_le a.cells (nextL Record.next (nextL Record.next (nextL Record.next K a.queue) a.staged) a.inputs)
  have f4:=qau (fun _=>1) nI_le a.sums (nextL Cell.next (nextL Record.next (nextL Record.next (nextL Record.next K a.queue) a.staged) a.inputs) a.cells)
  have f5:=qau (fun _=>1) nB_le a.black (nextL nI (nextL Cell.next (nextL Record.next (nextL Record.next (nextL Record.next K a.queue) a.staged) a.inputs) a.cells) a.sums)
  have f6:=qau (fun _=>1) nB_le a.caps (nextL nB (nextL nI (nextL Cell.next (nextL Record.next (nextL Record.next (nextL Record.next K a.queue) a.staged) a.inputs) a.cells) a.sums) a.black)
  have f7:=qau Done.cb Done.next_le a.dones (nextL nB (nextL nB (nextL nI (nextL Cell.next (nextL Record.next (nextL Record.next (nextL Record.next K a.queue) a.staged) a.inputs) a.cells) a.sums) a.black) a.caps)
  exact qMa ⟨lt1 hi2,lt0,lt2 hi2,qac Worker.e ha2,qiA a.queue K (by omega) (by omega) (by simp only[Worker.sz]at hz;omega),by simp only[zf];(try unfold Worker.next);omega,lt0,lt2 hi2,qac Worker.e ha2,qiA a.staged (nextL Record.next K a.queue) (by omega) (by omega) (by simp only[Worker.sz]at hz;omega),by simp only[zf];(try unfold Worker.next);omega,lt0,lt2 hi2,qac Worker.e ha2,qiA a.inputs (nextL Record.next (nextL Record.next K a.queue) a.staged) (by omega) (by omega) (by simp only[Worker.sz]at hz;omega),by simp only[zf];(try unfold Worker.next);omega,lt0,lt2 hi2,qac Worker.e ha2,qMg a.cells (nextL Record.next (nextL Record.next (nextL Record.next K a.queue) a.staged) a.inputs) (by omega) (by omega) (by simp only[Worker.sz]at hz;omega),by simp only[zf];(try unfold Worker.next);omega,lt0,lt2 hi2,qac Worker.e ha2,qqn a.sums (nextL Cell.next (nextL Record.next (nextL Record.next (nextL Record.next K a.queue) a.staged) a.inputs) a.cells) (by omega) (by omega) (by simp only[Worker.sz]at hz;omega),by simp only[zf];(try unfold Worker.next);omega,lt0,lt2 hi2,qac Worker.e ha2,qqp a.black (nextL nI (nextL Cell.next (nextL Record.next (nextL Record.next (nextL Record.next K a.queue) a.staged) a.inputs) a.cells) a.sums) (by omega) (by omega) (by simp only[Worker.sz]at hz;omega),by simp only[zf];(try unfold Worker.next);omega,lt0,lt2 hi2,qac Worker.e ha2,qqp a.caps (nextL nB (nextL nI (nextL Cell.next (nextL Record.next (nextL Record.next (nextL Record.next K a.queue) a.staged) a.inputs) a.cells) a.sums) a.black) (by omega) (by omega) (by simp only[Worker.sz]at hz;omega),by simp only[zf];(try unfold Worker.next);omega,lt0,lt2 hi2,qac Worker.e ha2,qMi a.dones (nextL nB (nextL nB (nextL nI (nextL Cell.next (nextL Record.next (nextL Record.next (nextL Record.next K a.queue) a.staged) a.inputs) a.cells) a.sums) a.black) a.caps) (by omega) (by omega) (by simp only[Worker.sz]at hz;omega),by simp only[zf];(try unfold Worker.next);omega,⟨by omega,by omega⟩,trivial⟩) (qMb ⟨ge1,trivial⟩)
 rw[hlm,zG]at l
 exact qMc ⟨l,trivial⟩
def Cluster.topNext(k:Int)(c:Cluster):Int:=nextL News.next (nextL Token.next (nextL Link.next (nextL Worker.next (nextL Node.next k c.graph.nodes) c.workers) c.links) c.tokens) c.news
theorem Cluster.topNext_le(c:Cluster)(hc:c.sz≤8388608):1≤c.topNext 1∧c.topNext 1≤1000000000000:=by
 have f0:=qau Node.cb Node.next_le c.graph.nodes 1
 have g0:=qiy Node.cb Node.sz Node.cb_le c.graph.nodes
 have f1:=qau Worker.cb Worker.next_le c.workers (nextL Node.next 1 c.graph.nodes)
 have g1:=qiy Worker.cb Worker.sz Worker.cb_le c.workers
 have f2:=qau Link.cb Link.next_le c.links (nextL Worker.next (nextL Node.next 1 c.graph.nodes) c.workers)
 have g2:=qiy Link.cb Link.sz Link.cb_le c.links
 have f3:=qau Token.cb Token.next_le c.tokens (nextL Link.next (nextL Worker.next (nextL Node.next 1 c.graph.nodes) c.workers) c.links)
 rw[Token.cb_sum]at f3
 have f4:=qau News.cb News.next_le c.news (nextL Token.next (nextL Link.next (nextL Worker.next (nextL Node.next 1 c.graph.nodes) c.workers) c.links) c.tokens)
 rw[News.cb_sum]at f4
 simp only[Cluster.sz,Graph.sz,szS]at hc
 unfold Cluster.topNext
 omega
theorem qqq(c:Cluster)(k:Int)(hk:0≤k)(hM:c.topNext k≤1000000000000)(hc:c.sz≤8388608):
  RetG Tryz.prog 16 [.agg [.gv 4 (c.graph.nodes.map Node.e) (some ((markL Node.mark Node.next k c.graph.nodes).map Node.e)),.ro (I c.graph.workers),.ro (I c.graph.cap),.gv 8 (c.workers.map Worker.e) (some ((markL Worker.mark Worker.next (nextL Node.next k c.graph.nodes) c.workers).map Worker.e)),.gv 6 (c.links.map Link.e) (some ((markL Link.mark Link.next (nextL Worker.next (nextL Node.next k c.graph.nodes) c.workers) c.links).map Link.e)),.gv 5 (c.tokens.map Token.e) (some ((markL Token.mark Token.next (nextL Link.next (nextL Worker.next (nextL Node.next k c.graph.nodes) c.workers) c.links) c.tokens).map Token.e)),.gv 3 (c.news.map News.e) (some ((markL News.mark News.next (nextL Token.next (nextL Link.next (nextL Worker.next (nextL Node.next k c.graph.nodes) c.workers) c.links) c.tokens) c.news).map News.e))],.one (.ro (I k))] [.one (I (c.topNext k))]:=by
 have f0:=qau Node.cb Node.next_le c.graph.nodes k
 have f1:=qau Worker.cb Worker.next_le c.workers (nextL Node.next k c.graph.nodes)
 have f2:=qau Link.cb Link.next_le c.links (nextL Worker.next (nextL Node.next k c.graph.nodes) c.workers)
 have f3:=qau Token.cb Token.next_le c.tokens (nextL Link.next (nextL Worker.next (nextL Node.next k c.graph.nodes) c.workers) c.links)
 have f4:=qau News.cb News.next_le c.news (nextL Token.next (nextL Link.next (nextL Worker.next (nextL Node.next k c.graph.nodes) c.workers) c.links) c.tokens)
 unfold Cluster.topNext at hM ⊢
 have hz:=hc
 simp only[Cluster.sz,Graph.sz,szS]at hz
 exact qLI ⟨qLH ⟨qMn c.graph.nodes k (by omega) (by omega) (by omega) (fun x hx=>by have:=qc1 (sz:=Node.sz) hx;omega),trivial⟩,qMr c.workers (nextL Node.next k c.graph.nodes) (by omega) (by omega) (by omega) (fun x hx=>by have:=qc1 (sz:=Worker.sz) hx;omega),qMp c.links (nextL Worker.next (nextL Node.next k c.graph.nodes) c.workers) (by omega) (by omega) (by omega) (fun x hx=>by have:=qc1 (sz:=Link.sz) hx;omega),qMj c.tokens (nextL Link.next (nextL Worker.next (nextL Node.next k c.graph.nodes) c.workers) c.links) (by omega) (by omega) (by omega),qMl c.news (nextL Token.next (nextL Link.next (nextL Worker.next (nextL Node.next k c.graph.nodes) c.workers) c.links) c.tokens) (by omega) (by omega) (by omega),trivial⟩
def Cluster.marked(k:Int)(c:Cluster):List D:=[.sl 4 ((markL Node.mark Node.next k c.graph.nodes).map Node.e),I c.graph.workers,I c.graph.cap,.sl 8 ((markL Worker.mark Worker.next (nextL Node.next k c.graph.nodes) c.workers).map Worker.e),.sl 6 ((markL Link.mark Link.next (nextL Worker.next (nextL Node.next k c.graph.nodes) c.workers) c.links).map Link.e),.sl 5 ((markL Token.mark Token.next (nextL Link.next (nextL Worker.next (nextL Node.next k c.graph.nodes) c.workers) c.links) c.tokens).map Token.e),.sl 3 ((markL News.mark News.next (nextL Token.next (nextL Link.next (nextL Worker.next (nextL Node.next k c.graph.nodes) c.workers) c.links) c.tokens) c.news).map News.e)]
theorem qMt(c:Cluster)(k:Int)(hk:0≤k)(hM:c.topNext k≤1000000000000)(hc:c.sz≤8388608):
  Rt 17 [.agg (c.marked k),.one (I k)] [.one (I (c.topNext k))]:=by
 have f0:=qau Node.cb Node.next_le c.graph.nodes k
 have f1:=qau Worker.cb Worker.next_le c.workers (nextL Node.next k c.graph.nodes)
 have f2:=qau Link.cb Link.next_le c.links (nextL Worker.next (nextL Node.next k c.graph.nodes) c.workers)
 have f3:=qau Token.cb Token.next_le c.tokens (nextL Link.next (nextL Worker.next (nextL Node.next k c.graph.nodes) c.workers) c.links)
 have f4:=qau News.cb News.next_le c.news (nextL Token.next (nextL Link.next (nextL Worker.next (nextL Node.next k c.graph.nodes) c.workers) c.links) c.tokens)
 unfold Cluster.topNext at hM ⊢
 have hz:=hc
 simp only[Cluster.sz,Graph.sz,szS]at hz
 exact qMe ⟨qMd ⟨qMo c.graph.nodes k (by omega) (by omega) (by omega) (fun x hx=>by have:=qc1 (sz:=Node.sz) hx;omega),by simp only[zf];omega,trivial⟩,by simp only[zf];omega,qMs c.workers (nextL Node.next k c.graph.nodes) (by omega) (by omega) (by omega) (fun x hx=>by have:=qc1 (sz:=Worker.sz) hx;omega),by simp only[zf];omega,qMq c.links (nextL Worker.next (nextL Node.next k c.graph.nodes) c.workers) (by omega) (by omega) (by omega) (fun x hx=>by have:=qc1 (sz:=Link.sz) hx;omega),by simp only[zf];omega,qMk c.tokens (nextL Link.next (nextL Worker.next (nextL Node.next k c.graph.nodes) c.workers) c.links) (by omega) (by omega) (by omega),by simp only[zf];omega,qMm c.news (nextL Token.next (nextL Link.next (nextL Worker.next (nextL Node.next k c.graph.nodes) c.workers) c.links) c.tokens) (by omega) (by omega) (by omega),by simp only[zf];omega,trivial⟩
end Go.Proofs.YtdanpadojemjeaaGreat
