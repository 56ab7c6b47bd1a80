/- The functions mark..: what they write, and what stands behind (printed by gentypes.py) -/
import Derived.Test.YtdanpadojemjeaaGreatB0
import Derived.Test.YtdanpadojemjeaaGreatGM
import Derived.Test.YtdanpadojemjeaaGreatR22
set_option linter.unusedVariables false
set_option linter.unusedSimpArgs false
namespace Go.Proofs.YtdanpadojemjeaaGreat
open Go.Sx Go.RowKit
def nextL{α:Type}(next:Int→α→Int):Int→List α→Int
 | k,[]=>k
 | k,x::r=>nextL next (next k x) r
def markL{α:Type}(mark:Int→α→α)(next:Int→α→Int):Int→List α→List α
 | _,[]=>[]
 | k,x::r=>mark k x::markL mark next (next k x) r
theorem ql4{α:Type}{next:Int→α→Int}:∀{xs ys:List α} {k:Int},nextL next k (xs++ys)=nextL next (nextL next k xs) ys
 | [],_,_=>rfl
 | x::xs,ys,k=>ql4 (xs:=xs)
theorem ql5{α:Type}{mark:Int→α→α}{next:Int→α→Int}:∀{xs ys:List α} {k:Int},markL mark next k (xs++ys)=markL mark next k xs++markL mark next (nextL next k xs) ys
 | [],_,_=>rfl
 | x::xs,ys,k=>by
  simp only[List.cons_append,markL,nextL]
  rw[ql5 (xs:=xs)]
theorem qfp{α:Type}{mark:Int→α→α}{next:Int→α→Int}:∀{xs:List α} {k:Int},(markL mark next k xs).length=xs.length
 | [],_=>rfl
 | x::xs,k=>by simp[markL,qfp]
theorem qMd{α:Type}{mark:Int→α→α}{next:Int→α→Int}{xs:List α}{k:Int}{i:Nat}{a:α}(h:xs[i]?=some a):(markL mark next k xs)[i]?=some (mark (nextL next k (xs.take i)) a):=by
 have hi:=lt_of h
 have e:xs=xs.take i++a::xs.drop (i+1):=by
  have ha:xs[i]=a:=by rw[zu hi]at h;exact zx h
  rw[←ha,←List.drop_eq_getElem_cons hi,zcb]
 conv=>lhs;rw[e]
 rw[ql5,zT,qfp,zay,zo (by omega),show i-min i xs.length=0 by omega]
 rfl
theorem qdn{α:Type}{next:Int→α→Int}{xs:List α}{i:Nat}{a:α}{k:Int}(h:xs[i]?=some a):nextL next k (xs.take (i+1))=next (nextL next k (xs.take i)) a:=by
 rw[zbe,h,ql4];rfl
def qaI{α:Type}(e:α→List D)(mark:Int→α→α)(next:Int→α→Int)(k:Int)(xs:List α)(i:Nat):List (List D):=(markL mark next k (xs.take i)).map e++(xs.drop i).map e
section
variable {α : Type} {e : α → List D} {mark : Int → α → α} {next : Int → α → Int} {k : Int} {xs : List α} {i : Nat} {a : α}
theorem qgh(h:i≤xs.length):(qaI e mark next k xs i).length=xs.length:=by simp[qaI,qfp];omega
theorem qiU:qaI e mark next k xs 0=xs.map e:=by simp[qaI,markL]
theorem qiV:qaI e mark next k xs xs.length=(markL mark next k xs).map e:=by simp[qaI]
theorem qiW(h:xs[i]?=some a):(qaI e mark next k xs i)[((i:Nat):Int).toNat]?=some (e a):=by
 have hi:=lt_of h
 simp only[qaI,zae]
 rw[zT,zb,qfp,zay,zo (by omega),zr,zA]
 rw[show i+(i-min i xs.length)=i by omega,h];rfl
theorem qiX(h:xs[i]?=some a):(qaI e mark next k xs i).set ((i:Nat):Int).toNat (e (mark (nextL next k (xs.take i)) a))=qaI e mark next k xs (i+1):=by
 have hi:=lt_of h
 have ha:xs[i]=a:=by rw[zu hi]at h;exact zx h
 simp only[qaI,zae]
 rw[List.set_append,zo (by simp[qfp];omega),zb,qfp,zay,show i-min i xs.length=0 by omega]
 rw[List.drop_eq_getElem_cons hi,ha,zav,List.set_cons_zero,zbe,h,ql5,zU]
 simp[markL]
theorem qiY(h:i<xs.length):(i:Int)<(↑(qaI e mark next k xs i).length:Int):=by rw[qgh (by omega)];omega
theorem qiZ:decide ((↑xs.length:Int)<(↑(qaI e mark next k xs xs.length).length:Int))=false:=by rw[qgh (zO _)];simp
theorem qbO(c:α→Nat)(h:∀k x,k≤next k x∧next k x≤k+c x):∀(xs:List α) (k:Int),k≤nextL next k xs∧nextL next k xs≤k+(xs.map c).sum
 | [],k=>by simp[nextL]
 | x::xs,k=>by
  have h1:=h k x
  have h2:=qbO c h xs (next k x)
  simp only[nextL,zav,zcw]
  omega
theorem qho(c:α→Nat)(h:∀k x,k≤next k x∧next k x≤k+c x)(xs:List α)(k:Int)(i:Nat):nextL next k (xs.take i)≤nextL next k xs:=by
 have:nextL next k xs=nextL next (nextL next k (xs.take i)) (xs.drop i):=by rw[←ql4,zcb]
 rw[this]
 exact (qbO c h _ _).1
theorem qhp(c:α→Nat)(h:∀k x,k≤next k x∧next k x≤k+c x)(xs:List α)(k:Int)(i:Nat):k≤nextL next k (xs.take i):=(qbO c h _ _).1
end
theorem qc4{M:List (List D)}{i:Nat}{r:List D}(h:i<M.length):(M.set ((i:Nat):Int).toNat r)[((i:Nat):Int).toNat]?=some r:=by
 rw[zae,zad,zp rfl,zp h]
theorem qbo{M:List (List D)}{i j:Nat}{r:List D}(h:(i:Int)<(↑M.length:Int)):(i:Int)<(↑(M.set j r).length:Int):=by rw[zn];exact h
def nI(k:Int)(_:Int):Int:=k+1
def mI(k:Int)(_:Int):Int:=k
def nB(k:Int)(_:Bool):Int:=k+1
def mB(k:Int)(_:Bool):Bool:=k.tmod 3==0
theorem nI_le(k x:Int):k≤nI k x∧nI k x≤k+(1:Nat):=by unfold nI;omega
theorem nB_le(k:Int)(x:Bool):k≤nB k x∧nB k x≤k+(1:Nat):=by unfold nB;omega
theorem qdo{α:Type}(xs:List α)(w:Nat):(xs.map fun _=>w).sum=xs.length*w:=by
 induction xs with
 | nil=>simp
 | cons x xs ih=>simp only[zav,zcw,ih,zq,zR];omega
def Stamp.mark(k:Int)(_:Stamp):Stamp:=⟨k,k+1⟩
def Stamp.next(k:Int)(_:Stamp):Int:=k+1+1
def Stamp.cb(_:Stamp):Nat:=2
theorem Stamp.next_le(k:Int)(x:Stamp):k≤Stamp.next k x∧Stamp.next k x≤k+(Stamp.cb x:Nat):=by unfold Stamp.next Stamp.cb;omega
def Record.mark(k:Int)(_:Record):Record:=⟨k,⟨k+1,k+1+1⟩,k+1+1+1,k+1+1+1+1⟩
def Record.next(k:Int)(_:Record):Int:=k+1+1+1+1+1
def Record.cb(_:Record):Nat:=5
theorem Record.next_le(k:Int)(x:Record):k≤Record.next k x∧Record.next k x≤k+(Record.cb x:Nat):=by unfold Record.next Record.cb;omega
def Cell.mark(k:Int)(_:Cell):Cell:=⟨k,k+1,k+1+1,k+1+1+1⟩
def Cell.next(k:Int)(_:Cell):Int:=k+1+1+1+1
def Cell.cb(_:Cell):Nat:=4
theorem Cell.next_le(k:Int)(x:Cell):k≤Cell.next k x∧Cell.next k x≤k+(Cell.cb x:Nat):=by unfold Cell.next Cell.cb;omega
def Done.mark(k:Int)(_:Done):Done:=⟨k,((k+1).tmod 3==0)⟩
def Done.next(k:Int)(_:Done):Int:=k+1+1
def Done.cb(_:Done):Nat:=2
theorem Done.next_le(k:Int)(x:Done):k≤Done.next k x∧Done.next k x≤k+(Done.cb x:Nat):=by unfold Done.next Done.cb;omega
def Token.mark(k:Int)(_:Token):Token:=⟨(k.tmod 3==0),k+1,k+1+1,((k+1+1+1).tmod 3==0),((k+1+1+1+1).tmod 3==0)⟩
def Token.next(k:Int)(_:Token):Int:=k+1+1+1+1+1
def Token.cb(_:Token):Nat:=5
theorem Token.next_le(k:Int)(x:Token):k≤Token.next k x∧Token.next k x≤k+(Token.cb x:Nat):=by unfold Token.next Token.cb;omega
def News.mark(k:Int)(_:News):News:=⟨k,k+1,((k+1+1).tmod 3==0)⟩
def News.next(k:Int)(_:News):Int:=k+1+1+1
def News.cb(_:News):Nat:=3
theorem News.next_le(k:Int)(x:News):k≤News.next k x∧News.next k x≤k+(News.cb x:Nat):=by unfold News.next News.cb;omega
def Pick.mark(k:Int)(_:Pick):Pick:=⟨k,k+1,k+1+1⟩
def Pick.next(k:Int)(_:Pick):Int:=k+1+1+1
def Pick.cb(_:Pick):Nat:=3
theorem Pick.next_le(k:Int)(x:Pick):k≤Pick.next k x∧Pick.next k x≤k+(Pick.cb x:Nat):=by unfold Pick.next Pick.cb;omega
def Node.mark(k:Int)(x:Node):Node:=⟨k,k+1,k+1+1,markL mI nI (k+1+1+1) x.outs⟩
def Node.next(k:Int)(x:Node):Int:=nextL nI (k+1+1+1) x.outs
def Node.cb(x:Node):Nat:=3+(x.outs.map (fun _=>1)).sum
theorem Node.next_le(k:Int)(x:Node):k≤Node.next k x∧Node.next k x≤k+(Node.cb x:Nat):=by
 unfold Node.next Node.cb
 have f0:=qbO (fun _=>1) nI_le x.outs (k+1+1+1)
 omega
def Link.mark(k:Int)(x:Link):Link:=⟨k,markL Record.mark Record.next (k+1) x.queue,nextL Record.next (k+1) x.queue,nextL Record.next (k+1) x.queue+1,nextL Record.next (k+1) x.queue+1+1,nextL Record.next (k+1) x.queue+1+1+1⟩
def Link.next(k:Int)(x:Link):Int:=nextL Record.next (k+1) x.queue+1+1+1+1
def Link.cb(x:Link):Nat:=5+(x.queue.map Record.cb).sum
theorem Link.next_le(k:Int)(x:Link):k≤Link.next k x∧Link.next k x≤k+(Link.cb x:Nat):=by
 unfold Link.next Link.cb
 have f0:=qbO Record.cb Record.next_le x.queue (k+1)
 omega
def Worker.mark(k:Int)(x:Worker):Worker:=⟨markL Record.mark Record.next k x.queue,markL Record.mark Record.next (nextL Record.next k x.queue) x.staged,markL Record.mark Record.next (nextL Record.next (nextL Record.next k x.queue) x.staged) x.inputs,markL Cell.mark Cell.next (nextL Record.next (nextL Record.next (nextL Record.next k x.queue) x.staged) x.inputs) x.cells,markL mI nI (nextL Cell.next (nextL Record.next (nextL Record.next (nextL Record.next k x.queue) x.staged) x.inputs) x.cells) x.sums,markL mB nB (nextL nI (nextL Cell.next (nextL Record.next (nextL Record.next (nextL Record.next k x.queue) x.staged) x.inputs) x.cells) x.sums) x.black,markL mB nB (nextL nB (nextL nI (nextL Cell.next (nextL Record.next (nextL Record.next (nextL Record.next k x.queue) x.staged) x.inputs) x.cells) x.sums) x.black) x.caps,markL Done.mark Done.next (nextL nB (nextL nB (nextL nI (nextL Cell.next (nextL Record.next (nextL Record.next (nextL Record.next k x.queue) x.staged) x.inputs) x.cells) x.sums) x.black) x.caps) x.dones⟩
def Worker.next(k:Int)(x:Worker):Int:=nextL Done.next (nextL nB (nextL nB (nextL nI (nextL Cell.next (nextL Record.next (nextL Record.next (nextL Record.next k x.queue) x.staged) x.inputs) x.cells) x.sums) x.black) x.caps) x.dones
def Worker.cb(x:Worker):Nat:=0+(x.queue.map Record.cb).sum+(x.staged.map Record.cb).sum+(x.inputs.map Record.cb).sum+(x.cells.map Cell.cb).sum+(x.sums.map (fun _=>1)).sum+(x.black.map (fun _=>1)).sum+(x.caps.map (fun _=>1)).sum+(x.dones.map Done.cb).sum
theorem Worker.next_le(k:Int)(x:Worker):k≤Worker.next k x∧Worker.next k x≤k+(Worker.cb x:Nat):=by
 unfold Worker.next Worker.cb
 have f0:=qbO Record.cb Record.next_le x.queue k
 have f1:=qbO Record.cb Record.next_le x.staged (nextL Record.next k x.queue)
 have f2:=qbO Record.cb Record.next_le x.inputs (nextL Record.next (nextL Record.next k x.queue) x.staged)
 have f3:=qbO Cell.cb Cell.next_le x.cells (nextL Record.next (nextL Record.next (nextL Record.next k x.queue) x.staged) x.inputs)
 have f4:=qbO (fun _=>1) nI_le x.sums (nextL Cell.next (nextL Record.next (nextL Record.next (nextL Record.next k x.queue) x.staged) x.inputs) x.cells)
 have f5:=qbO (fun _=>1) nB_le x.black (nextL nI (nextL Cell.next (nextL Record.next (nextL Record.next (nextL Record.next k x.queue) x.staged) x.inputs) x.cells) x.sums)
 have f6:=qbO (fun _=>1) nB_le x.caps (nextL nB (nextL nI (nextL Cell.next (nextL Record.next (nextL Record.next (nextL Record.next k x.queue) x.staged) x.inputs) x.cells) x.sums) x.black)
 have f7:=qbO Done.cb Done.next_le x.dones (nextL nB (nextL nB (nextL nI (nextL Cell.next (nextL Record.next (nextL Record.next (nextL Record.next k x.queue) x.staged) x.inputs) x.cells) x.sums) x.black) x.caps)
 omega
end Go.Proofs.YtdanpadojemjeaaGreat
namespace Go.Proofs.YtdanpadojemjeaaGreat
open Go.Sx Go.RowKit
theorem qrl{α:Type}(c s:α→Nat)(h:∀x,c x≤6+5*s x):∀xs:List α,(xs.map c).sum≤6*xs.length+5*(xs.map s).sum
 | []=>by simp
 | x::xs=>by
  have h1:=h x
  have h2:=qrl c s h xs
  simp only[zav,zcw,zq]
  omega
theorem Stamp.cb_sum(xs:List Stamp):(xs.map Stamp.cb).sum=xs.length*2:=qdo xs 2
theorem Record.cb_sum(xs:List Record):(xs.map Record.cb).sum=xs.length*5:=qdo xs 5
theorem Cell.cb_sum(xs:List Cell):(xs.map Cell.cb).sum=xs.length*4:=qdo xs 4
theorem Done.cb_sum(xs:List Done):(xs.map Done.cb).sum=xs.length*2:=qdo xs 2
theorem Token.cb_sum(xs:List Token):(xs.map Token.cb).sum=xs.length*5:=qdo xs 5
theorem News.cb_sum(xs:List News):(xs.map News.cb).sum=xs.length*3:=qdo xs 3
theorem Pick.cb_sum(xs:List Pick):(xs.map Pick.cb).sum=xs.length*3:=qdo xs 3
theorem Node.cb_le(x:Node):x.cb≤6+5*x.sz:=by
 simp only[Node.cb,Node.sz,qdo]
 omega
theorem Link.cb_le(x:Link):x.cb≤6+5*x.sz:=by
 simp only[Link.cb,Link.sz,Record.cb_sum]
 omega
theorem Worker.cb_le(x:Worker):x.cb≤6+5*x.sz:=by
 simp only[Worker.cb,Worker.sz,qdo,Cell.cb_sum,Done.cb_sum,qdo,Record.cb_sum]
 omega
theorem qMe(xs:List Int)(k:Int)(hk:0≤k)(hM:nextL nI k xs≤1000000000000)(hl:xs.length≤8388608):
  RetG Tryz.prog 131 [.one (.gv 1 (xs.map eI) (some ((markL mI nI k xs).map eI))),.one (.ro (I k))] [.one (I (nextL nI k xs))]:=by
 have l:=qan (P:=Tryz.prog) (c:=qaa Tryz.f131 0) (stE:=ql1 (nextL nI k xs) ((markL mI nI k xs).map eI)) (qaf 0) xs.length (fun i=>qfl i (nextL nI k (xs.take i)) (qaI eI mI nI k xs i)) (fun i hi=>by
  obtain⟨a,ha⟩:=qai hi
  have h0:=qhp (fun _=>1) nI_le xs k i
  have h1:=zaq (qho (fun _=>1) nI_le xs k (i+1)) hM
  rw[qdn ha]at h1
  have hlen:(qaI eI mI nI k xs i).length=xs.length:=qgh (by omega)
  have hlt:=qiY (e:=eI) (mark:=mI) (next:=nI) (k:=k) hi
  have hg:=qiW (e:=eI) (mark:=mI) (next:=nI) (k:=k) ha
  have hset:=qiX (e:=eI) (mark:=mI) (next:=nI) (k:=k) ha
  show Tr _ _ (qfl (i:Nat) (nextL nI k (xs.take i)) (qaI eI mI nI k xs i)) _ (qfl (i+1:Nat) (nextL nI k (xs.take (i+1))) (qaI eI mI nI k xs (i+1)))
  rw[←hset,qdn ha]
  generalize nextL nI k (xs.take i)=K at*
  generalize qaI eI mI nI k xs i=M at*
  unfold nI at h1
  have t:=qL0 i K M _ ⟨by rw[hlen];simp only[zi];omega,lt0,hlt,hg,⟨by omega,by omega⟩,up1 hi hl,trivial⟩
  try simp only[zam]at t
  exact t) (by
  have t:=qL1 xs.length (nextL nI k (xs.take xs.length)) (qaI eI mI nI k xs xs.length) ⟨qiZ,trivial⟩
  rw[qiV,zC]at t ⊢
  exact t)
 rw[qiU]at l
 exact qL2 ⟨l,trivial⟩
theorem qMf(xs:List Record)(k:Int)(hk:0≤k)(hM:nextL Record.next k xs≤1000000000000)(hl:xs.length≤8388608):
  RetG Tryz.prog 48 [.one (.gv 5 (xs.map Record.e) (some ((markL Record.mark Record.next k xs).map Record.e))),.one (.ro (I k))] [.one (I (nextL Record.next k xs))]:=by
 have l:=qan (P:=Tryz.prog) (c:=qaa Tryz.f48 0) (stE:=ql0 (nextL Record.next k xs) ((markL Record.mark Record.next k xs).map Record.e)) (qaf 0) xs.length (fun i=>qfk i (nextL Record.next k (xs.take i)) (qaI Record.e Record.mark Record.next k xs i)) (fun i hi=>by
  obtain⟨a,ha⟩:=qai hi
  have h0:=qhp Record.cb Record.next_le xs k i
  have h1:=zaq (qho Record.cb Record.next_le xs k (i+1)) hM
  rw[qdn ha]at h1
  have hlen:(qaI Record.e Record.mark Record.next k xs i).length=xs.length:=qgh (by omega)
  have hlt:=qiY (e:=Record.e) (mark:=Record.mark) (next:=Record.next) (k:=k) hi
  have hg:=qiW (e:=Record.e) (mark:=Record.mark) (next:=Record.next) (k:=k) ha
  have hset:=qiX (e:=Record.e) (mark:=Record.mark) (next:=Record.next) (k:=k) ha
  show Tr _ _ (qfk (i:Nat) (nextL Record.next k (xs.take i)) (qaI Record.e Record.mark Record.next k xs i)) _ (qfk (i+1:Nat) (nextL Record.next k (xs.take (i+1))) (qaI Record.e Record.mark Record.next k xs (i+1)))
  rw[←hset,qdn ha]
  generalize nextL Record.next k (xs.take i)=K at*
  generalize qaI Record.e Record.mark Record.next k xs i=M at*
  unfold Record.next at h1
  have t:=qLX i K M _ _ _ _ _ _ _ _ _ _ _ _ _ _ _ _ _ _ _ _ _ _ _ _ _ ⟨by rw[hlen];simp only[zi];omega,lt0,hlt,hg,⟨by omega,by omega⟩,lt0,qbo hlt,qc4 (by (try simp only[zn]);omega),⟨by omega,by omega⟩,lt0,qbo (qbo hlt),qc4 (by (try simp only[zn]);omega),⟨by omega,by omega⟩,lt0,qbo (qbo (qbo hlt)),qc4 (by (try simp only[zn]);omega),⟨by omega,by omega⟩,lt0,qbo (qbo (qbo (qbo hlt))),qc4 (by (try simp only[zn]);omega),⟨by omega,by omega⟩,up1 hi hl,trivial⟩
  try simp only[zam]at t
  exact t) (by
  have t:=qLY xs.length (nextL Record.next k (xs.take xs.length)) (qaI Record.e Record.mark Record.next k xs xs.length) ⟨qiZ,trivial⟩
  rw[qiV,zC]at t ⊢
  exact t)
 rw[qiU]at l
 exact qLZ ⟨l,trivial⟩
theorem qMg(xs:List Cell)(k:Int)(hk:0≤k)(hM:nextL Cell.next k xs≤1000000000000)(hl:xs.length≤8388608):
  RetG Tryz.prog 49 [.one (.gv 4 (xs.map Cell.e) (some ((markL Cell.mark Cell.next k xs).map Cell.e))),.one (.ro (I k))] [.one (I (nextL Cell.next k xs))]:=by
 have l:=qan (P:=Tryz.prog) (c:=qaa Tryz.f49 0) (stE:=ql2 (nextL Cell.next k xs) ((markL Cell.mark Cell.next k xs).map Cell.e)) (qaf 0) xs.length (fun i=>qfm i (nextL Cell.next k (xs.take i)) (qaI Cell.e Cell.mark Cell.next k xs i)) (fun i hi=>by
  obtain⟨a,ha⟩:=qai hi
  have h0:=qhp Cell.cb Cell.next_le xs k i
  have h1:=zaq (qho Cell.cb Cell.next_le xs k (i+1)) hM
  rw[qdn ha]at h1
  have hlen:(qaI Cell.e Cell.mark Cell.next k xs i).length=xs.length:=qgh (by omega)
  have hlt:=qiY (e:=Cell.e) (mark:=Cell.mark) (next:=Cell.next) (k:=k) hi
  have hg:=qiW (e:=Cell.e) (mark:=Cell.mark) (next:=Cell.next) (k:=k) ha
  have hset:=qiX (e:=Cell.e) (mark:=Cell.mark) (next:=Cell.next) (k:=k) ha
  show Tr _ _ (qfm (i:Nat) (nextL Cell.next k (xs.take i)) (qaI Cell.e Cell.mark Cell.next k xs i)) _ (qfm (i+1:Nat) (nextL Cell.next k (xs.take (i+1))) (qaI Cell.e Cell.mark Cell.next k xs (i+1)))
  rw[←hset,qdn ha]
  generalize nextL Cell.next k (xs.take i)=K at*
  generalize qaI Cell.e Cell.mark Cell.next k xs i=M at*
  unfold Cell.next at h1
  have t:=qL3 i K M _ _ _ _ _ _ _ _ _ _ _ _ _ _ _ _ ⟨by rw[hlen];simp only[zi];omega,lt0,hlt,hg,⟨by omega,by omega⟩,lt0,qbo hlt,qc4 (by (try simp only[zn]);omega),⟨by omega,by omega⟩,lt0,qbo (qbo hlt),qc4 (by (try simp only[zn]);omega),⟨by omega,by omega⟩,lt0,qbo (qbo (qbo hlt)),qc4 (by (try simp only[zn]);omega),⟨by omega,by omega⟩,up1 hi hl,trivial⟩
  try simp only[zam]at t
  exact t) (by
  have t:=qL4 xs.length (nextL Cell.next k (xs.take xs.length)) (qaI Cell.e Cell.mark Cell.next k xs xs.length) ⟨qiZ,trivial⟩
  rw[qiV,zC]at t ⊢
  exact t)
 rw[qiU]at l
 exact qL5 ⟨l,trivial⟩
theorem qMh(xs:List Cell)(hl:xs.length≤8388608):1≤nextL Cell.next 1 xs∧nextL Cell.next 1 xs≤1000000000000:=by
 have f:=qbO Cell.cb Cell.next_le xs 1
 rw[Cell.cb_sum]at f
 omega
theorem qMi(xs:List Cell)(k:Int)(hk:0≤k)(hM:nextL Cell.next k xs≤1000000000000)(hl:xs.length≤8388608):Rt 50 [.one (.sl 4 ((markL Cell.mark Cell.next k xs).map Cell.e)),.one (I k)] [.one (I (nextL Cell.next k xs))]:=by
 have hlm:(markL Cell.mark Cell.next k xs).length=xs.length:=qfp
 have l:=qan (P:=Tryz.prog) (c:=qaa Tryz.f50 0) (qaf 0) (markL Cell.mark Cell.next k xs).length (fun i=>qfo ((markL Cell.mark Cell.next k xs).map Cell.e) i (nextL Cell.next k (xs.take i))) (fun i hi2=>by
  have hi:i<xs.length:=by omega
  obtain⟨a,ha⟩:=qai hi
  have ha2:=qMd (mark:=Cell.mark) (next:=Cell.next) (k:=k) ha
  have h0:=qhp Cell.cb Cell.next_le xs k i
  have h1:=zaq (qho Cell.cb Cell.next_le xs k (i+1)) hM
  rw[qdn ha]at h1
  show Tr _ _ (qfo ((markL Cell.mark Cell.next k xs).map Cell.e) (i:Nat) (nextL Cell.next k (xs.take i))) _ (qfo ((markL Cell.mark Cell.next k xs).map Cell.e) (i+1:Nat) (nextL Cell.next k (xs.take (i+1))))
  rw[qdn ha]
  generalize nextL Cell.next k (xs.take i)=K at*
  unfold Cell.next at h1
  exact qMa ⟨lt1 hi2,lt0,lt2 hi2,qac Cell.e ha2,by simp[Cell.mark],⟨by omega,by omega⟩,lt0,lt2 hi2,qac Cell.e ha2,by simp[Cell.mark],⟨by omega,by omega⟩,lt0,lt2 hi2,qac Cell.e ha2,by simp[Cell.mark],⟨by omega,by omega⟩,lt0,lt2 hi2,qac Cell.e ha2,by simp[Cell.mark],⟨by omega,by omega⟩,⟨by omega,by omega⟩,trivial⟩) (qMb ⟨ge1,trivial⟩)
 rw[hlm,zC]at l
 exact qMc ⟨l,trivial⟩
theorem qMj(xs:List Node)(k:Int)(hk:0≤k)(hM:nextL Node.next k xs≤1000000000000)(hl:xs.length≤8388608)(hs:∀x∈xs,x.sz≤8388608):
  RetG Tryz.prog 109 [.one (.gv 4 (xs.map Node.e) (some ((markL Node.mark Node.next k xs).map Node.e))),.one (.ro (I k))] [.one (I (nextL Node.next k xs))]:=by
 have l:=qan (P:=Tryz.prog) (c:=qaa Tryz.f109 0) (stE:=ql3 (nextL Node.next k xs) ((markL Node.mark Node.next k xs).map Node.e)) (qaf 0) xs.length (fun i=>qfn i (nextL Node.next k (xs.take i)) (qaI Node.e Node.mark Node.next k xs i)) (fun i hi=>by
  obtain⟨a,ha⟩:=qai hi
  have h0:=qhp Node.cb Node.next_le xs k i
  have h1:=zaq (qho Node.cb Node.next_le xs k (i+1)) hM
  rw[qdn ha]at h1
  have hlen:(qaI Node.e Node.mark Node.next k xs i).length=xs.length:=qgh (by omega)
  have hlt:=qiY (e:=Node.e) (mark:=Node.mark) (next:=Node.next) (k:=k) hi
  have hg:=qiW (e:=Node.e) (mark:=Node.mark) (next:=Node.next) (k:=k) ha
  have hset:=qiX (e:=Node.e) (mark:=Node.mark) (next:=Node.next) (k:=k) ha
  show Tr _ _ (qfn (i:Nat) (nextL Node.next k (xs.take i)) (qaI Node.e Node.mark Node.next k xs i)) _ (qfn (i+1:Nat) (nextL Node.next k (xs.take (i+1))) (qaI Node.e Node.mark Node.next k xs (i+1)))
  rw[←hset,qdn ha]
  generalize nextL Node.next k (xs.take i)=K at*
  generalize qaI Node.e Node.mark Node.next k xs i=M at*
  have hz:=hs a (qar ha)
  unfold Node.next at h1
  have f0:=qbO (fun _=>1) nI_le a.outs (K+1+1+1)
  have t:=qL6 i K M _ _ _ _ _ _ _ _ _ _ _ _ _ _ _ _ _ _ ⟨by rw[hlen];simp only[zi];omega,lt0,hlt,hg,⟨by omega,by omega⟩,lt0,qbo hlt,qc4 (by (try simp only[zn]);omega),⟨by omega,by omega⟩,lt0,qbo (qbo hlt),qc4 (by (try simp only[zn]);omega),⟨by omega,by omega⟩,lt0,qbo (qbo (qbo hlt)),qc4 (by (try simp only[zn]);omega),qMe a.outs (K+1+1+1) (by omega) (by omega) (by simp only[Node.sz]at hz;omega),qc4 (by (try simp only[zn]);omega),rfl,up1 hi hl,trivial⟩
  try simp only[zam]at t
  exact t) (by
  have t:=qL7 xs.length (nextL Node.next k (xs.take xs.length)) (qaI Node.e Node.mark Node.next k xs xs.length) ⟨qiZ,trivial⟩
  rw[qiV,zC]at t ⊢
  exact t)
 rw[qiU]at l
 exact qL8 ⟨l,trivial⟩
end Go.Proofs.YtdanpadojemjeaaGreat
