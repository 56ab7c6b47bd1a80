/- ClusterNew: what program and reference compute. -/
import Derived.Test.YtdanpadojemjeaaGreatP51
import Derived.Test.YtdanpadojemjeaaGreatP43
import Derived.Test.YtdanpadojemjeaaGreatP9
import Derived.Test.YtdanpadojemjeaaGreatP7
import Derived.Test.YtdanpadojemjeaaGreatGY
set_option linter.unusedVariables false
set_option linter.unusedSimpArgs false
namespace Go.Proofs.YtdanpadojemjeaaGreat
open Go.Sx Go.RowKit Go.Proofs.Tryz
def qcK(r:Record):Bool:=!qaC r||r.op != 0||r.stamp.turn != 0
def ownAt(g:Graph)(xs:List Record)(w e:Int):List Record:=xs.filter fun r=>r.stamp.epoch==e&&qbd r.key g.workers==w
def ownTo(g:Graph)(xs:List Record)(w:Int)(n:Nat):List Record:=(List.range n).flatMap fun e=>ownAt g xs w (e:Nat)
def own(g:Graph)(xs:List Record)(w:Int):List Record:=ownTo g xs w 4
def qhn(xs:List Record):Worker:=⟨[],[],xs,[],List.replicate 4 0,List.replicate 4 false,List.replicate 4 false,[]⟩
def qcL(cap:Int):Link:=⟨qbR cap 1 4,[],qbR cap 1 4,0,0,0⟩
def tok0:Token:=⟨false,0,0,false,false⟩
def qcM(g:Graph)(xs:List Record)(n:Nat):List Worker:=(List.range n).map fun w=>qhn (own g xs (w:Nat))
def qbn(g:Graph)(xs:List Record):Cluster:=⟨g,qcM g xs g.workers.toNat,List.replicate (g.workers.toNat*g.workers.toNat) (qcL g.cap),List.replicate 4 tok0,[]⟩
def qra:Cluster:=⟨⟨[],0,0⟩,[],[],[],[]⟩
def newOk(g:Graph)(xs:List Record):Bool:=qas g&&decide (xs.length≤20)&&!xs.any qcK
def qei(g:Graph)(xs:List Record):Cluster×Bool:=if newOk g xs then (qbn g xs,true) else (qra,false)
theorem qrb(g:Graph)(xs:List Record)(w:Int)(n:Nat):ownTo g xs w (n+1)=ownTo g xs w n++ownAt g xs w (n:Nat):=by
 simp[ownTo,List.range_succ]
theorem qrc(g:Graph)(xs:List Record)(w:Int)(n:Nat):(ownTo g xs w n).length≤n*xs.length:=by
 have h:=qfK (fun e:Nat=>ownAt g xs w (e:Nat)) xs.length (fun _=>zat _ _) (List.range n)
 rwa[zct]at h
theorem qlW{g:Graph}{xs:List Record}(hl:xs.length≤20)(w:Int):(own g xs w).length≤80:=by
 have:=qrc g xs w 4
 unfold own
 omega
theorem qrd{g:Graph}{xs:List Record}(hl:xs.length≤20)(w:Int){n:Nat}(hn:n<4):(ownTo g xs w n).length≤60:=by
 have:=qrc g xs w n
 have:n*xs.length≤3*20:=Nat.mul_le_mul (by omega) hl
 omega
theorem qre(g:Graph)(xs:List Record)(n:Nat):qcM g xs (n+1)=qcM g xs n++[qhn (own g xs (n:Nat))]:=by
 simp[qcM,List.range_succ]
theorem qiS(g:Graph)(xs:List Record)(n:Nat):(qcM g xs n).length=n:=by simp[qcM]
theorem qrf{α:Type}{f:α→List D}{x:α}{m:Nat}:(List.replicate m x).map f++[f x]=(List.replicate (m+1) x).map f:=by
 rw[List.replicate_succ',zU];rfl
theorem qLF(g:Graph)(xs:List Record)(w e:Int):ownAt g xs w e=(qbS e xs).filter fun r=>qbd r.key g.workers==w:=by
 unfold ownAt qbS
 rw[List.filter_filter]
 congr 1
 funext r
 rw[Bool.and_comm]
theorem qLG(cap:Int):Rt 168 [.one (I cap)] [.agg (qcL cap).e]:=qLv ⟨qkz cap 1 4,trivial⟩
theorem qLH(cap:Int):Rt 176 [.one (I cap)] [.agg (qcL cap).e]:=qLw ⟨qkA cap 1 4,trivial⟩
theorem qLI(xs:List Record)(hl:xs.length≤1000):Rt 166 [.one (.sl 5 (xs.map Record.e))] [.agg (qhn xs).e]:=
 qLx ⟨nl _ (by simp;omega),nl1 _ (by simp;omega),qae _ Record.flat _,by omega,by omega,by decide,by omega,by omega,by omega,by decide,by omega,by omega,by omega,by decide,by omega,trivial⟩
theorem qLJ(xs:List Record)(hl:xs.length≤1000):Rt 175 [.one (.sl 5 (xs.map Record.e))] [.agg (qhn xs).e]:=
 qLy ⟨qgP xs (by omega),by omega,by omega,by decide,by omega,by omega,by omega,by decide,by omega,by omega,by omega,by decide,by omega,trivial⟩
theorem qLK(g:Graph)(xs:List Record)(w:Int)(hn:1≤g.workers∧g.workers≤4)(hl:xs.length≤20):Rt 167 [.agg g.e,.one (.sl 5 (xs.map Record.e)),.one (I w)] [.one (.sl 5 ((own g xs w).map Record.e))]:=by
 have l1:=fun (e:Nat) (he:e<4) (acc:List Record) (ha:acc.length≤100)=>qan (P:=prog) (c:=(qaa f167 1)) (qaf 2) xs.length (fun i:Nat=>qdB (g.nodes.map Node.e) g.workers g.cap (xs.map Record.e) w e i ((acc++(xs.take i).filter fun r=>r.stamp.epoch==(e:Int)&&qbd r.key g.workers==w).map Record.e)) (fun i hi=>by
  obtain⟨r,hr⟩:=qai hi
  have hf:((xs.take i).filter fun r=>r.stamp.epoch==(e:Int)&&qbd r.key g.workers==w).length≤20:=by
   have:=zat (fun r:Record=>r.stamp.epoch==(e:Int)&&qbd r.key g.workers==w) (xs.take i)
   have:=qhh i xs
   omega
  rw[qcV _ hr]
  generalize (xs.take i).filter (fun r=>r.stamp.epoch==(e:Int)&&qbd r.key g.workers==w)=fs at*
  have ow:=qpc r.key g.workers (by omega)
  cases h1:(r.stamp.epoch==(e:Int)) with
  | false=>
   rw[Bool.false_and,zo (by decide),zaa]
   exact qLq ⟨lt1 hi,lt0,lt2 hi,qac Record.e hr,h1,up1 hi (by omega),trivial⟩
  | true=>
   cases h2:(qbd r.key g.workers==w) with
   | false=>
    rw[Bool.and_false,zo (by decide),zaa]
    exact qLp ⟨lt1 hi,lt0,lt2 hi,qac Record.e hr,h1,lt0,lt2 hi,qac Record.e hr,ow,h2,up1 hi (by omega),trivial⟩
   | true=>
    rw[zcs,zp rfl,←zba,qhg]
    exact qLo ⟨lt1 hi,lt0,lt2 hi,qac Record.e hr,h1,lt0,lt2 hi,qac Record.e hr,ow,h2,lt0,lt2 hi,qac Record.e hr,by simp;omega,by simp;omega,qap (Record.flat r),up1 hi (by omega),trivial⟩) (qLr ⟨ge1,trivial⟩)
 have l0:=qan (P:=prog) (c:=(qaa f167 0)) (qaf 0) 4 (fun n:Nat=>qhm (g.nodes.map Node.e) g.workers g.cap (xs.map Record.e) w n ((ownTo g xs w n).map Record.e)) (fun n hn=>by
  have:=l1 n hn (ownTo g xs w n) (by have:=qrd (g:=g) hl w hn;omega)
  rw[zC,List.take_zero,List.filter_nil,zaa]at this
  rw[qrb]
  exact qLs ⟨dT (by omega),this,⟨by omega,by omega⟩,trivial⟩) (qLt ⟨dF (by omega),trivial⟩)
 exact qLu ⟨l0,trivial⟩
theorem qej{g:Graph}{xs:List Record}(h:newOk g xs=false):qei g xs=(qra,false):=by unfold qei;rw[h];rfl
theorem qiT{g:Graph}{xs:List Record}(h:newOk g xs=true):qei g xs=(qbn g xs,true):=by unfold qei;rw[h];rfl
theorem qLL(g:Graph)(xs:List Record)(hl:xs.length≤20):
  (xs.any qcK=false∧qaj prog (qaa f98 0) (qc2 (xs.map Record.e) 0 0 0 (g.nodes.map Node.e) g.workers g.cap) (.exit 0) (qlR (xs.map Record.e) 0 0 (g.nodes.map Node.e) g.workers g.cap))∨
  (xs.any qcK=true∧qaj prog (qaa f98 0) (qc2 (xs.map Record.e) 0 0 0 (g.nodes.map Node.e) g.workers g.cap) .ret (qgc false 0 0)):=by
 have l:=qaL (P:=prog) (c:=(qaa f98 0)) xs qcK (fun i=>qc2 (xs.map Record.e) i 0 0 (g.nodes.map Node.e) g.workers g.cap) (e1:=.ret) (e2:=.exit 0) (X:=fun _ _=>qgc false 0 0) qat (qaf 0)
  (fun i a ha h=>by
   simp only[qcK,zy]at h
   have hi:=lt_of ha
   exact qKY ⟨lt1 hi,lt0,lt2 hi,qac Record.e ha,qdy a,h.1.1,lt0,lt2 hi,qac Record.e ha,h.1.2,lt0,lt2 hi,qac Record.e ha,h.2,up1 hi (by omega),trivial⟩)
  (fun i a ha h=>by
   have hi:=lt_of ha
   have kr:=qdy a
   unfold qcK at h
   cases h1:(!qaC a) with
   | true=>exact qKV ⟨lt1 hi,lt0,lt2 hi,qac Record.e ha,kr,h1,trivial⟩
   | false=>
    cases h2:(a.op != 0) with
    | true=>exact qKW ⟨lt1 hi,lt0,lt2 hi,qac Record.e ha,kr,h1,lt0,lt2 hi,qac Record.e ha,h2,trivial⟩
    | false=>
     rw[h1,h2,zal,zal]at h
     exact qKX ⟨lt1 hi,lt0,lt2 hi,qac Record.e ha,kr,h1,lt0,lt2 hi,qac Record.e ha,h2,lt0,lt2 hi,qac Record.e ha,h,trivial⟩)
  (qKZ ⟨ge1,trivial⟩)
 rcases l with⟨_,_,h1,h2⟩ | ⟨i,a,_,_,_,_,h1,h2⟩
 ·exact .inl ⟨h1,h2⟩
 ·exact .inr ⟨h1,h2⟩
theorem qLM(g:Graph)(xs:List Record)(hn:1≤g.workers∧g.workers≤4)(hl:xs.length≤20):
  qaj prog (qaa f98 1) (qgd (xs.map Record.e) 0 (g.nodes.map Node.e) g.workers g.cap [] [] ((List.replicate 4 tok0).map Token.e) 0 0 (g.nodes.map Node.e) g.workers g.cap) (.exit 2)
   (qlS (g.nodes.map Node.e) g.workers g.cap ((qcM g xs g.workers.toNat).map Worker.e) ((List.replicate (g.workers.toNat*g.workers.toNat) (qcL g.cap)).map Link.e) ((List.replicate 4 tok0).map Token.e) 0 0):=by
 obtain⟨n,hnn⟩:∃n:Nat,g.workers=n:=⟨g.workers.toNat,by omega⟩
 have hn4:n≤4:=by omega
 have l2:=fun (w:Nat) (m:Nat) (W T:List (List D)) (hm:m≤16)=>qan (P:=prog) (c:=(qaa f98 2)) (qaf 4) n (fun k:Nat=>qhk (xs.map Record.e) w k (g.nodes.map Node.e) g.workers g.cap W ((List.replicate (m+k) (qcL g.cap)).map Link.e) T 0 0 (g.nodes.map Node.e) g.workers g.cap) (fun k hk=>by
  rw[←zcv,←qrf]
  exact qK1 ⟨dT (by omega),qLG g.cap,by simp;omega,by simp;omega,⟨by omega,by omega⟩,trivial⟩) (qK2 ⟨dF (by omega),trivial⟩)
 have l1:=qan (P:=prog) (c:=(qaa f98 1)) (qaf 2) n (fun w:Nat=>qgd (xs.map Record.e) w (g.nodes.map Node.e) g.workers g.cap ((qcM g xs w).map Worker.e) ((List.replicate (w*n) (qcL g.cap)).map Link.e) ((List.replicate 4 tok0).map Token.e) 0 0 (g.nodes.map Node.e) g.workers g.cap) (fun w hw=>by
  have hwl:=qiS g xs w
  have hm:w*n≤3*4:=Nat.mul_le_mul (by omega) hn4
  rw[qre,qhg,show (w+1)*n=w*n+n by rw[zR,Nat.one_mul]]
  exact qK3 ⟨dT (by omega),qLK g xs w hn hl,qLI _ (by have:=qlW (g:=g) hl (w:Nat);omega),by simp[hwl];omega,by simp[hwl];omega,l2 w (w*n) _ _ (by omega),⟨by omega,by omega⟩,trivial⟩) (qK4 ⟨dF (by omega),trivial⟩)
 rw[show ((0:Nat)*n)=0 by omega]at l1
 rw[hnn,zae]
 rw[hnn]at l1
 exact l1
theorem qLN(g:Graph)(xs:List Record)(hg:g.sz≤8388608):Rt 98 [.agg g.e,.one (.sl 5 (xs.map Record.e))] [.agg (qei g xs).1.e,.one (B (qei g xs).2)]:=by
 have gk:=qix g hg
 cases h1:qas g with
 | false=>
  rw[h1]at gk
  rw[qej (by unfold newOk;rw[h1];rfl)]
  exact qKT ⟨gk,rfl,trivial⟩
 | true=>
 rw[h1]at gk
 by_cases hl:xs.length≤20
 case neg=>
  rw[qej (by unfold newOk;rw[zt hl,Bool.and_false];rfl)]
  exact qKU ⟨gk,rfl,dT (by simp;omega),trivial⟩
 rcases qLL g xs hl with⟨h2,l⟩ | ⟨h2,l⟩
 ·rw[qiT (by unfold newOk;rw[h1,h2,zap hl];rfl)]
  exact qK5 ⟨gk,rfl,dF (by simp;omega),l,qo4 g hg,by omega,by omega,by decide,by omega,qLM g xs (qbK h1) hl,trivial⟩
 ·rw[qej (by unfold newOk;rw[h2];simp)]
  exact qK0 ⟨gk,rfl,dF (by simp;omega),l,trivial⟩
theorem qLO(g:Graph)(xs:List Record)(hl:xs.length≤20):
  (xs.any qcK=false∧qaj prog (qaa f103 0) (qc3 (xs.map Record.e) 0 0 0 (g.nodes.map Node.e) g.workers g.cap) (.exit 0) (qlT (xs.map Record.e) 0 0 (g.nodes.map Node.e) g.workers g.cap))∨
  (xs.any qcK=true∧qaj prog (qaa f103 0) (qc3 (xs.map Record.e) 0 0 0 (g.nodes.map Node.e) g.workers g.cap) .ret (qge false 0 0)):=by
 have l:=qaL (P:=prog) (c:=(qaa f103 0)) xs qcK (fun i=>qc3 (xs.map Record.e) i 0 0 (g.nodes.map Node.e) g.workers g.cap) (e1:=.ret) (e2:=.exit 0) (X:=fun _ _=>qge false 0 0) qat (qaf 0)
  (fun i a ha h=>by
   simp only[qcK,zy]at h
   have hi:=lt_of ha
   exact qLb ⟨lt1 hi,lt0,lt2 hi,qac Record.e ha,qdk a,h.1.1,h.1.2,h.2,up1 hi (by omega),trivial⟩)
  (fun i a ha h=>by
   have hi:=lt_of ha
   have kr:=qdk a
   unfold qcK at h
   cases h1:(!qaC a) with
   | true=>exact qK8 ⟨lt1 hi,lt0,lt2 hi,qac Record.e ha,kr,h1,trivial⟩
   | false=>
    cases h2:(a.op != 0) with
    | true=>exact qK9 ⟨lt1 hi,lt0,lt2 hi,qac Record.e ha,kr,h1,h2,trivial⟩
    | false=>
     rw[h1,h2,zal,zal]at h
     exact qLa ⟨lt1 hi,lt0,lt2 hi,qac Record.e ha,kr,h1,h2,h,trivial⟩)
  (qLc ⟨ge1,trivial⟩)
 rcases l with⟨_,_,h1,h2⟩ | ⟨i,a,_,_,_,_,h1,h2⟩
 ·exact .inl ⟨h1,h2⟩
 ·exact .inr ⟨h1,h2⟩
theorem qLP(g:Graph)(xs:List Record)(w:Nat)(W L T:List (List D))(hn:1≤g.workers∧g.workers≤4)(hl:xs.length≤20):
  qaj prog (qaa f103 2) (qgg (xs.map Record.e) w 0 [] (g.nodes.map Node.e) g.workers g.cap W L T 0 0 (g.nodes.map Node.e) g.workers g.cap) (.exit 4)
   (qlU (xs.map Record.e) w ((own g xs w).map Record.e) (g.nodes.map Node.e) g.workers g.cap W L T 0 0 (g.nodes.map Node.e) g.workers g.cap):=by
 have l3:=fun (e:Nat) (acc ys:List Record) (ha:acc.length≤100) (hy:ys.length≤20)=>qan (P:=prog) (c:=(qaa f103 3)) (qaf 6) ys.length (fun i:Nat=>qfj (xs.map Record.e) w e (ys.map Record.e) i ((acc++(ys.take i).filter fun r=>qbd r.key g.workers==(w:Int)).map Record.e) (g.nodes.map Node.e) g.workers g.cap W L T 0 0 (g.nodes.map Node.e) g.workers g.cap) (fun i hi=>by
  obtain⟨r,hr⟩:=qai hi
  have hf:((ys.take i).filter fun r=>qbd r.key g.workers==(w:Int)).length≤20:=by
   have:=zat (fun r:Record=>qbd r.key g.workers==(w:Int)) (ys.take i)
   have:=qhh i ys
   omega
  rw[qcV _ hr]
  generalize (ys.take i).filter (fun r=>qbd r.key g.workers==(w:Int))=fs at*
  have ow:=qpd r.key g.workers (by omega)
  cases h2:(qbd r.key g.workers==(w:Int)) with
  | false=>
   rw[zo (by decide),zaa]
   exact qLf ⟨lt1 hi,lt0,lt2 hi,qac Record.e hr,ow,h2,up1 hi (by omega),trivial⟩
  | true=>
   rw[zp rfl,←zba,qhg]
   exact qLe ⟨lt1 hi,lt0,lt2 hi,qac Record.e hr,ow,h2,by simp;omega,by simp;omega,qap (Record.flat r),up1 hi (by omega),trivial⟩) (qLg ⟨ge1,trivial⟩)
 exact qan (P:=prog) (c:=(qaa f103 2)) (qaf 4) 4 (fun n:Nat=>qgg (xs.map Record.e) w n ((ownTo g xs w n).map Record.e) (g.nodes.map Node.e) g.workers g.cap W L T 0 0 (g.nodes.map Node.e) g.workers g.cap) (fun n hn=>by
  have:=l3 n (ownTo g xs w n) (qbS (n:Int) xs) (by have:=qrd (g:=g) hl (w:Int) hn;omega) (by have:=qzw (n:Int) xs;omega)
  rw[zC,List.take_zero,List.filter_nil,zaa,←qLF]at this
  rw[qrb]
  exact qLh ⟨dT (by omega),qkI xs (n:Int) (by omega),this,⟨by omega,by omega⟩,trivial⟩) (qLi ⟨dF (by omega),trivial⟩)
theorem qLQ(g:Graph)(xs:List Record)(hn:1≤g.workers∧g.workers≤4)(hl:xs.length≤20):
  qaj prog (qaa f103 1) (qgf (xs.map Record.e) 0 (g.nodes.map Node.e) g.workers g.cap [] [] ((List.replicate 4 tok0).map Token.e) 0 0 (g.nodes.map Node.e) g.workers g.cap) (.exit 2)
   (qlV (g.nodes.map Node.e) g.workers g.cap ((qcM g xs g.workers.toNat).map Worker.e) ((List.replicate (g.workers.toNat*g.workers.toNat) (qcL g.cap)).map Link.e) ((List.replicate 4 tok0).map Token.e) 0 0):=by
 obtain⟨n,hnn⟩:∃n:Nat,g.workers=n:=⟨g.workers.toNat,by omega⟩
 have hn4:n≤4:=by omega
 have l4:=fun (w:Nat) (m:Nat) (W T:List (List D)) (hm:m≤16)=>qan (P:=prog) (c:=(qaa f103 4)) (qaf 8) n (fun k:Nat=>qhl (xs.map Record.e) w k (g.nodes.map Node.e) g.workers g.cap W ((List.replicate (m+k) (qcL g.cap)).map Link.e) T 0 0 (g.nodes.map Node.e) g.workers g.cap) (fun k hk=>by
  rw[←zcv,←qrf]
  exact qLj ⟨dT (by omega),qLH g.cap,by simp;omega,by simp;omega,⟨by omega,by omega⟩,trivial⟩) (qLk ⟨dF (by omega),trivial⟩)
 have l1:=qan (P:=prog) (c:=(qaa f103 1)) (qaf 2) n (fun w:Nat=>qgf (xs.map Record.e) w (g.nodes.map Node.e) g.workers g.cap ((qcM g xs w).map Worker.e) ((List.replicate (w*n) (qcL g.cap)).map Link.e) ((List.replicate 4 tok0).map Token.e) 0 0 (g.nodes.map Node.e) g.workers g.cap) (fun w hw=>by
  have hwl:=qiS g xs w
  have hm:w*n≤3*4:=Nat.mul_le_mul (by omega) hn4
  rw[qre,qhg,show (w+1)*n=w*n+n by rw[zR,Nat.one_mul]]
  exact qLl ⟨dT (by omega),qLP g xs w _ _ _ hn hl,qLJ _ (by have:=qlW (g:=g) hl (w:Nat);omega),by simp[hwl];omega,by simp[hwl];omega,l4 w (w*n) _ _ (by omega),⟨by omega,by omega⟩,trivial⟩) (qLm ⟨dF (by omega),trivial⟩)
 rw[show ((0:Nat)*n)=0 by omega]at l1
 rw[hnn,zae]
 rw[hnn]at l1
 exact l1
theorem qLR(g:Graph)(xs:List Record)(hg:g.sz≤8388608):Rt 103 [.agg g.e,.one (.sl 5 (xs.map Record.e))] [.agg (qei g xs).1.e,.one (B (qei g xs).2)]:=by
 have gk:=qe6 g hg
 cases h1:qas g with
 | false=>
  rw[h1]at gk
  rw[qej (by unfold newOk;rw[h1];rfl)]
  exact qK6 ⟨gk,rfl,trivial⟩
 | true=>
 rw[h1]at gk
 by_cases hl:xs.length≤20
 case neg=>
  rw[qej (by unfold newOk;rw[zt hl,Bool.and_false];rfl)]
  exact qK7 ⟨gk,rfl,dT (by simp;omega),trivial⟩
 rcases qLO g xs hl with⟨h2,l⟩ | ⟨h2,l⟩
 ·rw[qiT (by unfold newOk;rw[h1,h2,zap hl];rfl)]
  exact qLn ⟨gk,rfl,dF (by simp;omega),l,qo3 g hg,by omega,by omega,by decide,by omega,qLQ g xs (qbK h1) hl,trivial⟩
 ·rw[qej (by unfold newOk;rw[h2];simp)]
  exact qLd ⟨gk,rfl,dF (by simp;omega),l,trivial⟩
end Go.Proofs.YtdanpadojemjeaaGreat
