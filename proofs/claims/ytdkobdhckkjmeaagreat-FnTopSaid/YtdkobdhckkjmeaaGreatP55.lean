/- ClusterNew: what program and reference compute. -/
import Derived.Test.YtdkobdhckkjmeaaGreatP42
import Derived.Test.YtdkobdhckkjmeaaGreatP43
import Derived.Test.YtdkobdhckkjmeaaGreatP21
import Derived.Test.YtdkobdhckkjmeaaGreatGY
set_option linter.unusedVariables false
set_option linter.unusedSimpArgs false
namespace Go.Proofs.YtdkobdhckkjmeaaGreat
open Go.Sx Go.RowKit Go.Proofs.Tryz
def qco(r:Record):Bool:=!qaB r||r.op != 0||r.stamp.turn != 0
def ownAt(g:Graph)(xs:List Record)(w e:Int):List Record:=xs.filter fun r=>r.stamp.epoch==e&&qaw r.key g.workers==w
def ownTo(g:Graph)(xs:List Record)(w:Int)(n:Nat):List Record:=(List.range n).flatMap fun e=>ownAt g xs w (e:Nat)
def own(g:Graph)(xs:List Record)(w:Int):List Record:=ownTo g xs w 4
def qcb(xs:List Record):Worker:=⟨[],[],xs,[],List.replicate 4 0,List.replicate 4 false,List.replicate 4 false,[]⟩
def qbG(cap:Int):Link:=⟨qaU cap 1 4,[],qaU cap 1 4,0,0,0⟩
def tok0:Token:=⟨false,0,0,false,false⟩
def qcp(g:Graph)(xs:List Record)(n:Nat):List Worker:=(List.range n).map fun w=>qcb (own g xs (w:Nat))
def qaI(g:Graph)(xs:List Record):Cluster:=⟨g,qcp g xs g.workers.toNat,List.replicate (g.workers.toNat*g.workers.toNat) (qbG g.cap),List.replicate 4 tok0,[]⟩
def qsE:Cluster:=⟨⟨[],0,0⟩,[],[],[],[]⟩
def newOk(g:Graph)(xs:List Record):Bool:=qax g&&decide (xs.length≤20)&&!xs.any qco
def qeC(g:Graph)(xs:List Record):Cluster×Bool:=if newOk g xs then (qaI g xs,true) else (qsE,false)
theorem qnj(g:Graph)(xs:List Record)(w:Int)(n:Nat):ownTo g xs w (n+1)=ownTo g xs w n++ownAt g xs w (n:Nat):=by
 simp[ownTo,List.range_succ]
theorem qsF(g:Graph)(xs:List Record)(w:Int)(n:Nat):(ownTo g xs w n).length≤n*xs.length:=by
 have h:=qgh (fun e:Nat=>ownAt g xs w (e:Nat)) xs.length (fun _=>zat _ _) (List.range n);rwa[zct]at h
theorem qnk{g:Graph}{xs:List Record}(hl:xs.length≤20)(w:Int):(own g xs w).length≤80:=by
 have:=qsF g xs w 4;unfold own;omega
theorem qsG{g:Graph}{xs:List Record}(hl:xs.length≤20)(w:Int){n:Nat}(hn:n<4):(ownTo g xs w n).length≤60:=by
 have:=qsF g xs w n;have:n*xs.length≤3*20:=Nat.mul_le_mul (by omega) hl;omega
theorem qsH(g:Graph)(xs:List Record)(n:Nat):qcp g xs (n+1)=qcp g xs n++[qcb (own g xs (n:Nat))]:=by
 simp[qcp,List.range_succ]
theorem qgP(g:Graph)(xs:List Record)(n:Nat):(qcp g xs n).length=n:=by simp[qcp]
theorem qsI{α:Type}{f:α→List D}{x:α}{m:Nat}:(List.replicate m x).map f++[f x]=(List.replicate (m+1) x).map f:=by
 rw[List.replicate_succ',zU];rfl
theorem qLq(g:Graph)(xs:List Record)(w e:Int):ownAt g xs w e=(qa5 e xs).filter fun r=>qaw r.key g.workers==w:=by
 unfold ownAt qa5;rw[List.filter_filter]
 congr 1
 funext r;rw[Bool.and_comm]
theorem qLr(cap:Int):Rt 126 [.one (I cap)] [.agg (qbG cap).e]:=qLm ⟨qjr cap 1 4,trivial⟩
theorem qLs(cap:Int):Rt 150 [.one (I cap)] [.agg (qbG cap).e]:=qLn ⟨qme cap 1 4,trivial⟩
theorem qLt(xs:List Record)(hl:xs.length≤1000):Rt 124 [.one (.sl 5 (xs.map Record.e))] [.agg (qcb xs).e]:=
 qLo ⟨nl _ (by simp;omega),nl1 _ (by simp;omega),qae _ Record.flat _,by omega,by omega,by decide,by omega,by omega,by omega,by decide,by omega,by omega,by omega,by decide,by omega,trivial⟩
theorem qLu(xs:List Record)(hl:xs.length≤1000):Rt 149 [.one (.sl 5 (xs.map Record.e))] [.agg (qcb xs).e]:=
 qLp ⟨qgl xs (by omega),by omega,by omega,by decide,by omega,by omega,by omega,by decide,by omega,by omega,by omega,by decide,by omega,trivial⟩
theorem qLv(g:Graph)(xs:List Record)(w:Int)(hn:1≤g.workers∧g.workers≤4)(hl:xs.length≤20):Rt 125 [.agg g.e,.one (.sl 5 (xs.map Record.e)),.one (I w)] [.one (.sl 5 ((own g xs w).map Record.e))]:=by
 have l1:=fun (e:Nat) (he:e<4) (acc:List Record) (ha:acc.length≤100)=>qao (P:=prog) (c:=(qaa f125 1)) (qaf 2) xs.length (fun i:Nat=>qdY (g.nodes.map Node.e) g.workers g.cap (xs.map Record.e) w e i ((acc++(xs.take i).filter fun r=>r.stamp.epoch==(e:Int)&&qaw r.key g.workers==w).map Record.e)) (fun i hi=>by
  obtain⟨r,hr⟩:=qal hi;have hf:((xs.take i).filter fun r=>r.stamp.epoch==(e:Int)&&qaw r.key g.workers==w).length≤20:=by
   have:=zat (fun r:Record=>r.stamp.epoch==(e:Int)&&qaw r.key g.workers==w) (xs.take i);have:=qgD i xs;omega
  rw[qeY _ hr];generalize (xs.take i).filter (fun r=>r.stamp.epoch==(e:Int)&&qaw r.key g.workers==w)=fs at*;have ow:=qq3 r.key g.workers (by omega);cases h1:(r.stamp.epoch==(e:Int)) with
  | false=>
   rw[Bool.false_and,zo (by decide),zaa];exact qLh ⟨lt1 hi,lt0,lt2 hi,qac Record.e hr,h1,up1 hi (by omega),trivial⟩
  | true=>
   cases h2:(qaw r.key g.workers==w) with
   | false=>
    rw[Bool.and_false,zo (by decide),zaa];exact qLg ⟨lt1 hi,lt0,lt2 hi,qac Record.e hr,h1,lt0,lt2 hi,qac Record.e hr,ow,h2,up1 hi (by omega),trivial⟩
   | true=>
    rw[zcs,zp rfl,←zba,qgB];exact qLf ⟨lt1 hi,lt0,lt2 hi,qac Record.e hr,h1,lt0,lt2 hi,qac Record.e hr,ow,h2,lt0,lt2 hi,qac Record.e hr,by simp;omega,by simp;omega,qat (Record.flat r),up1 hi (by omega),trivial⟩) (qLi ⟨ge1,trivial⟩)
 have l0:=qao (P:=prog) (c:=(qaa f125 0)) (qaf 0) 4 (fun n:Nat=>qh9 (g.nodes.map Node.e) g.workers g.cap (xs.map Record.e) w n ((ownTo g xs w n).map Record.e)) (fun n hn=>by
  have:=l1 n hn (ownTo g xs w n) (by have:=qsG (g:=g) hl w hn;omega);rw[zC,List.take_zero,List.filter_nil,zaa]at this;rw[qnj];exact qLj ⟨dT (by omega),this,⟨by omega,by omega⟩,trivial⟩) (qLk ⟨dF (by omega),trivial⟩)
 exact qLl ⟨l0,trivial⟩
theorem qgQ{g:Graph}{xs:List Record}(h:newOk g xs=false):qeC g xs=(qsE,false):=by unfold qeC;rw[h];rfl
theorem qkd{g:Graph}{xs:List Record}(h:newOk g xs=true):qeC g xs=(qaI g xs,true):=by unfold qeC;rw[h];rfl
theorem qLw(g:Graph)(xs:List Record)(hl:xs.length≤20):
  (xs.any qco=false∧qam prog (qaa f17 0) (qdf (xs.map Record.e) 0 0 0 (g.nodes.map Node.e) g.workers g.cap) (.exit 0) (qne (xs.map Record.e) 0 0 (g.nodes.map Node.e) g.workers g.cap))∨
  (xs.any qco=true∧qam prog (qaa f17 0) (qdf (xs.map Record.e) 0 0 0 (g.nodes.map Node.e) g.workers g.cap) .ret (qgK false 0 0)):=by
 have l:=qaW (P:=prog) (c:=(qaa f17 0)) xs qco (fun i=>qdf (xs.map Record.e) i 0 0 (g.nodes.map Node.e) g.workers g.cap) (e1:=.ret) (e2:=.exit 0) (X:=fun _ _=>qgK false 0 0) qaE (qaf 0)
  (fun i a ha h=>by
   simp only[qco,zy]at h;have hi:=lt_of ha;exact qKP ⟨lt1 hi,lt0,lt2 hi,qac Record.e ha,qdU a,h.1.1,lt0,lt2 hi,qac Record.e ha,h.1.2,lt0,lt2 hi,qac Record.e ha,h.2,up1 hi (by omega),trivial⟩)
  (fun i a ha h=>by
   have hi:=lt_of ha;have kr:=qdU a;unfold qco at h;cases h1:(!qaB a) with
   | true=>exact qKM ⟨lt1 hi,lt0,lt2 hi,qac Record.e ha,kr,h1,trivial⟩
   | false=>
    cases h2:(a.op != 0) with
    | true=>exact qKN ⟨lt1 hi,lt0,lt2 hi,qac Record.e ha,kr,h1,lt0,lt2 hi,qac Record.e ha,h2,trivial⟩
    | false=>
     rw[h1,h2,zal,zal]at h;exact qKO ⟨lt1 hi,lt0,lt2 hi,qac Record.e ha,kr,h1,lt0,lt2 hi,qac Record.e ha,h2,lt0,lt2 hi,qac Record.e ha,h,trivial⟩)
  (qKQ ⟨ge1,trivial⟩)
 rcases l with⟨_,_,h1,h2⟩ | ⟨i,a,_,_,_,_,h1,h2⟩
 ·exact .inl ⟨h1,h2⟩
 ·exact .inr ⟨h1,h2⟩
theorem qLx(g:Graph)(xs:List Record)(hn:1≤g.workers∧g.workers≤4)(hl:xs.length≤20):
  qam prog (qaa f17 1) (qgL (xs.map Record.e) 0 (g.nodes.map Node.e) g.workers g.cap [] [] ((List.replicate 4 tok0).map Token.e) 0 0 (g.nodes.map Node.e) g.workers g.cap) (.exit 2)
   (qnf (g.nodes.map Node.e) g.workers g.cap ((qcp g xs g.workers.toNat).map Worker.e) ((List.replicate (g.workers.toNat*g.workers.toNat) (qbG g.cap)).map Link.e) ((List.replicate 4 tok0).map Token.e) 0 0):=by
 obtain⟨n,hnn⟩:∃n:Nat,g.workers=n:=⟨g.workers.toNat,by omega⟩
 have hn4:n≤4:=by omega
 have l2:=fun (w:Nat) (m:Nat) (W T:List (List D)) (hm:m≤16)=>qao (P:=prog) (c:=(qaa f17 2)) (qaf 4) n (fun k:Nat=>qh7 (xs.map Record.e) w k (g.nodes.map Node.e) g.workers g.cap W ((List.replicate (m+k) (qbG g.cap)).map Link.e) T 0 0 (g.nodes.map Node.e) g.workers g.cap) (fun k hk=>by
  rw[←zcv,←qsI];exact qKS ⟨dT (by omega),qLr g.cap,by simp;omega,by simp;omega,⟨by omega,by omega⟩,trivial⟩) (qKT ⟨dF (by omega),trivial⟩)
 have l1:=qao (P:=prog) (c:=(qaa f17 1)) (qaf 2) n (fun w:Nat=>qgL (xs.map Record.e) w (g.nodes.map Node.e) g.workers g.cap ((qcp g xs w).map Worker.e) ((List.replicate (w*n) (qbG g.cap)).map Link.e) ((List.replicate 4 tok0).map Token.e) 0 0 (g.nodes.map Node.e) g.workers g.cap) (fun w hw=>by
  have hwl:=qgP g xs w;have hm:w*n≤3*4:=Nat.mul_le_mul (by omega) hn4;rw[qsH,qgB,show (w+1)*n=w*n+n by rw[zR,Nat.one_mul]];exact qKU ⟨dT (by omega),qLv g xs w hn hl,qLt _ (by have:=qnk (g:=g) hl (w:Nat);omega),by simp[hwl];omega,by simp[hwl];omega,l2 w (w*n) _ _ (by omega),⟨by omega,by omega⟩,trivial⟩) (qKV ⟨dF (by omega),trivial⟩)
 rw[show ((0:Nat)*n)=0 by omega]at l1;rw[hnn,zae];rw[hnn]at l1;exact l1
theorem qsJ(g:Graph)(xs:List Record)(hg:g.sz≤8388608):Rt 17 [.agg g.e,.one (.sl 5 (xs.map Record.e))] [.agg (qeC g xs).1.e,.one (B (qeC g xs).2)]:=by
 have gk:=qjQ g hg;cases h1:qax g with
 | false=>
  rw[h1]at gk;rw[qgQ (by unfold newOk;rw[h1];rfl)];exact qKK ⟨gk,rfl,trivial⟩
 | true=>
 rw[h1]at gk;by_cases hl:xs.length≤20
 case neg=>
  rw[qgQ (by unfold newOk;rw[zt hl,Bool.and_false];rfl)];exact qKL ⟨gk,rfl,dT (by simp;omega),trivial⟩
 rcases qLw g xs hl with⟨h2,l⟩ | ⟨h2,l⟩
 ·rw[qkd (by unfold newOk;rw[h1,h2,zap hl];rfl)];exact qKW ⟨gk,rfl,dF (by simp;omega),l,qss g hg,by omega,by omega,by decide,by omega,qLx g xs (qa7 h1) hl,trivial⟩
 ·rw[qgQ (by unfold newOk;rw[h2];simp)];exact qKR ⟨gk,rfl,dF (by simp;omega),l,trivial⟩
theorem qLy(g:Graph)(xs:List Record)(hl:xs.length≤20):
  (xs.any qco=false∧qam prog (qaa f30 0) (qdg (xs.map Record.e) 0 0 0 (g.nodes.map Node.e) g.workers g.cap) (.exit 0) (qng (xs.map Record.e) 0 0 (g.nodes.map Node.e) g.workers g.cap))∨
  (xs.any qco=true∧qam prog (qaa f30 0) (qdg (xs.map Record.e) 0 0 0 (g.nodes.map Node.e) g.workers g.cap) .ret (qgM false 0 0)):=by
 have l:=qaW (P:=prog) (c:=(qaa f30 0)) xs qco (fun i=>qdg (xs.map Record.e) i 0 0 (g.nodes.map Node.e) g.workers g.cap) (e1:=.ret) (e2:=.exit 0) (X:=fun _ _=>qgM false 0 0) qaE (qaf 0)
  (fun i a ha h=>by
   simp only[qco,zy]at h;have hi:=lt_of ha;exact qK2 ⟨lt1 hi,lt0,lt2 hi,qac Record.e ha,qdz a,h.1.1,h.1.2,h.2,up1 hi (by omega),trivial⟩)
  (fun i a ha h=>by
   have hi:=lt_of ha;have kr:=qdz a;unfold qco at h;cases h1:(!qaB a) with
   | true=>exact qKZ ⟨lt1 hi,lt0,lt2 hi,qac Record.e ha,kr,h1,trivial⟩
   | false=>
    cases h2:(a.op != 0) with
    | true=>exact qK0 ⟨lt1 hi,lt0,lt2 hi,qac Record.e ha,kr,h1,h2,trivial⟩
    | false=>
     rw[h1,h2,zal,zal]at h;exact qK1 ⟨lt1 hi,lt0,lt2 hi,qac Record.e ha,kr,h1,h2,h,trivial⟩)
  (qK3 ⟨ge1,trivial⟩)
 rcases l with⟨_,_,h1,h2⟩ | ⟨i,a,_,_,_,_,h1,h2⟩
 ·exact .inl ⟨h1,h2⟩
 ·exact .inr ⟨h1,h2⟩
theorem qLz(g:Graph)(xs:List Record)(w:Nat)(W L T:List (List D))(hn:1≤g.workers∧g.workers≤4)(hl:xs.length≤20):
  qam prog (qaa f30 2) (qgO (xs.map Record.e) w 0 [] (g.nodes.map Node.e) g.workers g.cap W L T 0 0 (g.nodes.map Node.e) g.workers g.cap) (.exit 4)
   (qnh (xs.map Record.e) w ((own g xs w).map Record.e) (g.nodes.map Node.e) g.workers g.cap W L T 0 0 (g.nodes.map Node.e) g.workers g.cap):=by
 have l3:=fun (e:Nat) (acc ys:List Record) (ha:acc.length≤100) (hy:ys.length≤20)=>qao (P:=prog) (c:=(qaa f30 3)) (qaf 6) ys.length (fun i:Nat=>qfK (xs.map Record.e) w e (ys.map Record.e) i ((acc++(ys.take i).filter fun r=>qaw r.key g.workers==(w:Int)).map Record.e) (g.nodes.map Node.e) g.workers g.cap W L T 0 0 (g.nodes.map Node.e) g.workers g.cap) (fun i hi=>by
  obtain⟨r,hr⟩:=qal hi;have hf:((ys.take i).filter fun r=>qaw r.key g.workers==(w:Int)).length≤20:=by
   have:=zat (fun r:Record=>qaw r.key g.workers==(w:Int)) (ys.take i);have:=qgD i ys;omega
  rw[qeY _ hr];generalize (ys.take i).filter (fun r=>qaw r.key g.workers==(w:Int))=fs at*;have ow:=qmI r.key g.workers (by omega);cases h2:(qaw r.key g.workers==(w:Int)) with
  | false=>
   rw[zo (by decide),zaa];exact qK6 ⟨lt1 hi,lt0,lt2 hi,qac Record.e hr,ow,h2,up1 hi (by omega),trivial⟩
  | true=>
   rw[zp rfl,←zba,qgB];exact qK5 ⟨lt1 hi,lt0,lt2 hi,qac Record.e hr,ow,h2,by simp;omega,by simp;omega,qat (Record.flat r),up1 hi (by omega),trivial⟩) (qK7 ⟨ge1,trivial⟩)
 exact qao (P:=prog) (c:=(qaa f30 2)) (qaf 4) 4 (fun n:Nat=>qgO (xs.map Record.e) w n ((ownTo g xs w n).map Record.e) (g.nodes.map Node.e) g.workers g.cap W L T 0 0 (g.nodes.map Node.e) g.workers g.cap) (fun n hn=>by
  have:=l3 n (ownTo g xs w n) (qa5 (n:Int) xs) (by have:=qsG (g:=g) hl (w:Int) hn;omega) (by have:=qqL (n:Int) xs;omega);rw[zC,List.take_zero,List.filter_nil,zaa,←qLq]at this;rw[qnj];exact qK8 ⟨dT (by omega),qgk xs (n:Int) (by omega),this,⟨by omega,by omega⟩,trivial⟩) (qK9 ⟨dF (by omega),trivial⟩)
theorem qLA(g:Graph)(xs:List Record)(hn:1≤g.workers∧g.workers≤4)(hl:xs.length≤20):
  qam prog (qaa f30 1) (qgN (xs.map Record.e) 0 (g.nodes.map Node.e) g.workers g.cap [] [] ((List.replicate 4 tok0).map Token.e) 0 0 (g.nodes.map Node.e) g.workers g.cap) (.exit 2)
   (qni (g.nodes.map Node.e) g.workers g.cap ((qcp g xs g.workers.toNat).map Worker.e) ((List.replicate (g.workers.toNat*g.workers.toNat) (qbG g.cap)).map Link.e) ((List.replicate 4 tok0).map Token.e) 0 0):=by
 obtain⟨n,hnn⟩:∃n:Nat,g.workers=n:=⟨g.workers.toNat,by omega⟩
 have hn4:n≤4:=by omega
 have l4:=fun (w:Nat) (m:Nat) (W T:List (List D)) (hm:m≤16)=>qao (P:=prog) (c:=(qaa f30 4)) (qaf 8) n (fun k:Nat=>qh8 (xs.map Record.e) w k (g.nodes.map Node.e) g.workers g.cap W ((List.replicate (m+k) (qbG g.cap)).map Link.e) T 0 0 (g.nodes.map Node.e) g.workers g.cap) (fun k hk=>by
  rw[←zcv,←qsI];exact qLa ⟨dT (by omega),qLs g.cap,by simp;omega,by simp;omega,⟨by omega,by omega⟩,trivial⟩) (qLb ⟨dF (by omega),trivial⟩)
 have l1:=qao (P:=prog) (c:=(qaa f30 1)) (qaf 2) n (fun w:Nat=>qgN (xs.map Record.e) w (g.nodes.map Node.e) g.workers g.cap ((qcp g xs w).map Worker.e) ((List.replicate (w*n) (qbG g.cap)).map Link.e) ((List.replicate 4 tok0).map Token.e) 0 0 (g.nodes.map Node.e) g.workers g.cap) (fun w hw=>by
  have hwl:=qgP g xs w;have hm:w*n≤3*4:=Nat.mul_le_mul (by omega) hn4;rw[qsH,qgB,show (w+1)*n=w*n+n by rw[zR,Nat.one_mul]];exact qLc ⟨dT (by omega),qLz g xs w _ _ _ hn hl,qLu _ (by have:=qnk (g:=g) hl (w:Nat);omega),by simp[hwl];omega,by simp[hwl];omega,l4 w (w*n) _ _ (by omega),⟨by omega,by omega⟩,trivial⟩) (qLd ⟨dF (by omega),trivial⟩)
 rw[show ((0:Nat)*n)=0 by omega]at l1;rw[hnn,zae];rw[hnn]at l1;exact l1
theorem qLB(g:Graph)(xs:List Record)(hg:g.sz≤8388608):Rt 30 [.agg g.e,.one (.sl 5 (xs.map Record.e))] [.agg (qeC g xs).1.e,.one (B (qeC g xs).2)]:=by
 have gk:=qfr g hg;cases h1:qax g with
 | false=>
  rw[h1]at gk;rw[qgQ (by unfold newOk;rw[h1];rfl)];exact qKX ⟨gk,rfl,trivial⟩
 | true=>
 rw[h1]at gk;by_cases hl:xs.length≤20
 case neg=>
  rw[qgQ (by unfold newOk;rw[zt hl,Bool.and_false];rfl)];exact qKY ⟨gk,rfl,dT (by simp;omega),trivial⟩
 rcases qLy g xs hl with⟨h2,l⟩ | ⟨h2,l⟩
 ·rw[qkd (by unfold newOk;rw[h1,h2,zap hl];rfl)];exact qLe ⟨gk,rfl,dF (by simp;omega),l,qsr g hg,by omega,by omega,by decide,by omega,qLA g xs (qa7 h1) hl,trivial⟩
 ·rw[qgQ (by unfold newOk;rw[h2];simp)];exact qK4 ⟨gk,rfl,dF (by simp;omega),l,trivial⟩
end Go.Proofs.YtdkobdhckkjmeaaGreat
namespace Go.Proofs.YtdkobdhckkjmeaaGreat
open Go.Sx Go.RowKit Go.Proofs.Tryz
def sE(e:Int)(x:Worker):Int:=x.sums.getD e.toNat 0
def bE(e:Int)(x:Worker):Bool:=x.black.getD e.toNat false
def cE(e:Int)(x:Worker):Bool:=x.caps.getD e.toNat false
def preS(e:Int)(c:Cluster)(k:Nat):Int:=((c.workers.take k).map (sE e)).sum
def infl(e:Int)(c:Cluster):Nat:=sumS (qbp e) c.links
def quiet(e:Int)(c:Cluster):Prop:=(∀x∈c.workers,qbF x e=true)∧infl e c=0
def Good(e:Int)(c:Cluster)(t:Token):Prop:=
 ((∀(i:Nat) x,t.place<i→c.workers[i]?=some x→qbF x e=true∧(cE e x=true→t.capped=true))∧preS e c (t.place+1).toNat+t.sum=infl e c)∨
 0<preS e c (t.place+1).toNat+t.sum∨(∃(i:Nat) (x:Worker),(i:Int)≤t.place∧c.workers[i]?=some x∧bE e x=true)∨t.black=true
structure Inv (e:Int) (c:Cluster):Prop where
 total:preS e c c.workers.length=infl e c
 token:∀t,tAt c e=some t→t.going=true→Good e c t
 tells:(toldW c e||toldN c e)=true→quiet e c
theorem qgE{α:Type}(f:α→Int){y:α}(x:α):∀{xs:List α} {i k:Nat},xs[i]?=some y→(((xs.set i x).take k).map f).sum=((xs.take k).map f).sum+(if i<k then f x-f y else 0)
 | [],_,_,h=>by simp at h
 | a::xs,0,0,h=>by simp
 | a::xs,0,k+1,h=>by
  obtain rfl:a=y:=by simpa using h
  simp only[List.set_cons_zero,List.take_succ_cons,zav,zcw];rw[zp (by omega)];omega
 | a::xs,i+1,0,h=>by simp
 | a::xs,i+1,k+1,h=>by
  have ih:=qgE f x (xs:=xs) (i:=i) (k:=k) (by simpa using h);simp only[List.set_cons_succ,List.take_succ_cons,zav,zcw,ih];by_cases hk:i<k
  ·rw[zp hk,zp (by omega)];omega
  ·rw[zo hk,zo (by omega)];omega
theorem qez{α:Type}{xs:List α}{i j:Nat}{y z:α}(h:(xs.set i y)[j]?=some z):(j=i∧z=y)∨(j≠i∧xs[j]?=some z):=by
 rw[zad]at h;split at h
 ·rename_i hij;split at h
  ·exact .inl ⟨hij.symm,(zx h).symm⟩
  ·cases h
 ·exact .inr ⟨fun q=>‹¬i=j› q.symm,h⟩
theorem qcL{α:Type}{xs:List α}{i:Nat}{x y:α}(h:xs[i]?=some x):(xs.set i y)[i]?=some y:=by
 rw[zad,zp rfl,zp (lt_of h)]
theorem qhU{α:Type}{xs:List α}{i j:Nat}{y z:α}(h:xs[j]?=some z)(hj:j≠i):(xs.set i y)[j]?=some z:=by
 rw[zad,zo (fun q=>hj q.symm),h]
theorem qhV{α:Type}{xs:List α}{i:Nat}{x:α}(h:xs[i]?=some x):xs.set i x=xs:=by
 have hl:=lt_of h;rw[zu hl]at h;rw[←zx h];exact List.set_getElem_self hl
theorem Inv.worker{e i:Int}{c d:Cluster}{x y:Worker}(h:Inv e c)(hx:wAt c i=some x)(hw:d.workers=c.workers.set i.toNat y)(ht:tAt d e=tAt c e)
  (htold:(toldW d e||toldN d e)=true→(toldW c e||toldN c e)=true)
  (hc:(sE e y=sE e x∧(bE e x=true→bE e y=true)∧infl e d=infl e c∧(qbF x e=true→qbF y e=true∧cE e y=cE e x))∨
   (qbF x e=false∧sE e y=sE e x+1∧(bE e x=true→bE e y=true)∧infl e d=infl e c+1)∨
   (infl e c=infl e d+1∧sE e y=sE e x-1∧bE e y=true)):Inv e d:=by
 obtain⟨i0,i1,i2⟩:=qaC hx;have hlen:d.workers.length=c.workers.length:=by rw[hw,zn]
 have hpre:∀k,preS e d k=preS e c k+(if i.toNat<k then sE e y-sE e x else 0):=fun k=>by
  unfold preS;rw[hw];exact qgE (sE e) y i2
 have hmem:x∈c.workers:=qag i2;refine⟨?_,fun t hT hg=>?_,fun hT=>?_⟩
 ·rw[hpre,hlen,zp i1,h.total];rcases hc with⟨h1,_,h3,_⟩ | ⟨_,h2,_,h4⟩ | ⟨h1,h2,_⟩<;>omega
 ·have hG:=h.token t (ht▸hT) hg;unfold Good at hG ⊢;rw[hpre];have hP3:(bE e x=true→bE e y=true)→(∃(j:Nat) (z:Worker),(j:Int)≤t.place∧c.workers[j]?=some z∧bE e z=true)→∃(j:Nat) (z:Worker),(j:Int)≤t.place∧d.workers[j]?=some z∧bE e z=true:=by
   rintro hb ⟨j,z,g1,g2,g3⟩;by_cases hj:j=i.toNat
   ·subst hj;rw[i2]at g2;cases g2;exact⟨_,y,g1,by rw[hw];exact qcL i2,hb g3⟩
   ·exact⟨j,z,g1,by rw[hw];exact qhU g2 hj,g3⟩
  rcases hc with⟨h1,h2,h3,h4⟩ | ⟨h1,h2,h3,h4⟩ | ⟨h1,h2,h3⟩
  ·rcases hG with⟨ga,gb⟩ | g | g | g
   ·refine .inl ⟨fun j z hj hz=>?_,?_⟩
    ·rw[hw]at hz;rcases qez hz with⟨rfl,rfl⟩ | ⟨_,hz⟩
     ·have:=ga _ x hj i2;obtain⟨k1,k2⟩:=h4 this.1;exact⟨k1,fun hcap=>this.2 (k2▸hcap)⟩
     ·exact ga j z hj hz
    ·split<;>omega
   ·exact .inr (.inl (by split<;>omega))
   ·exact .inr (.inr (.inl (hP3 h2 g)))
   ·exact .inr (.inr (.inr g))
  ·rcases hG with⟨ga,gb⟩ | g | g | g
   ·have hle:¬t.place<i.toNat:=fun hlt=>by
     have:=(ga _ x hlt i2).1;rw[h1]at this;cases this
    refine .inl ⟨fun j z hj hz=>?_,?_⟩
    ·rw[hw]at hz;rcases qez hz with⟨rfl,rfl⟩ | ⟨_,hz⟩
     ·exact absurd hj hle
     ·exact ga j z hj hz
    ·rw[zp (by omega)];omega
   ·exact .inr (.inl (by split<;>omega))
   ·exact .inr (.inr (.inl (hP3 h3 g)))
   ·exact .inr (.inr (.inr g))
  ·by_cases hle:(i.toNat:Int)≤t.place
   ·exact .inr (.inr (.inl ⟨i.toNat,y,hle,by rw[hw];exact qcL i2,h3⟩))
   rw[zo (by omega)];rcases hG with⟨_,gb⟩ | g | ⟨j,z,g1,g2,g3⟩ | g
   ·exact .inr (.inl (by omega))
   ·exact .inr (.inl (by omega))
   ·exact .inr (.inr (.inl ⟨j,z,g1,by rw[hw];exact qhU g2 (by omega),g3⟩))
   ·exact .inr (.inr (.inr g))
 ·obtain⟨q1,q2⟩:=h.tells (htold hT);have hp:=q1 x hmem;rcases hc with⟨_,_,h3,h4⟩ | ⟨h1,_⟩ | ⟨h1,_⟩
  ·refine⟨fun z hz=>?_,by omega⟩;rw[hw]at hz;rcases zbf hz with hz | rfl
   ·exact q1 z hz
   ·exact (h4 hp).1
  ·rw[hp]at h1;cases h1
  ·omega
theorem qcn{x:Worker}{e:Int}:qbF x e=true↔(∀r∈x.inputs,e<r.stamp.epoch)∧(∀r∈x.queue,r.stamp.epoch≠e)∧∀r∈x.staged,r.stamp.epoch≠e:=by
 simp only[qbF,qfA,qrM,qa5,zj,zS,zP,zi,zE];rw[show ∀a b:Nat,a+b=0↔a=0∧b=0 from fun a b=>by omega,List.length_eq_zero_iff,List.length_eq_zero_iff,List.filter_eq_nil_iff,List.filter_eq_nil_iff];simp only[zE,Int.not_le]
theorem qJb(g:Graph)(cs:List Cell)(r:Record):∀q∈(qau g cs r).2.1,q.stamp.epoch=r.stamp.epoch:=by
 intro q hq;unfold qau at hq;split at hq
 ·rename_i n _;unfold qas at hq;have hs:∀s:Stamp,s.epoch=r.stamp.epoch→∀k v,q∈sends n s k v→q.stamp.epoch=r.stamp.epoch:=by
   intro s hse k v hm;simp only[sends,zbm]at hm;obtain⟨o,_,rfl⟩:=hm;exact hse
  have hn:(qaG r.stamp).1.epoch=r.stamp.epoch:=by
   unfold qaG;split<;>rfl
  grind
 ·cases hq
theorem qfH{α:Type}{xs:List α}{i j:Nat}{a d:α}(h:i≠j):(xs.set i a).getD j d=xs.getD j d:=by
 simp only[zN,zad,zo h]
theorem qj6{α:Type}{xs:List α}{i:Nat}{a d:α}(h:i<xs.length):(xs.set i a).getD i d=a:=by
 simp[zN,h]
theorem qm5{c:Cluster}{i e:Int}{l m:Link}(h:lAt c i=some l):infl e (setL c i m)+qbp e l=infl e c+qbp e m:=by
 unfold infl;exact qj5 m (qbl h).2.2
theorem qJc(e cap:Int)(q:List Record)(r:Record)(a b s g:Int)(l:Link)(hl:l.queue=q):qbp e ⟨cap,q++[r],a,b,s,g⟩=qbp e l+(if r.stamp.epoch=e then 1 else 0):=by
 simp only[qbp,qa5,List.filter_append,zab,hl,List.filter_cons,List.filter_nil,zE];split<;>rfl
theorem qJd(e:Int)(r:Record)(q:List Record)(l:Link)(hl:l.queue=r::q)(cap a b s g:Int):qbp e l=qbp e ⟨cap,q,a,b,s,g⟩+(if r.stamp.epoch=e then 1 else 0):=by
 simp only[qbp,qa5,hl,List.filter_cons,zE];split<;>simp
theorem qdc{c d:Cluster}{i e:Int}{x y:Worker}(hx:wAt c i=some x)(hd:d.workers=c.workers.set i.toNat y)(h:qaz y e=true→qaz x e=true∨toldN c e=true)(hn:toldN d e=true→toldN c e=true):
  (toldW d e||toldN d e)=true→(toldW c e||toldN c e)=true:=by
 simp only[zbi];rintro (hw | hw)
 ·unfold toldW at hw ⊢;rw[hd,zcj]at hw;obtain⟨z,hz,hdz⟩:=hw;rcases zbf hz with hz | rfl
  ·exact .inl (zcj.2 ⟨z,hz,hdz⟩)
  ·rcases h hdz with h1 | h1
   ·exact .inl (zcj.2 ⟨x,qag (qaC hx).2.2,h1⟩)
   ·exact .inr h1
 ·exact .inr (hn hw)
theorem qfI{a b:Int}(ha:0≤a)(hb:0≤b)(h:a≠b):a.toNat≠b.toNat:=by omega
theorem qsg{e f d:Int}(he:0≤e∧e≤3)(hf:0≤f∧f≤3){xs:List Int}(hl:xs.length=4):(incAt xs f d).getD e.toNat 0=xs.getD e.toNat 0+(if f=e then d else 0):=by
 unfold incAt;by_cases h:f=e
 ·subst h;rw[qj6 (by omega),zp rfl]
 ·rw[qfH (qfI hf.1 he.1 h),zo h];omega
theorem qhW{g:Graph}{w:Worker}(h:qaJ g w=true):w.sums.length=4∧w.black.length=4∧w.caps.length=4:=by
 obtain⟨_,_,_,_,h5,h6,h7,_⟩:=qbd.1 h;exact⟨h5,h6,h7⟩
theorem qm6{g:Graph}{xs:List Record}(h:qaV g xs=true){r:Record}(hr:r∈xs):0≤r.stamp.epoch∧r.stamp.epoch≤3:=by
 simp only[qaV,zS,zP]at h;exact qdB (g:=g) (by simpa using h r hr)
theorem qeA{x:Worker}{e f:Int}{b:Bool}:qaz (told x f b) e=(qaz x e||f==e):=by
 simp[qaz,told]
theorem qj7{x:Worker}{n:News}{e:Int}:qaz (hears x n) e=(qaz x e||n.epoch==e):=by
 unfold hears;split
 ·rename_i h;by_cases he:n.epoch=e
  ·subst he;rw[h];rfl
  ·have:(n.epoch==e)=false:=by simpa using he
   rw[this,Bool.or_false]
 ·exact qeA
theorem qJe{x:Worker}{n:News}{e:Int}:qbF (hears x n) e=qbF x e:=by
 unfold hears;split<;>rfl
theorem qj8{x:Worker}{n:News}{e:Int}:sE e (hears x n)=sE e x∧bE e (hears x n)=bE e x∧cE e (hears x n)=cE e x:=by
 unfold hears;split<;>exact⟨rfl,rfl,rfl⟩
theorem qj9{e:Int}{c:Cluster}{k:Nat}{x:Worker}(h:c.workers[k]?=some x):preS e c (k+1)=preS e c k+sE e x:=by
 simp[preS,zbe,h]
theorem qeB{c:Cluster}{e f:Int}{t:Token}(he:0≤e)(hf:0≤f)(h:f≠e):(if 0≤e then (c.tokens.set f.toNat t)[e.toNat]? else none)=tAt c e:=by
 unfold tAt;rw[zad,zo (qfI hf he h)]
theorem qsh{c:Cluster}{e f:Int}{n:Nat}{b:Bool}(h:f≠e):((c.news++qaR n f b).any fun x=>x.epoch==e)=toldN c e:=by
 rw[List.any_append];have:((qaR n f b).any fun x=>x.epoch==e)=false:=by
  rw[zP];intro x hx;simp only[qaR,zbm]at hx;obtain⟨_,_,rfl⟩:=hx;simpa using h
 rw[this,Bool.or_false];rfl
theorem Inv.tokenOther{e f:Int}{c:Cluster}{t:Token}{x:Worker}(h:Inv e c)(he:0≤e)(hf:0≤f)(hne:f≠e)(hx:wAt c t.place=some x):Inv e (tokenAt c f t x).1:=by
 have white:bE e (qaA x f)=bE e x:=by
  unfold bE qaA;exact qfH (qfI hf he hne)
 rcases qcW c f t x with⟨_,h2⟩ | ⟨_,_,h1⟩
 ·rw[h2];exact h
 rcases h1 with⟨_,h2⟩ | ⟨_,_,h2⟩ | ⟨_,h0,_,h2⟩ | ⟨_,_,_,h2⟩
 ·rw[h2];exact h.worker hx rfl (qeB he hf hne) (qdc hx rfl (fun k=>.inl k) id) (.inl ⟨rfl,fun k=>white.trans k,rfl,fun k=>⟨k,rfl⟩⟩)
 ·rw[h2];exact h.worker hx rfl (qeB he hf hne) (qdc hx rfl (fun k=>.inl k) id) (.inl ⟨rfl,fun k=>white.trans k,rfl,fun k=>⟨k,rfl⟩⟩)
 ·rw[h2];have hz:t.place=0:=by have:=(qaC hx).1;omega
  rw[hz]at hx;refine h.worker hx rfl (qeB he hf hne) (qdc hx rfl (fun k=>?_) (fun k=>(qsh hne).symm.trans k)) (.inl ⟨rfl,id,rfl,fun k=>⟨k,rfl⟩⟩);rw[qeA]at k;have:(f==e)=false:=by simpa using hne
  rw[this,Bool.or_false]at k;exact .inl k
 ·rw[h2];exact h.worker (y:=x) hx (qhV (qaC hx).2.2).symm (qeB he hf hne) (qdc hx (qhV (qaC hx).2.2).symm (fun k=>.inl k) id) (.inl ⟨rfl,id,rfl,fun k=>⟨k,rfl⟩⟩)
theorem qJf{n:Int}(h:0≤n):(n+1).toNat=n.toNat+1:=by omega
theorem qJg{n:Int}:(n-1+1).toNat=n.toNat:=by rw[Int.sub_add_cancel]
theorem qhX{c:Cluster}{e:Int}{t u:Token}(h:tAt c e=some t):(if 0≤e then (c.tokens.set e.toNat u)[e.toNat]? else none)=some u:=by
 obtain⟨h0,_,h2⟩:=qfC h;rw[zp h0];exact qcL h2
theorem Inv.over{e:Int}{c:Cluster}{t:Token}{x:Worker}(h:Inv e c)(ht:tAt c e=some t)(hg:t.going=true)(h0:¬0<t.place)(hx:wAt c t.place=some x)(hp:qbF x e=true)
  (hb:t.black=false∧x.black.getD e.toNat false=false∧t.sum+x.sums.getD e.toNat 0=0):quiet e c∧((t.capped||cE e x)=false→∀z∈c.workers,cE e z=false):=by
 have hz:t.place=0:=by have:=(qaC hx).1;omega
 obtain⟨_,_,x2⟩:=qaC hx;rw[hz]at x2;have hs:preS e c 1=sE e x:=by rw[qj9 (k:=0) x2];simp[preS]
 have hG:=h.token t ht hg;unfold Good at hG;rw[hz]at hG;change ((_∧preS e c 1+t.sum=_)∨0<preS e c 1+t.sum∨_) at hG;rw[hs]at hG;have hb3:t.sum+sE e x=0:=hb.2.2;rcases hG with⟨ga,gb⟩ | g | ⟨i,z,g1,g2,g3⟩ | g
 ·have key:∀z∈c.workers,qbF z e=true∧(cE e z=true→(t.capped||cE e x)=true):=by
   intro z hz;obtain⟨i,hi⟩:=List.getElem?_of_mem hz;by_cases h1:i=0
   ·subst h1;rw[show c.workers[0]?=some x from x2]at hi;cases hi;exact⟨hp,fun k=>by rw[k,Bool.or_true]⟩
   ·obtain⟨k1,k2⟩:=ga i z (by omega) hi;exact⟨k1,fun k=>by rw[k2 k,Bool.true_or]⟩
  refine⟨⟨fun z hz=>(key z hz).1,by omega⟩,fun hcap z hz=>?_⟩;cases hcz:cE e z with
  | false=>rfl
  | true=>rw[(key z hz).2 hcz]at hcap;cases hcap
 ·omega
 ·have:i=0:=by omega
  subst this;rw[show c.workers[0]?=some x from x2]at g2;cases g2;rw[show bE e x=false from hb.2.1]at g3;cases g3
 ·rw[hb.1]at g;cases g
theorem Inv.tokenOwn{e:Int}{c:Cluster}{t:Token}{x:Worker}(h:Inv e c)(hok:qai c=true)(ht:tAt c e=some t)(hx:wAt c t.place=some x):Inv e (tokenAt c e t x).1:=by
 obtain⟨i0,i1,i2⟩:=qaC hx;obtain⟨_,_,hrest,_⟩:=qdC.1 (qgA hok ht);rcases qcW c e t x with⟨_,h2⟩ | ⟨_,hp,h1⟩
 ·rw[h2];exact h
 have whole:∀u:Token,(u.going=true→Good e (setW (setT c e u) t.place (qaA x e)) u)→Inv e (setW (setT c e u) t.place (qaA x e)):=by
  intro u hu;have hpre:∀k,preS e (setW (setT c e u) t.place (qaA x e)) k=preS e c k:=fun k=>by
   have:=qgE (sE e) (qaA x e) (k:=k) i2;rw[show sE e (qaA x e)=sE e x from rfl,Int.sub_self,ite_self,Int.add_zero]at this;exact this
  refine⟨?_,fun t' hT hg=>?_,fun hT=>?_⟩
  ·rw[hpre,show (setW (setT c e u) t.place (qaA x e)).workers.length=c.workers.length from zn];exact h.total
  ·rw[show tAt (setW (setT c e u) t.place (qaA x e)) e=some u from qhX ht]at hT;cases hT;exact hu hg
  ·obtain⟨q1,q2⟩:=h.tells (qdc (c:=c) (d:=setW (setT c e u) t.place (qaA x e)) hx rfl (fun k=>.inl k) id hT);refine⟨fun z hz=>?_,q2⟩;rcases zbf hz with hz | rfl
   ·exact q1 z hz
   ·exact hp
 have pre':∀(u:Token) k,preS e (setW (setT c e u) t.place (qaA x e)) k=preS e c k:=fun u k=>by
  have:=qgE (sE e) (qaA x e) (k:=k) i2;rw[show sE e (qaA x e)=sE e x from rfl,Int.sub_self,ite_self,Int.add_zero]at this;exact this
 rcases h1 with⟨hg,h2⟩ | ⟨hg,h0,h2⟩ | ⟨hg,h0,hb,h2⟩ | ⟨hg,h0,hb,h2⟩
 ·rw[h2];refine whole _ fun _=>.inl ⟨fun j z hj hz=>?_,?_⟩
  ·have:=lt_of hz;rw[show (setW (setT c e _) t.place (qaA x e)).workers.length=c.workers.length from zn]at this;change (c.workers.length:Int)-1<j at hj;omega
  ·rw[pre'];change preS e c ((c.workers.length:Int)-1+1).toNat+0=infl e c;rw[show ((c.workers.length:Int)-1+1).toNat=c.workers.length by omega,Int.add_zero];exact h.total
 ·rw[h2];have hG:=h.token t ht hg;refine whole _ fun _=>?_
  unfold Good at hG ⊢;rw[pre'];change ((∀(i:Nat) z,t.place-1<i→_→_)∧preS e c (t.place-1+1).toNat+(t.sum+sE e x)=infl e c)∨0<preS e c (t.place-1+1).toNat+(t.sum+sE e x)∨(∃(i:Nat) (z:Worker),(i:Int)≤t.place-1∧_)∨(t.black||bE e x)=true;rw[qJf i0,qj9 i2]at hG;rw[qJg];rcases hG with⟨ga,gb⟩ | g | ⟨i,z,g1,g2,g3⟩ | g
  ·refine .inl ⟨fun j z hj hz=>?_,by omega⟩;change (c.workers.set t.place.toNat (qaA x e))[j]?=some z at hz;rcases qez hz with⟨rfl,rfl⟩ | ⟨hne,hz⟩
   ·exact⟨hp,fun k=>by change (t.capped||cE e x)=true;rw[show cE e x=true from k,Bool.or_true]⟩
   ·obtain⟨k1,k2⟩:=ga j z (by omega) hz;exact⟨k1,fun k=>by change (t.capped||cE e x)=true;rw[k2 k,Bool.true_or]⟩
  ·exact .inr (.inl (by omega))
  ·by_cases hi:i=t.place.toNat
   ·subst hi;rw[i2]at g2;cases g2;exact .inr (.inr (.inr (by rw[g3,Bool.or_true])))
   ·exact .inr (.inr (.inl ⟨i,z,by omega,qhU g2 hi,g3⟩))
  ·exact .inr (.inr (.inr (by rw[g,Bool.true_or])))
 ·rw[h2];obtain⟨⟨q1,q2⟩,_⟩:=h.over ht hg h0 hx hp hb;have hz:t.place=0:=by omega
  rw[hz]at i2 i1;have hpre:∀k,((((c.workers.set 0 (told x e (t.capped||x.caps.getD e.toNat false))).take k).map (sE e)).sum)=preS e c k:=fun k=>by
   have:=qgE (sE e) (told x e (t.capped||x.caps.getD e.toNat false)) (k:=k) i2;rw[show sE e (told x e (t.capped||x.caps.getD e.toNat false))=sE e x from rfl,Int.sub_self,ite_self,Int.add_zero]at this;exact this
  refine⟨?_,fun t' hT hg'=>?_,fun _=>⟨fun z hz=>?_,q2⟩⟩
  ·refine (hpre _).trans ?_;rw[show (setN (setW (setT c e ⟨false,t.place,t.sum,t.black,t.capped⟩) 0 (told x e (t.capped||x.caps.getD e.toNat false))) (c.news++qaR (c.workers.length-1) e (t.capped||x.caps.getD e.toNat false))).workers.length=c.workers.length from zn];exact h.total
  ·change (if 0≤e then (c.tokens.set e.toNat _)[e.toNat]? else none)=some t' at hT;rw[qhX ht]at hT;cases hT;cases hg'
  ·rcases zbf hz with hz | rfl
   ·exact q1 z hz
   ·exact hp
 ·rw[h2];refine⟨h.total,fun t' hT hg'=>?_,h.tells⟩;change (if 0≤e then (c.tokens.set e.toNat _)[e.toNat]? else none)=some t' at hT;rw[qhX ht]at hT;cases hT;cases hg'
theorem Inv.step{e:Int}{c d:Cluster}{p:Pick}(h:Inv e c)(he:0≤e∧e≤3)(hok:qai c=true)(st:Step c p d):Inv e d:=by
 cases st with
 | work x r q hk hx hs hq=>
  have wk:=qbu hok hx;obtain⟨_,_,hl⟩:=qhW wk;refine h.worker hx rfl rfl (qdc hx rfl (fun k=>.inl k) id) (.inl ⟨rfl,id,rfl,fun k=>?_⟩);obtain⟨k1,k2,k3⟩:=qcn.1 k;rw[hq]at k2;have kr:=k2 r (zm ..);refine⟨qcn.2 ⟨k1,fun a ha=>k2 a (zg _ ha),fun a ha=>?_⟩,?_⟩
  ·rw[qJb _ _ _ a ha];exact kr
  ·have hr:=qm6 (qbd.1 wk).1 (r:=r) (by rw[hq];exact zm ..);unfold cE;dsimp only;split
   ·exact qfH (qfI hr.1 he.1 kr)
   ·rfl
 | input x r t hk hx hs hq hi=>
  refine h.worker hx rfl rfl (qdc hx rfl (fun k=>.inl k) id) (.inl ⟨rfl,id,rfl,fun k=>⟨?_,rfl⟩⟩);obtain⟨k1,k2,k3⟩:=qcn.1 k;rw[hi]at k1;refine qcn.2 ⟨fun a ha=>k1 a (zg _ ha),fun a ha=>?_,fun a ha=>by cases ha⟩;obtain rfl:a=r:=by simpa using ha
  have:=k1 a (zm ..);omega
 | keep x r t hk hx hs ho=>
  refine h.worker hx rfl rfl (qdc hx rfl (fun k=>.inl k) id) (.inl ⟨rfl,id,rfl,fun k=>⟨?_,rfl⟩⟩);obtain⟨k1,k2,k3⟩:=qcn.1 k;rw[hs]at k3;refine qcn.2 ⟨k1,fun a ha=>?_,fun a ha=>k3 a (zg _ ha)⟩;rcases zaz.1 ha with ha | ha
  ·exact k2 a ha
  ·obtain rfl:a=r:=by simpa using ha
   exact k3 a (zm ..)
 | send x r t l hk hx hs ho hl hsend=>
  obtain⟨_,_,_,e1⟩:=qhT hsend;have wk:=qbu hok hx;obtain⟨hl4,_,_⟩:=qhW wk;have hr:=qm6 (qbd.1 wk).2.1 (r:=r) (by rw[hs];exact zm ..);have hf:=qm5 (e:=e) (m:=(qay l r).1) hl;have hs4:sE e (qbY (qbf x t) r.stamp.epoch)=sE e x+(if r.stamp.epoch=e then 1 else 0):=qsg he hr hl4;rw[e1,qJc e _ _ r _ _ _ _ l rfl]at hf;refine h.worker hx (d:=setW (setL c _ (qay l r).1) p.a _) rfl rfl (qdc hx rfl (fun k=>.inl k) id) ?_;have hfl:infl e (setW (setL c (qav c.graph p.a (qaw r.key c.graph.workers)) (qay l r).1) p.a (qbY (qbf x t) r.stamp.epoch))=infl e c+(if r.stamp.epoch=e then 1 else 0):=by
   rw[e1];change infl e (setL c _ _)=_;omega
  by_cases hre:r.stamp.epoch=e
  ·rw[zp hre]at hs4 hfl;refine .inr (.inl ⟨?_,hs4,id,hfl⟩);rw[zQ];intro k;obtain⟨_,_,k3⟩:=qcn.1 k;exact k3 r (by rw[hs];exact zm ..) hre
  ·rw[zo hre]at hs4 hfl;refine .inl ⟨by omega,id,by omega,fun k=>⟨?_,rfl⟩⟩;obtain⟨k1,k2,k3⟩:=qcn.1 k;rw[hs]at k3;exact qcn.2 ⟨k1,k2,fun a ha=>k3 a (zg _ ha)⟩
 | take l x hk hab hl hx ht=>
  obtain⟨_,r,q,hq,e2,e1⟩:=qfE ht;have wk:=qbu hok hx;obtain⟨hl4,hb4,_⟩:=qhW wk;have hr:=qdB (qj0 (qda hok hl) ht).2;rw[e2]at hr;have hf:=qm5 (e:=e) (m:=(qaq l).1) hl;have hs4:sE e (received x r)=sE e x+(if r.stamp.epoch=e then -1 else 0):=qsg he hr hl4;rw[e1,qJd e r q l hq l.cap l.credits (l.back+1) l.sent (l.got+1)]at hf;rw[e2];refine h.worker hx (d:=setW (setL c _ (qaq l).1) p.b _) rfl rfl (qdc hx rfl (fun k=>.inl k) id) ?_;have hfl:infl e (setW (setL c (qav c.graph p.a p.b) (qaq l).1) p.b (received x r))+(if r.stamp.epoch=e then 1 else 0)=infl e c:=by
   rw[e1];change infl e (setL c _ _)+_=_;omega
  by_cases hre:r.stamp.epoch=e
  ·rw[zp hre]at hs4 hfl;refine .inr (.inr ⟨hfl.symm,by omega,?_⟩);unfold bE received;dsimp only;rw[hre];exact qj6 (by omega)
  ·rw[zo hre]at hs4 hfl;refine .inl ⟨by omega,fun k=>?_,by omega,fun k=>⟨?_,rfl⟩⟩
   ·unfold bE received;dsimp only;rw[qfH (qfI hr.1 he.1 hre)];exact k
   ·obtain⟨k1,k2,k3⟩:=qcn.1 k;refine qcn.2 ⟨k1,fun a ha=>?_,k3⟩;rcases zaz.1 ha with ha | ha
    ·exact k2 a ha
    ·obtain rfl:a=r:=by simpa using ha
     exact hre
 | credit l hk hab hl hc=>
  rcases qfF l with⟨k,_⟩ | ⟨_,_,_,e1⟩
  ·rw[hc]at k;cases k
  have hf:=qm5 (e:=e) (m:=(qaQ l).1) hl;have h2:qbp e (qaQ l).1=qbp e l:=by rw[e1];rfl
  have h3:infl e (setL c (qav c.graph p.a p.b) (qaQ l).1)=infl e c:=by omega
  refine⟨by rw[h3];exact h.total,fun t hT hg=>?_,fun hT=>⟨(h.tells hT).1,by rw[h3];exact (h.tells hT).2⟩⟩;have hG:=h.token t hT hg;unfold Good at hG ⊢;rw[h3];exact hG
 | token t x x0 hk hin h0 hd ht hx hdid=>
  simp only[inR,zi]at hin;by_cases hpe:p.a=e
  ·subst hpe;exact h.tokenOwn hok ht hx
  ·exact h.tokenOther he.1 hin.1 hpe hx
 | hear k n x hk hn hd hx=>
  obtain⟨k1,k2,k3⟩:=qj8 (x:=x) (n:=n) (e:=e);refine h.worker hx rfl rfl (qdc hx rfl (fun q=>?_) (fun q=>?_)) (.inl ⟨k1,fun q=>k2.trans q,rfl,fun q=>⟨qJe.trans q,k3⟩⟩)
  ·rw[qj7,zbi]at q;rcases q with q | q
   ·exact .inl q
   ·exact .inr (zcj.2 ⟨n,qag hn,q⟩)
  ·unfold toldN at q ⊢;rw[zcj]at q ⊢;obtain⟨m,hm,q⟩:=q;refine⟨m,?_,q⟩;change m∈cutAt c.news k at hm;unfold cutAt at hm;rcases zaz.1 hm with hm | hm
   ·exact zbh hm
   ·exact zbn hm
end Go.Proofs.YtdkobdhckkjmeaaGreat
