/- ClusterNew: what program and reference compute. -/
import Derived.Test.YtenekpkjlgddnaaGreatP51
import Derived.Test.YtenekpkjlgddnaaGreatP43
import Derived.Test.YtenekpkjlgddnaaGreatP9
import Derived.Test.YtenekpkjlgddnaaGreatP7
import Derived.Test.YtenekpkjlgddnaaGreatGY
set_option linter.unusedVariables false
set_option linter.unusedSimpArgs false
namespace Go.Proofs.YtenekpkjlgddnaaGreat
open Go.Sx Go.RowKit Go.Proofs.Tryz
def qcI(r:Record):Bool:=!qao r||r.op != 0||r.stamp.turn != 0
def ownAt(g:Graph)(xs:List Record)(w e:Int):List Record:=xs.filter fun r=>r.stamp.epoch==e&&qbk r.key g.workers==w
def ownTo(g:Graph)(xs:List Record)(w:Int)(n:Nat):List Record:=(List.range n).flatMap fun e=>ownAt g xs w (e:Nat)
def own(g:Graph)(xs:List Record)(w:Int):List Record:=ownTo g xs w 4
def qgd(xs:List Record):Worker:=⟨[],[],xs,[],List.replicate 4 0,List.replicate 4 false,List.replicate 4 false,[]⟩
def qdb(cap:Int):Link:=⟨qcC cap 1 4,[],qcC cap 1 4,0,0,0⟩
def tok0:Token:=⟨false,0,0,false,false⟩
def qcu(g:Graph)(xs:List Record)(n:Nat):List Worker:=(List.range n).map fun w=>qgd (own g xs (w:Nat))
def qcJ(g:Graph)(xs:List Record):Cluster:=⟨g,qcu g xs g.workers.toNat,List.replicate (g.workers.toNat*g.workers.toNat) (qdb g.cap),List.replicate 4 tok0,[]⟩
def qlN:Cluster:=⟨⟨[],0,0⟩,[],[],[],[]⟩
def newOk(g:Graph)(xs:List Record):Bool:=qak g&&decide (xs.length≤20)&&!xs.any qcI
def qen(g:Graph)(xs:List Record):Cluster×Bool:=if newOk g xs then (qcJ g xs,true) else (qlN,false)
theorem qxs(g:Graph)(xs:List Record)(w:Int)(n:Nat):ownTo g xs w (n+1)=ownTo g xs w n++ownAt g xs w (n:Nat):=by
 simp[ownTo,List.range_succ]
theorem qlO(g:Graph)(xs:List Record)(w:Int)(n:Nat):(ownTo g xs w n).length≤n*xs.length:=by
 have h:=qkA (fun e:Nat=>ownAt g xs w (e:Nat)) xs.length (fun _=>zat _ _) (List.range n)
 rwa[zct]at h
theorem qlP{g:Graph}{xs:List Record}(hl:xs.length≤20)(w:Int):(own g xs w).length≤80:=by
 have:=qlO g xs w 4
 unfold own
 omega
theorem qxt{g:Graph}{xs:List Record}(hl:xs.length≤20)(w:Int){n:Nat}(hn:n<4):(ownTo g xs w n).length≤60:=by
 have:=qlO g xs w n
 have:n*xs.length≤3*20:=Nat.mul_le_mul (by omega) hl
 omega
theorem qxu(g:Graph)(xs:List Record)(n:Nat):qcu g xs (n+1)=qcu g xs n++[qgd (own g xs (n:Nat))]:=by
 simp[qcu,List.range_succ]
theorem qin(g:Graph)(xs:List Record)(n:Nat):(qcu g xs n).length=n:=by simp[qcu]
theorem qxv{α:Type}{f:α→List D}{x:α}{m:Nat}:(List.replicate m x).map f++[f x]=(List.replicate (m+1) x).map f:=by
 rw[List.replicate_succ',zU];rfl
theorem qxw(cap:Int):Rt 17 [.one (I cap)] [.agg (qdb cap).e]:=qxq ⟨qkx cap 1 4,trivial⟩
theorem qxx(xs:List Record)(hl:xs.length≤1000):Rt 15 [.one (.sl 5 (xs.map Record.e))] [.agg (qgd xs).e]:=
 qxr ⟨nl _ (by simp;omega),nl1 _ (by simp;omega),qaM _ Record.flat _,by omega,by omega,by decide,by omega,by omega,by omega,by decide,by omega,by omega,by omega,by decide,by omega,trivial⟩
theorem qxy(g:Graph)(xs:List Record)(w:Int)(hn:1≤g.workers∧g.workers≤4)(hl:xs.length≤20):Rt 16 [.agg g.e,.one (.sl 5 (xs.map Record.e)),.one (I w)] [.one (.sl 5 ((own g xs w).map Record.e))]:=by
 have l1:=fun (e:Nat) (he:e<4) (acc:List Record) (ha:acc.length≤100)=>qaT (P:=prog) (c:=(qab f16 1)) (qaj 2) xs.length (fun i:Nat=>qcH (g.nodes.map Node.e) g.workers g.cap (xs.map Record.e) w e i ((acc++(xs.take i).filter fun r=>r.stamp.epoch==(e:Int)&&qbk r.key g.workers==w).map Record.e)) (fun i hi=>by
  obtain⟨r,hr⟩:=qah hi
  have hf:((xs.take i).filter fun r=>r.stamp.epoch==(e:Int)&&qbk r.key g.workers==w).length≤20:=by
   have:=zat (fun r:Record=>r.stamp.epoch==(e:Int)&&qbk r.key g.workers==w) (xs.take i)
   have:=qlE i xs
   omega
  rw[qfP _ hr]
  generalize (xs.take i).filter (fun r=>r.stamp.epoch==(e:Int)&&qbk r.key g.workers==w)=fs at*
  have ow:=qu4 r.key g.workers (by omega)
  cases h1:(r.stamp.epoch==(e:Int)) with
  | false=>
   rw[Bool.false_and,zo (by decide),zaa]
   exact qxl ⟨lt1 hi,lt0,lt2 hi,qad Record.e hr,h1,up1 hi (by omega),trivial⟩
  | true=>
   cases h2:(qbk r.key g.workers==w) with
   | false=>
    rw[Bool.and_false,zo (by decide),zaa]
    exact qxk ⟨lt1 hi,lt0,lt2 hi,qad Record.e hr,h1,lt0,lt2 hi,qad Record.e hr,ow,h2,up1 hi (by omega),trivial⟩
   | true=>
    rw[zcs,zp rfl,←zba,qlB]
    exact qxj ⟨lt1 hi,lt0,lt2 hi,qad Record.e hr,h1,lt0,lt2 hi,qad Record.e hr,ow,h2,lt0,lt2 hi,qad Record.e hr,by simp;omega,by simp;omega,qbA (Record.flat r),up1 hi (by omega),trivial⟩) (qxm ⟨ge1,trivial⟩)
 have l0:=qaT (P:=prog) (c:=(qab f16 0)) (qaj 0) 4 (fun n:Nat=>qe4 (g.nodes.map Node.e) g.workers g.cap (xs.map Record.e) w n ((ownTo g xs w n).map Record.e)) (fun n hn=>by
  have:=l1 n hn (ownTo g xs w n) (by have:=qxt (g:=g) hl w hn;omega)
  rw[zC,List.take_zero,List.filter_nil,zaa]at this
  rw[qxs]
  exact qxn ⟨dT (by omega),this,⟨by omega,by omega⟩,trivial⟩) (qxo ⟨dF (by omega),trivial⟩)
 exact qxp ⟨l0,trivial⟩
theorem qio{g:Graph}{xs:List Record}(h:newOk g xs=false):qen g xs=(qlN,false):=by unfold qen;rw[h];rfl
theorem qlQ{g:Graph}{xs:List Record}(h:newOk g xs=true):qen g xs=(qcJ g xs,true):=by unfold qen;rw[h];rfl
theorem qxz(g:Graph)(xs:List Record)(hl:xs.length≤20):
  (xs.any qcI=false∧qai prog (qab f6 0) (qce (xs.map Record.e) 0 0 0 (g.nodes.map Node.e) g.workers g.cap) (.exit 0) (qil (xs.map Record.e) 0 0 (g.nodes.map Node.e) g.workers g.cap))∨
  (xs.any qcI=true∧qai prog (qab f6 0) (qce (xs.map Record.e) 0 0 0 (g.nodes.map Node.e) g.workers g.cap) .ret (qel false 0 0)):=by
 have l:=qa7 (P:=prog) (c:=(qab f6 0)) xs qcI (fun i=>qce (xs.map Record.e) i 0 0 (g.nodes.map Node.e) g.workers g.cap) (e1:=.ret) (e2:=.exit 0) (X:=fun _ _=>qel false 0 0) qaE (qaj 0)
  (fun i a ha h=>by
   simp only[qcI,zy]at h
   have hi:=lt_of ha
   exact qxb ⟨lt1 hi,lt0,lt2 hi,qad Record.e ha,qkY a,h.1.1,lt0,lt2 hi,qad Record.e ha,h.1.2,lt0,lt2 hi,qad Record.e ha,h.2,up1 hi (by omega),trivial⟩)
  (fun i a ha h=>by
   have hi:=lt_of ha
   have kr:=qkY a
   unfold qcI at h
   cases h1:(!qao a) with
   | true=>exact qw8 ⟨lt1 hi,lt0,lt2 hi,qad Record.e ha,kr,h1,trivial⟩
   | false=>
    cases h2:(a.op != 0) with
    | true=>exact qw9 ⟨lt1 hi,lt0,lt2 hi,qad Record.e ha,kr,h1,lt0,lt2 hi,qad Record.e ha,h2,trivial⟩
    | false=>
     rw[h1,h2,zal,zal]at h
     exact qxa ⟨lt1 hi,lt0,lt2 hi,qad Record.e ha,kr,h1,lt0,lt2 hi,qad Record.e ha,h2,lt0,lt2 hi,qad Record.e ha,h,trivial⟩)
  (qxc ⟨ge1,trivial⟩)
 rcases l with⟨_,_,h1,h2⟩ | ⟨i,a,_,_,_,_,h1,h2⟩
 ·exact .inl ⟨h1,h2⟩
 ·exact .inr ⟨h1,h2⟩
theorem qxA(g:Graph)(xs:List Record)(hn:1≤g.workers∧g.workers≤4)(hl:xs.length≤20):
  qai prog (qab f6 1) (qem (xs.map Record.e) 0 (g.nodes.map Node.e) g.workers g.cap [] [] ((List.replicate 4 tok0).map Token.e) 0 0 (g.nodes.map Node.e) g.workers g.cap) (.exit 2)
   (qim (g.nodes.map Node.e) g.workers g.cap ((qcu g xs g.workers.toNat).map Worker.e) ((List.replicate (g.workers.toNat*g.workers.toNat) (qdb g.cap)).map Link.e) ((List.replicate 4 tok0).map Token.e) 0 0):=by
 obtain⟨n,hnn⟩:∃n:Nat,g.workers=n:=⟨g.workers.toNat,by omega⟩
 have hn4:n≤4:=by omega
 have l2:=fun (w:Nat) (m:Nat) (W T:List (List D)) (hm:m≤16)=>qaT (P:=prog) (c:=(qab f6 2)) (qaj 4) n (fun k:Nat=>qe3 (xs.map Record.e) w k (g.nodes.map Node.e) g.workers g.cap W ((List.replicate (m+k) (qdb g.cap)).map Link.e) T 0 0 (g.nodes.map Node.e) g.workers g.cap) (fun k hk=>by
  rw[←zcv,←qxv]
  exact qxe ⟨dT (by omega),qxw g.cap,by simp;omega,by simp;omega,⟨by omega,by omega⟩,trivial⟩) (qxf ⟨dF (by omega),trivial⟩)
 have l1:=qaT (P:=prog) (c:=(qab f6 1)) (qaj 2) n (fun w:Nat=>qem (xs.map Record.e) w (g.nodes.map Node.e) g.workers g.cap ((qcu g xs w).map Worker.e) ((List.replicate (w*n) (qdb g.cap)).map Link.e) ((List.replicate 4 tok0).map Token.e) 0 0 (g.nodes.map Node.e) g.workers g.cap) (fun w hw=>by
  have hwl:=qin g xs w
  have hm:w*n≤3*4:=Nat.mul_le_mul (by omega) hn4
  rw[qxu,qlB,show (w+1)*n=w*n+n by rw[zR,Nat.one_mul]]
  exact qxg ⟨dT (by omega),qxy g xs w hn hl,qxx _ (by have:=qlP (g:=g) hl (w:Nat);omega),by simp[hwl];omega,by simp[hwl];omega,l2 w (w*n) _ _ (by omega),⟨by omega,by omega⟩,trivial⟩) (qxh ⟨dF (by omega),trivial⟩)
 rw[show ((0:Nat)*n)=0 by omega]at l1
 rw[hnn,zae]
 rw[hnn]at l1
 exact l1
theorem qxB(g:Graph)(xs:List Record)(hg:g.sz≤8388608):Rt 6 [.agg g.e,.one (.sl 5 (xs.map Record.e))] [.agg (qen g xs).1.e,.one (B (qen g xs).2)]:=by
 have gk:=qts g hg
 cases h1:qak g with
 | false=>
  rw[h1]at gk
  rw[qio (by unfold newOk;rw[h1];rfl)]
  exact qw6 ⟨gk,rfl,trivial⟩
 | true=>
 rw[h1]at gk
 by_cases hl:xs.length≤20
 case neg=>
  rw[qio (by unfold newOk;rw[zt hl,Bool.and_false];rfl)]
  exact qw7 ⟨gk,rfl,dT (by simp;omega),trivial⟩
 rcases qxz g xs hl with⟨h2,l⟩ | ⟨h2,l⟩
 ·rw[qlQ (by unfold newOk;rw[h1,h2,zap hl];rfl)]
  exact qxi ⟨gk,rfl,dF (by simp;omega),l,qw0 g hg,by omega,by omega,by decide,by omega,qxA g xs (qcF h1) hl,trivial⟩
 ·rw[qio (by unfold newOk;rw[h2];simp)]
  exact qxd ⟨gk,rfl,dF (by simp;omega),l,trivial⟩
end Go.Proofs.YtenekpkjlgddnaaGreat
