/- The runs alone: what program and reference compute; the laws AloneSteps, AloneRun, AloneOuts answer true. -/
import Derived.Test.YtenekpkjlgddnaaP16
import Derived.Test.YtenekpkjlgddnaaC6
import Derived.Test.YtenekpkjlgddnaaGH
import Derived.Test.YtenekpkjlgddnaaP72
import Derived.Test.YtenekpkjlgddnaaGZ
set_option linter.unusedVariables false
set_option linter.unusedSimpArgs false
namespace Go.Proofs.Ytenekpkjlgddnaa
open Go.Sx Go.RowKit Go.Proofs.Try
def alGo(g:Graph):Nat→List Cell→List Record→(List Cell×List Record)×Nat
 | 0,cs,l=>((cs,l),0)
 | _+1,cs,[]=>((cs,[]),0)
 | k+1,cs,r::l=>((alGo g k (qar g cs r).1 (l++(qar g cs r).2.1)).1,(alGo g k (qar g cs r).1 (l++(qar g cs r).2.1)).2+1)
theorem qos(r:Record)(l more:List Record):List.take (((r::l).map Record.e).length-1) (List.drop 1 ((r::l).map Record.e))++more.map Record.e=(l++more).map Record.e:=by
 rw[zav,List.drop_succ_cons,zck,zbk (by simp),zU]
def cpGo(g:Graph):Nat→List Cell→List Record→Bool→Bool
 | 0,_,_,b=>b
 | _+1,_,[],b=>b
 | k+1,cs,r::l,b=>cpGo g k (qar g cs r).1 (l++(qar g cs r).2.1) (b||capped g r)
def fresh(r:Record):Record:=⟨0,⟨r.stamp.epoch,0⟩,r.key,r.val⟩
def qcY(xs:List Record)(e:Int):List Record:=((qcX e xs).filter qaw).map fresh
theorem qot(xs:List Record)(e:Int):(qcY xs e).length≤xs.length:=by
 simp only[qcY,zb,qcX]
 exact zce (zat ..) (zat ..)
theorem qiD(r:Record)(b:Bool)(h:qaw r=b):Rt 41 [.agg r.e] [.one (B b)]:=h▸qem r
theorem qou(p:Record→Bool){xs:List Record}{i:Nat}{a:Record}(h:xs[i]?=some a):(((xs.take (i+1)).filter p).map fresh).map Record.e=(((xs.take i).filter p).map fresh).map Record.e++(if p a then [[I 0,I a.stamp.epoch,I 0,I a.key,I a.val]] else []):=by
 rw[qec p h]
 split
 ·simp only[zU];rfl
 ·simp
def qep(g:Graph)(xs:List Record)(e:Int):Bool:=qaC g&&cpGo g 20000 [] (qcY xs e) false
end Go.Proofs.Ytenekpkjlgddnaa
namespace Go.Proofs.Ytenekpkjlgddnaa
open Go.Sx Go.RowKit Go.Proofs.Try
theorem qoK(g:Graph)(r:Record)(b:Bool)(hg:g.sz≤8388608):RetR prog 27 [.ro (.agg r.e),.ref [B b] [B (b||capped g r)],.cur g.e g.e] (.vals []):=by
 cases b with
 | true=>exact qoI ⟨rfl,trivial⟩
 | false=>exact qoJ ⟨rfl,qiN g r hg,trivial⟩
theorem qiQ(g:Graph)(hg:g.sz≤8388608)(hok:qaC g=true):∀(k n:Nat) (cs:List Cell) (l:List Record) (b:Bool),n+k=20000→cs.length≤n→l.length≤8388608+2*n→
  qam prog (qab f26 1) (qcA (g.nodes.map Node.e) (l.map Record.e) n (cs.map Cell.e) (g.nodes.map Node.e) g.workers g.cap b g.workers g.cap) (.exit 2) (qer (g.nodes.map Node.e) ((alGo g k cs l).1.1.map Cell.e) ((n+(alGo g k cs l).2:Nat):Int) ((alGo g k cs l).1.2.map Record.e) (cpGo g k cs l b) g.workers g.cap)
 | 0,n,cs,l,b,hn,hcs,hl=>by
  cases l with
  | nil=>exact .last (qaF 2) (qiO ⟨rfl,trivial⟩)
  | cons r l=>exact .last (qaF 2) (qoG ⟨dT (by simp<;>omega),dF (by omega),trivial⟩)
 | k+1,n,cs,[],b,hn,hcs,hl=>.last (qaF 2) (qiO ⟨rfl,trivial⟩)
 | k+1,n,cs,r::l,b,hn,hcs,hl=>by
  obtain⟨h1,h2⟩:=qoq hok cs r
  have s:=qiC g cs r hg (by omega)
  rw[zq]at hl
  have ih:=qiQ g hg hok k (n+1) (qar g cs r).1 (l++(qar g cs r).2.1) (b||capped g r) (by omega) (by omega) (by rw[zab];omega)
  simp only[alGo,cpGo]
  rw[show n+((alGo g k (qar g cs r).1 (l++(qar g cs r).2.1)).2+1)=n+1+(alGo g k (qar g cs r).1 (l++(qar g cs r).2.1)).2 by omega]
  refine .more (tr_to (fun q=>qcA (g.nodes.map Node.e) q ((n+1:Nat):Int) ((qar g cs r).1.map Cell.e) (g.nodes.map Node.e) g.workers g.cap (b||capped g r) g.workers g.cap) (qoF ⟨dT (by simp<;>omega),dT (by omega),by omega,by simp<;>omega,rfl,qoK g r b hg,by omega,by simp<;>omega,rfl,s,by simp,by simp<;>omega,by simp,by simp<;>omega,by simp<;>omega,qaM _ Record.flat _,⟨by omega,by omega⟩,trivial⟩) (qos r l _)) ih
theorem qoL(g:Graph)(xs:List Record)(hl:xs.length≤8388608):qam prog (qab f26 0) (qb7 (g.nodes.map Node.e) (xs.map Record.e) 0 [] (g.nodes.map Node.e) g.workers g.cap false g.workers g.cap) (.exit 0) (qf8 (g.nodes.map Node.e) (((xs.filter qaw).map fresh).map Record.e) (g.nodes.map Node.e) g.workers g.cap false g.workers g.cap):=by
 have l:=qbw (P:=prog) (c:=(qab f26 0)) (qaF 0) xs.length (fun i:Nat=>qb7 (g.nodes.map Node.e) (xs.map Record.e) i ((((xs.take i).filter qaw).map fresh).map Record.e) (g.nodes.map Node.e) g.workers g.cap false g.workers g.cap) (fun i hi=>by
  obtain⟨a,ha⟩:=qag hi
  have hf:=qfZ qaw xs i
  rw[qou qaw ha]
  cases hp:qaw a with
  | true=>
   rw[zp rfl]
   exact qoC ⟨lt1 hi,lt0,lt2 hi,qaB Record.e ha,qiD a true hp,rfl,by simp<;>omega,by simp<;>omega,qdn (fresh a).flat,up1 hi hl,trivial⟩
  | false=>
   rw[zo (by simp),zaa]
   exact qoD ⟨lt1 hi,lt0,lt2 hi,qaB Record.e ha,qiD a false hp,rfl,up1 hi hl,trivial⟩) (qoE ⟨ge1,trivial⟩)
 rw[zC]at l
 exact l
theorem qoM(g:Graph)(xs:List Record)(e:Int)(hg:g.sz≤8388608)(hl:xs.length≤8388608):Rt 11 [.agg g.e,.one (.sl 5 (xs.map Record.e)),.one (I e)] [.one (B (qep g xs e))]:=by
 have c:=qen g hg
 unfold qep
 cases h:qaC g with
 | false=>
  rw[h]at c
  exact qiP ⟨qoB ⟨c,rfl,trivial⟩,trivial⟩
 | true=>
  rw[h]at c
  have ho:(qcX e xs).length≤8388608:=zce (zat ..) hl
  have l0:=qoL g (qcX e xs) ho
  have hs:=qot xs e
  have l1:=qiQ g hg h 20000 0 [] (qcY xs e) false rfl (by simp) (by omega)
  rw[zv]at l1
  rw[zbl]
  exact qiP ⟨qoH ⟨c,rfl,qor xs e hl,l0,l1,trivial⟩,trivial⟩
end Go.Proofs.Ytenekpkjlgddnaa
