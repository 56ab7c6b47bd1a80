/- The copies of nodes, graphs, links, workers and clusters: what program and reference hand back is what came in. -/
import Derived.Test.YtenekpkjlgddnaaGreatP9
import Derived.Test.YtenekpkjlgddnaaGreatGV
import Derived.Test.YtenekpkjlgddnaaGreatP28
import Derived.Test.YtenekpkjlgddnaaGreatQ1
set_option linter.unusedVariables false
set_option linter.unusedSimpArgs false
namespace Go.Proofs.YtenekpkjlgddnaaGreat
open Go.Sx Go.RowKit Go.Proofs.Tryz
theorem flatI(xs:List Int):Flat (xs.map eI):=qaM eI (fun _ _ hd=>⟨_,List.mem_singleton.1 hd⟩) xs
theorem flatB(xs:List Bool):Flat (xs.map eB):=qaM eB (fun _ _ hd=>⟨_,List.mem_singleton.1 hd⟩) xs
theorem Done.flat(r:Done):∀d∈r.e,∃x,d=.v x:=by
 intro d hd
 simp only[Done.e,zL,zbu,or_false]at hd
 rcases hd with rfl | rfl<;>exact⟨_,rfl⟩
theorem News.flat(r:News):∀d∈r.e,∃x,d=.v x:=by
 intro d hd
 simp only[News.e,zL,zbu,or_false]at hd
 rcases hd with rfl | rfl | rfl<;>exact⟨_,rfl⟩
theorem Token.flat(r:Token):∀d∈r.e,∃x,d=.v x:=by
 intro d hd
 simp only[Token.e,zL,zbu,or_false]at hd
 rcases hd with rfl | rfl | rfl | rfl | rfl<;>exact⟨_,rfl⟩
theorem qgb{α:Type}{f:α→List D}{xs:List α}{i:Nat}{a:α}(h:xs[i]?=some a):(xs.take (i+1)).map f=(xs.take i).map f++[f a]:=by simp[zbe,h]
theorem nl(l:List (List D)){k m:Nat}(h:l.length*k≤m):(([]:List (List D)).length+l.length)*k≤m:=by simpa using h
theorem nl1(l:List (List D)){m:Nat}(h:l.length≤m):([]:List (List D)).length+l.length≤m:=by simpa using h
theorem Graph.node_sz1{g:Graph}(h:g.sz≤8388608){x:Node}(hx:x∈g.nodes):x.sz≤8388608:=qfR (sz:=Node.sz) (xs:=g.nodes) (m:=8388608) (by simp only[Graph.sz]at h;omega) hx
theorem Graph.nodes_le1{g:Graph}(h:g.sz≤8388608):g.nodes.length≤8388608:=by simp only[Graph.sz,szS]at h;omega
theorem Cluster.worker_sz1{c:Cluster}(h:c.sz≤8388608){w:Worker}(hw:w∈c.workers):w.sz≤8388608:=qfR (sz:=Worker.sz) (xs:=c.workers) (m:=8388608) (by simp only[Cluster.sz]at h;omega) hw
theorem Cluster.link_sz1{c:Cluster}(h:c.sz≤8388608){w:Link}(hw:w∈c.links):w.sz≤8388608:=qfR (sz:=Link.sz) (xs:=c.links) (m:=8388608) (by simp only[Cluster.sz]at h;omega) hw
theorem Cluster.graph_sz1{c:Cluster}(h:c.sz≤8388608):c.graph.sz≤8388608:=by simp only[Cluster.sz]at h;omega
theorem qwY(x:Node)(h:x.sz≤8388608):Rt 69 [.agg x.e] [.agg x.e]:=by
 simp only[Node.sz]at h
 exact qwh ⟨nl _ (by simp;omega),nl1 _ (by simp;omega),flatI _,trivial⟩
theorem qgc(x:Link)(h:x.sz≤8388608):Rt 56 [.agg x.e] [.agg x.e]:=
 qwl ⟨qfZ x.queue h,trivial⟩
theorem qek(x:Worker)(h:x.sz≤8388608):Rt 55 [.agg x.e] [.agg x.e]:=by
 simp only[Worker.sz]at h
 exact qwm ⟨qfZ x.queue (by omega),qfZ x.staged (by omega),qfZ x.inputs (by omega),qcZ x.cells (by omega),nl _ (by simp;omega),nl1 _ (by simp;omega),flatI _,nl _ (by simp;omega),nl1 _ (by simp;omega),flatB _,nl _ (by simp;omega),nl1 _ (by simp;omega),flatB _,nl _ (by simp;omega),nl1 _ (by simp;omega),qaM _ Done.flat _,trivial⟩
theorem qwZ(g:Graph)(hg:g.sz≤8388608):Rt 54 [.agg g.e] [.agg g.e]:=by
 have hn:=Graph.nodes_le1 hg
 have l:=qaT (P:=prog) (c:=(qab f54 0)) (qaj 0) g.nodes.length (fun i:Nat=>qeZ (g.nodes.map Node.e) i ((g.nodes.take i).map Node.e) g.workers g.cap 0 0) (fun i hi=>by
  obtain⟨a,ha⟩:=qah hi
  rw[qgb ha]
  exact qwi ⟨lt1 hi,lt0,lt2 hi,qad Node.e ha,qwY a (Graph.node_sz1 hg (qaq ha)),by simp;omega,by simp;omega,up1 hi hn,trivial⟩) (qwj ⟨ge1,trivial⟩)
 rw[zC]at l
 exact qwk ⟨l,trivial⟩
theorem qw0(g:Graph)(hg:g.sz≤8388608):Rt 14 [.agg g.e] [.agg g.e]:=by
 have hn:=Graph.nodes_le1 hg
 have l:=qaT (P:=prog) (c:=(qab f14 0)) (qaj 0) g.nodes.length (fun i:Nat=>qe2 i ((g.nodes.take i).map Node.e) g.workers g.cap 0 0 (g.nodes.map Node.e) g.workers g.cap) (fun i hi=>by
  obtain⟨a,ha⟩:=qah hi
  have hs:=Graph.node_sz1 hg (qaq ha)
  simp only[Node.sz]at hs
  rw[qgb ha]
  exact qws ⟨lt1 hi,lt0,lt2 hi,qad Node.e ha,nl _ (by simp;omega),nl1 _ (by simp;omega),flatI _,by simp;omega,by simp;omega,up1 hi hn,trivial⟩) (qwt ⟨ge1,trivial⟩)
 rw[zC]at l
 exact qwu ⟨l,trivial⟩
theorem qda(c:Cluster)(hc:c.sz≤8388608):Rt 25 [.agg c.e] [.agg c.e]:=by
 have hw:=Cluster.wlen_le hc
 have hl:=Cluster.llen_le hc
 have ht:c.tokens.length≤8388608:=by simp only[Cluster.sz,szS]at hc;omega
 have hx:c.news.length≤8388608:=by simp only[Cluster.sz,szS]at hc;omega
 have l0:=qaT (P:=prog) (c:=(qab f25 0)) (qaj 0) c.workers.length (fun i:Nat=>qe0 (c.workers.map Worker.e) i (c.graph.nodes.map Node.e) c.graph.workers c.graph.cap ((c.workers.take i).map Worker.e) (c.tokens.map Token.e) (c.news.map News.e) 0 0 (c.graph.nodes.map Node.e) c.graph.workers c.graph.cap (c.workers.map Worker.e) (c.links.map Link.e) (c.tokens.map Token.e) (c.news.map News.e)) (fun i hi=>by
  obtain⟨a,ha⟩:=qah hi
  rw[qgb ha]
  exact qwn ⟨lt1 hi,lt0,lt2 hi,qad Worker.e ha,qek a (Cluster.worker_sz1 hc (qaq ha)),by simp;omega,by simp;omega,up1 hi hw,trivial⟩) (qwo ⟨ge1,trivial⟩)
 have l1:=qaT (P:=prog) (c:=(qab f25 1)) (qaj 2) c.links.length (fun i:Nat=>qe1 (c.links.map Link.e) i (c.graph.nodes.map Node.e) c.graph.workers c.graph.cap (c.workers.map Worker.e) ((c.links.take i).map Link.e) (c.tokens.map Token.e) (c.news.map News.e) 0 0) (fun i hi=>by
  obtain⟨a,ha⟩:=qah hi
  rw[qgb ha]
  exact qwp ⟨lt1 hi,lt0,lt2 hi,qad Link.e ha,qgc a (Cluster.link_sz1 hc (qaq ha)),by simp;omega,by simp;omega,up1 hi hl,trivial⟩) (qwq ⟨ge1,trivial⟩)
 rw[zC]at l0 l1
 exact qwr ⟨qwZ c.graph (Cluster.graph_sz1 hc),nl _ (by simp;omega),nl1 _ (by simp;omega),qaM _ Token.flat _,nl _ (by simp;omega),nl1 _ (by simp;omega),qaM _ News.flat _,l0,l1,trivial⟩
end Go.Proofs.YtenekpkjlgddnaaGreat
namespace Go.Proofs.YtenekpkjlgddnaaGreat
open Go.Sx Go.RowKit Go.Proofs.Tryz
def runD(c:Cluster)(b:Bool):List D:=[.sl 4 (c.graph.nodes.map Node.e),I c.graph.workers,I c.graph.cap,.sl 8 (c.workers.map Worker.e),.sl 6 (c.links.map Link.e),.sl 5 (c.tokens.map Token.e),.sl 3 (c.news.map News.e),B b]
abbrev runE(c:Cluster):List D:=runD c (qam c)
theorem qge(w:Worker)(e:Int)(r:Bool)(h:qdI w e=r)(hw:w.sz≤8388608):Rt 49 [.agg w.e,.one (I e)] [.one (B r)]:=h▸qtG w e hw
theorem qxK{α:Type}{f:α→List D}{xs:List α}{i:Nat}{a:α}:(xs.map f).set i (f a)=(xs.set i a).map f:=List.map_set.symm
theorem qdP{c:Cluster}{i:Int}{x:Worker}(h:wAt c i=some x):0≤i∧i<(↑(c.workers.map Worker.e).length:Int)∧(c.workers.map Worker.e)[i.toNat]?=some x.e:=by
 obtain⟨h1,h2,h3⟩:=qcG h
 exact⟨h1,by rw[zb];omega,qac Worker.e h3⟩
theorem qdc{c:Cluster}{i:Int}{x:Worker}(h:wAt c i=some x)(hc:c.sz≤8388608):x.sz≤8388608:=Cluster.worker_sz1 hc (qaq (qcG h).2.2)
theorem qxL{c:Cluster}(h:qam c=true){i:Nat}{n:News}(hn:c.news[i]?=some n){w:Int}(hw:(n.dest==w)=true):∃x,wAt c w=some x:=by
 have hb:=qvV h hn
 simp only[qcc,inR,zy,zX,zi]at hb
 have h2:=(qbD.1 h).2.1
 have e:=eq_of_beq hw
 exact qga (by omega) (by omega)
theorem qxM{c:Cluster}{w:Int}{i:Nat}{n:News}{x:Worker}(h1:c.news.findIdx? (fun n=>n.dest==w)=some i)(hok:qam c=true)(hn:c.news[i]?=some n)(hx:wAt c w=some x):qbS c w=(setN (setW c w (hears x n)) (cutAt c.news i),true):=by
 unfold qbS
 simp only[h1,hok,zbb,hn,hx]
theorem qxN(c:Cluster)(w:Int)(hc:c.sz≤8388608)(hw:GotLe c):Rt 24 [.agg c.e,.one (I w)] [.agg (qbS c w).1.e,.one (B (qbS c w).2)]:=by
 have hl:=qf6 hc
 have cp:=qda c hc
 have ix:=qtE c.news (fun n=>n.dest==w) 52 [.ptr [I w]] hl (by kernel_rfl) (fun x _=>qwv trivial)
 have ok:=qf7 c hc hw
 unfold idxI at ix
 cases h1:c.news.findIdx? (fun n=>n.dest==w) with
 | none=>
  simp only[h1]at ix
  rw[show qbS c w=(c,false) by unfold qbS;simp only[h1]]
  exact qww ⟨cp,ix,dT (by omega),trivial⟩
 | some i=>
  simp only[h1]at ix
  cases hok:qam c with
  | false=>
   rw[hok]at ok
   rw[show qbS c w=(c,false) by unfold qbS;simp[h1,hok]]
   exact qwx ⟨cp,ix,dF (by omega),ok,rfl,trivial⟩
  | true=>
   rw[hok]at ok
   obtain⟨hi,hp,_⟩:=zai.1 h1
   have ha:c.news[i]?=some c.news[i]:=zu hi
   generalize c.news[i]=a at ha hp
   obtain⟨x,hx⟩:=qxL hok ha hp
   obtain⟨w0,w1,w2⟩:=qdP hx
   have hs:=qdc hx hc
   rw[qxM h1 hok ha hx]
   have dl:=qw5 c.news i (i+1) (by omega) (by omega)
   rw[show (((i+1:Nat):Int))=(i:Int)+1 by omega]at dl
   cases hd:qdI x a.epoch with
   | true=>
    rw[show hears x a=x by unfold hears;rw[hd];rfl,qvO hx]
    exact qwz ⟨cp,ix,dF (by omega),ok,rfl,lt0,lt2 hi,qad News.e ha,up1 hi hl,dl,w0,w1,w2,qge x a.epoch true hd hs,rfl,trivial⟩
   | false=>
    have hdl:x.dones.length≤8388608:=by simp only[Worker.sz]at hs;omega
    have e2:(setW c w (hears x a)).workers.map Worker.e=(c.workers.map Worker.e).set w.toNat (told x a.epoch a.capped).e:=by
     rw[show hears x a=told x a.epoch a.capped by unfold hears;rw[hd];rfl]
     exact qxK.symm
    have e3:(told x a.epoch a.capped).e=[.sl 5 (x.queue.map Record.e),.sl 5 (x.staged.map Record.e),.sl 5 (x.inputs.map Record.e),.sl 4 (x.cells.map Cell.e),.sl 1 (x.sums.map eI),.sl 1 (x.black.map eB),.sl 1 (x.caps.map eB),.sl 2 (x.dones.map Done.e++[[I a.epoch,B a.capped]])]:=by
     simp only[told,Worker.e,zU];rfl
    have e4:(setN (setW c w (hears x a)) (cutAt c.news i)).e=[.sl 4 (c.graph.nodes.map Node.e),I c.graph.workers,I c.graph.cap,.sl 8 ((c.workers.map Worker.e).set w.toNat (told x a.epoch a.capped).e),.sl 6 (c.links.map Link.e),.sl 5 (c.tokens.map Token.e),.sl 3 ((cutAt c.news i).map News.e)]:=by
     rw[←e2];rfl
    rw[e4,e3]
    exact qwy ⟨cp,ix,dF (by omega),ok,rfl,lt0,lt2 hi,qad News.e ha,up1 hi hl,dl,w0,w1,w2,qge x a.epoch false hd hs,rfl,w0,w1,w2,by simp;omega,by simp;omega,w2,rfl,qbA (Done.flat ⟨a.epoch,a.capped⟩),rfl,rfl,rfl,rfl,rfl,rfl,rfl,rfl,w0,w1,w2,rfl,trivial⟩
end Go.Proofs.YtenekpkjlgddnaaGreat
