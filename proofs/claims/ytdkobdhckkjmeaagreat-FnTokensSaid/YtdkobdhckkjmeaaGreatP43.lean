import Derived.Test.YtdkobdhckkjmeaaGreatC6
import Derived.Test.YtdkobdhckkjmeaaGreatP21
import Derived.Test.YtdkobdhckkjmeaaGreatGV
import Derived.Test.YtdkobdhckkjmeaaGreatR22
import Derived.Test.YtdkobdhckkjmeaaGreatT1
import Derived.Test.YtdkobdhckkjmeaaGreatRows
import Derived.WalkKit
import Derived.Deep.RegionLaw
import Derived.Shelf.RegionOpenPlain
import Derived.Lib.SliceRun
import Derived.Deep.LoopGhost
import Derived.Lib.Walk
import Derived.Test.YtdkobdhckkjmeaaGreatP40
set_option linter.unusedVariables false
set_option linter.unusedSimpArgs false
namespace Go.Proofs.YtdkobdhckkjmeaaGreat
open Go.Sx Go.RowKit Go.Proofs.Tryz
theorem flatI(xs:List Int):Flat (xs.map eI):=qae eI (fun _ _ hd=>⟨_,List.mem_singleton.1 hd⟩) xs
theorem flatB(xs:List Bool):Flat (xs.map eB):=qae eB (fun _ _ hd=>⟨_,List.mem_singleton.1 hd⟩) xs
theorem Done.flat(r:Done):∀d∈r.e,∃x,d=.v x:=by
 intro d hd;simp only[Done.e,zL,zbu,or_false]at hd;rcases hd with rfl | rfl<;>exact⟨_,rfl⟩
theorem News.flat(r:News):∀d∈r.e,∃x,d=.v x:=by
 intro d hd;simp only[News.e,zL,zbu,or_false]at hd;rcases hd with rfl | rfl | rfl<;>exact⟨_,rfl⟩
theorem Token.flat(r:Token):∀d∈r.e,∃x,d=.v x:=by
 intro d hd;simp only[Token.e,zL,zbu,or_false]at hd;rcases hd with rfl | rfl | rfl | rfl | rfl<;>exact⟨_,rfl⟩
theorem qgI{α:Type}{f:α→List D}{xs:List α}{i:Nat}{a:α}(h:xs[i]?=some a):(xs.take (i+1)).map f=(xs.take i).map f++[f a]:=by simp[zbe,h]
theorem nl(l:List (List D)){k m:Nat}(h:l.length*k≤m):(([]:List (List D)).length+l.length)*k≤m:=by simpa using h
theorem nl1(l:List (List D)){m:Nat}(h:l.length≤m):([]:List (List D)).length+l.length≤m:=by simpa using h
theorem Graph.node_sz1{g:Graph}(h:g.sz≤8388608){x:Node}(hx:x∈g.nodes):x.sz≤8388608:=qeZ (sz:=Node.sz) (xs:=g.nodes) (m:=8388608) (by simp only[Graph.sz]at h;omega) hx
theorem Graph.nodes_le1{g:Graph}(h:g.sz≤8388608):g.nodes.length≤8388608:=by simp only[Graph.sz,szS]at h;omega
theorem Cluster.worker_sz1{c:Cluster}(h:c.sz≤8388608){w:Worker}(hw:w∈c.workers):w.sz≤8388608:=qeZ (sz:=Worker.sz) (xs:=c.workers) (m:=8388608) (by simp only[Cluster.sz]at h;omega) hw
theorem Cluster.link_sz1{c:Cluster}(h:c.sz≤8388608){w:Link}(hw:w∈c.links):w.sz≤8388608:=qeZ (sz:=Link.sz) (xs:=c.links) (m:=8388608) (by simp only[Cluster.sz]at h;omega) hw
theorem Cluster.graph_sz1{c:Cluster}(h:c.sz≤8388608):c.graph.sz≤8388608:=by simp only[Cluster.sz]at h;omega
theorem qK9(x:Node)(h:x.sz≤8388608):Rt 258 [.agg x.e] [.agg x.e]:=by
 simp only[Node.sz]at h;exact qJO ⟨nl _ (by simp;omega),nl1 _ (by simp;omega),flatI _,trivial⟩
theorem qj8(x:Link)(h:x.sz≤8388608):Rt 263 [.agg x.e] [.agg x.e]:=
 qJS ⟨qgo x.queue h,trivial⟩
theorem qj9(x:Link)(h:x.sz≤8388608):Rt 277 [.agg x.e] [.agg x.e]:=by
 simp only[Link.sz]at h;exact qJZ ⟨nl _ (by simp;omega),nl1 _ (by simp;omega),qae _ Record.flat _,trivial⟩
theorem qgJ(x:Worker)(h:x.sz≤8388608):Rt 262 [.agg x.e] [.agg x.e]:=by
 simp only[Worker.sz]at h;exact qJT ⟨qgo x.queue (by omega),qgo x.staged (by omega),qgo x.inputs (by omega),qeg x.cells (by omega),nl _ (by simp;omega),nl1 _ (by simp;omega),flatI _,nl _ (by simp;omega),nl1 _ (by simp;omega),flatB _,nl _ (by simp;omega),nl1 _ (by simp;omega),flatB _,nl _ (by simp;omega),nl1 _ (by simp;omega),qae _ Done.flat _,trivial⟩
theorem qLa(x:Worker)(h:x.sz≤8388608):Rt 208 [.agg x.e] [.agg x.e]:=by
 simp only[Worker.sz]at h;exact qJ3 ⟨nl _ (by simp;omega),nl1 _ (by simp;omega),qae _ Record.flat _,nl _ (by simp;omega),nl1 _ (by simp;omega),qae _ Record.flat _,nl _ (by simp;omega),nl1 _ (by simp;omega),qae _ Record.flat _,nl _ (by simp;omega),nl1 _ (by simp;omega),qae _ Cell.flat _,nl _ (by simp;omega),nl1 _ (by simp;omega),flatI _,nl _ (by simp;omega),nl1 _ (by simp;omega),flatB _,nl _ (by simp;omega),nl1 _ (by simp;omega),flatB _,nl _ (by simp;omega),nl1 _ (by simp;omega),qae _ Done.flat _,trivial⟩
theorem qsB(g:Graph)(hg:g.sz≤8388608):Rt 146 [.agg g.e] [.agg g.e]:=by
 have hn:=Graph.nodes_le1 hg;have l:=qao (P:=prog) (c:=(qaa f146 0)) (qaf 0) g.nodes.length (fun i:Nat=>qhW (g.nodes.map Node.e) i ((g.nodes.take i).map Node.e) g.workers g.cap 0 0) (fun i hi=>by
  obtain⟨a,ha⟩:=qal hi;rw[qgI ha];exact qJP ⟨lt1 hi,lt0,lt2 hi,qac Node.e ha,qK9 a (Graph.node_sz1 hg (qag ha)),by simp;omega,by simp;omega,up1 hi hn,trivial⟩) (qJQ ⟨ge1,trivial⟩)
 rw[zC]at l;exact qJR ⟨l,trivial⟩
theorem qsC(g:Graph)(hg:g.sz≤8388608):Rt 123 [.agg g.e] [.agg g.e]:=by
 have hn:=Graph.nodes_le1 hg;have l:=qao (P:=prog) (c:=(qaa f123 0)) (qaf 0) g.nodes.length (fun i:Nat=>qhZ i ((g.nodes.take i).map Node.e) g.workers g.cap 0 0 (g.nodes.map Node.e) g.workers g.cap) (fun i hi=>by
  obtain⟨a,ha⟩:=qal hi;have hs:=Graph.node_sz1 hg (qag ha);simp only[Node.sz]at hs;rw[qgI ha];exact qJ0 ⟨lt1 hi,lt0,lt2 hi,qac Node.e ha,nl _ (by simp;omega),nl1 _ (by simp;omega),flatI _,by simp;omega,by simp;omega,up1 hi hn,trivial⟩) (qJ1 ⟨ge1,trivial⟩)
 rw[zC]at l;exact qJ2 ⟨l,trivial⟩
theorem qdd(c:Cluster)(hc:c.sz≤8388608):Rt 152 [.agg c.e] [.agg c.e]:=by
 have hw:=Cluster.wlen_le hc;have hl:=Cluster.llen_le hc;have ht:c.tokens.length≤8388608:=by simp only[Cluster.sz,szS]at hc;omega
 have hx:c.news.length≤8388608:=by simp only[Cluster.sz,szS]at hc;omega
 have l0:=qao (P:=prog) (c:=(qaa f152 0)) (qaf 0) c.workers.length (fun i:Nat=>qhX (c.workers.map Worker.e) i (c.graph.nodes.map Node.e) c.graph.workers c.graph.cap ((c.workers.take i).map Worker.e) (c.tokens.map Token.e) (c.news.map News.e) 0 0 (c.graph.nodes.map Node.e) c.graph.workers c.graph.cap (c.workers.map Worker.e) (c.links.map Link.e) (c.tokens.map Token.e) (c.news.map News.e)) (fun i hi=>by
  obtain⟨a,ha⟩:=qal hi;rw[qgI ha];exact qJU ⟨lt1 hi,lt0,lt2 hi,qac Worker.e ha,qgJ a (Cluster.worker_sz1 hc (qag ha)),by simp;omega,by simp;omega,up1 hi hw,trivial⟩) (qJV ⟨ge1,trivial⟩)
 have l1:=qao (P:=prog) (c:=(qaa f152 1)) (qaf 2) c.links.length (fun i:Nat=>qhY (c.links.map Link.e) i (c.graph.nodes.map Node.e) c.graph.workers c.graph.cap (c.workers.map Worker.e) ((c.links.take i).map Link.e) (c.tokens.map Token.e) (c.news.map News.e) 0 0) (fun i hi=>by
  obtain⟨a,ha⟩:=qal hi;rw[qgI ha];exact qJW ⟨lt1 hi,lt0,lt2 hi,qac Link.e ha,qj8 a (Cluster.link_sz1 hc (qag ha)),by simp;omega,by simp;omega,up1 hi hl,trivial⟩) (qJX ⟨ge1,trivial⟩)
 rw[zC]at l0 l1;exact qJY ⟨qsB c.graph (Cluster.graph_sz1 hc),nl _ (by simp;omega),nl1 _ (by simp;omega),qae _ Token.flat _,nl _ (by simp;omega),nl1 _ (by simp;omega),qae _ News.flat _,l0,l1,trivial⟩
theorem qLb(c:Cluster)(hc:c.sz≤8388608):Rt 171 [.agg c.e] [.agg c.e]:=by
 have hw:=Cluster.wlen_le hc;have hl:=Cluster.llen_le hc;have ht:c.tokens.length≤8388608:=by simp only[Cluster.sz,szS]at hc;omega
 have hx:c.news.length≤8388608:=by simp only[Cluster.sz,szS]at hc;omega
 have l0:=qao (P:=prog) (c:=(qaa f171 0)) (qaf 0) c.workers.length (fun i:Nat=>qh0 i (c.graph.nodes.map Node.e) c.graph.workers c.graph.cap ((c.workers.take i).map Worker.e) (c.tokens.map Token.e) (c.news.map News.e) 0 0 (c.graph.nodes.map Node.e) c.graph.workers c.graph.cap (c.workers.map Worker.e) (c.links.map Link.e) (c.tokens.map Token.e) (c.news.map News.e)) (fun i hi=>by
  obtain⟨a,ha⟩:=qal hi;rw[qgI ha];exact qJ4 ⟨lt1 hi,lt0,lt2 hi,qac Worker.e ha,qLa a (Cluster.worker_sz1 hc (qag ha)),by simp;omega,by simp;omega,up1 hi hw,trivial⟩) (qJ5 ⟨ge1,trivial⟩)
 have l1:=qao (P:=prog) (c:=(qaa f171 1)) (qaf 2) c.links.length (fun i:Nat=>qh1 i (c.graph.nodes.map Node.e) c.graph.workers c.graph.cap (c.workers.map Worker.e) ((c.links.take i).map Link.e) (c.tokens.map Token.e) (c.news.map News.e) 0 0 (c.graph.nodes.map Node.e) c.graph.workers c.graph.cap (c.workers.map Worker.e) (c.links.map Link.e) (c.tokens.map Token.e) (c.news.map News.e)) (fun i hi=>by
  obtain⟨a,ha⟩:=qal hi;rw[qgI ha];exact qJ6 ⟨lt1 hi,lt0,lt2 hi,qac Link.e ha,qj9 a (Cluster.link_sz1 hc (qag ha)),by simp;omega,by simp;omega,up1 hi hl,trivial⟩) (qJ7 ⟨ge1,trivial⟩)
 rw[zC]at l0 l1;exact qJ8 ⟨qsC c.graph (Cluster.graph_sz1 hc),nl _ (by simp;omega),nl1 _ (by simp;omega),qae _ Token.flat _,nl _ (by simp;omega),nl1 _ (by simp;omega),qae _ News.flat _,l0,l1,trivial⟩
end Go.Proofs.YtdkobdhckkjmeaaGreat
namespace Go.Proofs.YtdkobdhckkjmeaaGreat
open Go.Sx Go.RowKit Go.Shelf Go.Lib Go.Proofs.Tryz
theorem cell_of_heap{w:World}{b:Nat}{arr:Array Value}{tb:TypeId}(hb:w.heap[b]?=some (.cells arr tb (0,0))){x:Nat}{v:Value}(h:arr[x]?=some v):w.cell? ⟨b,x,none⟩=some v:=by
 simp[World.cell?,hb,h]
end Go.Proofs.YtdkobdhckkjmeaaGreat
namespace Go.Proofs.YtdkobdhckkjmeaaGreat
open Go.Sx Go.RowKit Go.Proofs.Tryz
def qby(w:Nat):List Pick:=[⟨1,w,0⟩,⟨3,w,0⟩,⟨2,w,0⟩,⟨7,w,0⟩]
def twoOf(a b:Nat):List Pick:=if a=b then [] else [⟨4,a,b⟩,⟨5,a,b⟩]
def qb0(n:Nat):List Pick:=(List.range n).flatMap qby
def qcW(a n:Nat):List Pick:=(List.range n).flatMap (twoOf a)
def qca(m n:Nat):List Pick:=(List.range n).flatMap fun a=>qcW a m
def oneOf(e:Nat):List Pick:=[⟨6,e,0⟩]
def qdX(n:Nat):List Pick:=(List.range n).flatMap oneOf
def qaN(c:Cluster):List Pick:=qb0 (qaU c.graph.workers 0 4).toNat++qca (qaU c.graph.workers 0 4).toNat (qaU c.graph.workers 0 4).toNat++qdX 4
theorem qsE(n:Nat):qb0 (n+1)=qb0 n++qby n:=by simp[qb0,List.range_succ]
theorem qsF(a n:Nat):qcW a (n+1)=qcW a n++twoOf a n:=by simp[qcW,List.range_succ]
theorem qsG(m n:Nat):qca m (n+1)=qca m n++qcW n m:=by simp[qca,List.range_succ]
theorem qsH(n:Nat):qdX (n+1)=qdX n++[⟨6,n,0⟩]:=by simp[qdX,List.range_succ,oneOf]
theorem qh3(n:Nat):(qb0 n).length≤n*4:=by
 have h:=qgi qby 4 (fun _=>by simp[qby]) (List.range n);rwa[zct]at h
theorem qnd(a n:Nat):(qcW a n).length≤n*2:=by
 have h:=qgi (twoOf a) 2 (fun b=>by unfold twoOf;split<;>simp) (List.range n);rwa[zct]at h
theorem qh4(m n:Nat):(qca m n).length≤n*(m*2):=by
 have h:=qgi (fun a=>qcW a m) (m*2) (fun a=>qnd a m) (List.range n);rwa[zct]at h
theorem qne(n:Nat):(qdX n).length≤n*1:=by
 have h:=qgi oneOf 1 (fun _=>by simp[oneOf]) (List.range n);rwa[zct]at h
theorem qnf(n:Int):∃k:Nat,qaU n 0 4=k∧k≤4:=by
 refine⟨(qaU n 0 4).toNat,?_,?_⟩<;>(unfold qaU;simp only[show ¬(4:Int)<0 by omega,zci];split<;>(try split)<;>omega)
theorem mulLe(a b:Nat)(ha:a≤4)(hb:b≤4):a*(b*2)≤32:=by
 have:=Nat.mul_le_mul ha (zB 2 hb);omega
theorem qng(c:Cluster):(qaN c).length≤100:=by
 obtain⟨k,hk,h4⟩:=qnf c.graph.workers;unfold qaN;rw[hk];have a:=qh3 k;have b:=qh4 k k;have e:=qne 4;have m:=mulLe k k h4 h4;simp only[zab,zae];omega
theorem qsI(c:Cluster):Rt 129 [.agg c.e] [.one (.sl 3 ((qaN c).map Pick.e))]:=by
 have b:=qjt c.graph.workers 0 4;obtain⟨k,hk,h4⟩:=qnf c.graph.workers;unfold qaN;rw[hk]at b ⊢;have la:=qh3 k;have lc:=qh4 k k;have m:=mulLe k k h4 h4;have l0:=qao (P:=prog) (c:=(qaa f129 0)) (qaf 0) k (fun i:Nat=>qhq k i ((qb0 i).map Pick.e)) (fun i hi=>by
  have h1:=qh3 i;rw[qsE,zU];exact qwE ⟨dT (by omega),by simp;omega,by simp;omega,qae Pick.e Pick.flat (qby i),⟨by omega,by omega⟩,trivial⟩) (qwF ⟨dF (by omega),trivial⟩)
 have l2:=fun (a:Nat) (ha:a<k)=>qao (P:=prog) (c:=(qaa f129 2)) (qaf 4) k (fun i:Nat=>qe0 k a i ((qb0 k++qca k a++qcW a i).map Pick.e)) (fun i hi=>by
  have h1:=qnd a i;have h2:=qh4 k a;have h3:=mulLe a k (by omega) h4;rw[qsF,←zba,zU (l₂:=twoOf a i)];by_cases hab:a=i
  ·have e:(twoOf a i).map Pick.e=[]:=by simp[twoOf,hab]
   rw[e,zaa];exact qwH ⟨dT (by omega),by simp[hab],⟨by omega,by omega⟩,trivial⟩
  ·have e:(twoOf a i).map Pick.e=[[I 4,I a,I i],[I 5,I a,I i]]:=by simp[twoOf,hab,Pick.e]
   rw[e];have hf:Flat [[I 4,I a,I i],[I 5,I a,I i]]:=by rw[←e];exact qae Pick.e Pick.flat _
   exact qwG ⟨dT (by omega),by simp;omega,by simp;omega,by simp;omega,hf,⟨by omega,by omega⟩,trivial⟩) (qwI ⟨dF (by omega),trivial⟩)
 have l1:=qao (P:=prog) (c:=(qaa f129 1)) (qaf 2) k (fun i:Nat=>qhr k i ((qb0 k++qca k i).map Pick.e)) (fun i hi=>by
  have h:=l2 i hi;rw[qsG,←zba];simp only[qcW,zcq,zcm,zaa]at h;exact qwJ ⟨dT (by omega),h,⟨by omega,by omega⟩,trivial⟩) (qwK ⟨dF (by omega),trivial⟩)
 have l3:=qao (P:=prog) (c:=(qaa f129 3)) (qaf 6) 4 (fun i:Nat=>qhs i ((qb0 k++qca k k++qdX i).map Pick.e)) (fun i hi=>by
  have h1:=qne i;rw[qsH,←zba,zU (l₂:=[_])];exact qwL ⟨dT (by omega),by simp;omega,by simp;omega,qae Pick.e Pick.flat [⟨6,i,0⟩],⟨by omega,by omega⟩,trivial⟩) (qwM ⟨dF (by omega),trivial⟩)
 simp only[qca,zcq,zcm,zaa]at l1;simp only[qdX,zcq,zcm,zaa]at l3;rw[zae];exact qwN ⟨b,l0,l1,l3,trivial⟩
end Go.Proofs.YtdkobdhckkjmeaaGreat
namespace Go.Proofs.YtdkobdhckkjmeaaGreat
open Go.Sx Go.RowKit Go.Proofs.Tryz
theorem qcm{l:Link}:qbq l=true↔inR l.cap 1 4=true∧inR l.credits 0 l.cap=true∧inR l.back 0 l.cap=true∧l.credits+l.back+l.queue.length=l.cap∧inR l.sent 0 1000000000=true∧0≤l.got∧l.got=l.sent-l.queue.length∧(l.queue.any fun r=>!qaB r)=false:=by
 simp only[qbq,zj,zS,zE,zi,and_assoc]
theorem qcz{g:Graph}{i:Nat}{l:Link}:qbE g i l=false↔qbq l=true∧l.cap=g.cap∧qaV g l.queue=true∧((i:Int).tdiv g.workers=(i:Int).tmod g.workers→l.queue=[]):=by
 simp only[qbE,zy,zX,bne_eq_false_iff_eq,Bool.and_eq_false_imp,zE,zf];refine and_congr_right fun _=>and_congr_right fun _=>and_congr_right fun _=>imp_congr_right fun _=>?_
 cases l.queue with
 | nil=>simp
 | cons a q=>simp
theorem qJt{g:Graph}{i:Nat}{l:Link}{r:Record}(h:qbE g i l=false)(hr:qbA g r=false)(hs:(qay l r).2=true)(hd:(i:Int).tdiv g.workers≠(i:Int).tmod g.workers):qbE g i (qay l r).1=false:=by
 obtain⟨h1,h2,h3,h4⟩:=qcz.1 h;unfold qay at hs ⊢;split
 ·rename_i hc;simp only[zj,bne_iff_ne,zcc,zi]at hc;obtain⟨⟨⟨_,hr2⟩,hcr⟩,hse⟩:=hc;obtain⟨k1,k2,k3,k4,k5,k6,k7,k8⟩:=qcm.1 h1;refine qcz.2 ⟨qcm.2 ⟨k1,?_,k3,?_,?_,k6,?_,?_⟩,h2,qm4.2 ⟨h3,hr⟩,fun e=>(hd e).elim⟩
  ·simp only[inR,zi]at k2 ⊢;omega
  ·simp only[zab,zq,zh];omega
  ·simp only[inR,zi]at k5 ⊢;omega
  ·simp only[zab,zq,zh];omega
  ·simp only[List.any_append,k8,zcg,List.any_nil,hr2,zZ,Bool.or_false]
 ·rename_i hc;rw[zo hc]at hs;cases hs
theorem qj2{g:Graph}{i:Nat}{l:Link}(h:qbE g i l=false)(hs:(qaq l).2.2=true):qbE g i (qaq l).1=false∧qbA g (qaq l).2.1=false:=by
 obtain⟨h1,h2,h3,h4⟩:=qcz.1 h;obtain⟨k1,k2,k3,k4,k5,k6,k7,k8⟩:=qcm.1 h1;unfold qaq at hs ⊢;rw[zp h1]at hs ⊢;split
 ·rename_i hq;rw[hq]at hs;cases hs
 ·rename_i r q hq;rw[hq]at h3 k8 k4 k7 h4;rw[qdb]at h3;rw[zcg,zy]at k8;simp only[zq]at k4 k7;refine⟨qcz.2 ⟨qcm.2 ⟨k1,k2,?_,?_,k5,?_,?_,k8.2⟩,h2,h3.2,fun e=>absurd (h4 e) (by simp)⟩,h3.1⟩
  ·simp only[inR,zi]at k2 k3 ⊢;omega
  ·dsimp only;omega
  ·dsimp only;omega
  ·dsimp only;omega
theorem qJu{g:Graph}{i:Nat}{l:Link}(h:qbE g i l=false):qbE g i (qaQ l).1=false:=by
 obtain⟨h1,h2,h3,h4⟩:=qcz.1 h;obtain⟨k1,k2,k3,k4,k5,k6,k7,k8⟩:=qcm.1 h1;unfold qaQ;split
 ·rename_i hc;simp only[zj,bne_iff_ne,zcc]at hc;refine qcz.2 ⟨qcm.2 ⟨k1,?_,?_,?_,k5,k6,k7,k8⟩,h2,h3,h4⟩
  ·simp only[inR,zi]at k2 k3 ⊢;omega
  ·simp only[inR,zi]at k2 k3 ⊢;omega
  ·dsimp only;omega
 ·exact h
theorem qex{g:Graph}{a b:Int}(hn:1≤g.workers∧g.workers≤4)(ha:inR a 0 (g.workers-1)=true)(hb:inR b 0 (g.workers-1)=true):
  qav g a b=a*g.workers+b∧0≤a*g.workers+b∧a*g.workers+b<g.workers*g.workers∧(a*g.workers+b).tdiv g.workers=a∧(a*g.workers+b).tmod g.workers=b:=by
 have e:qav g a b=a*g.workers+b:=by unfold qav;rw[ha,hb];rfl
 simp only[inR,zi]at ha hb;generalize g.workers=n at*;have h0:0≤a*n+b:=by have:=Int.mul_nonneg ha.1 (show 0≤n by omega);omega
 rw[Int.tdiv_eq_ediv_of_nonneg h0,Int.tmod_eq_emod_of_nonneg h0];have hn4:n=1∨n=2∨n=3∨n=4:=by omega
 refine⟨e,h0,?_⟩;rcases hn4 with rfl | rfl | rfl | rfl<;>omega
theorem qdW{g:Graph}{a b:Int}(h:(inR a 0 (g.workers-1)&&inR b 0 (g.workers-1))=false):qav g a b=-1:=by
 unfold qav;rw[h];rfl
theorem qhQ(key:Int){n:Int}(hn:1≤n):inR (qax key n) 0 (n-1)=true:=by
 have h1:=qmY key n (by omega);have h2:=Int.tmod_lt_of_pos key (show 0<n by omega);unfold qax;rw[zo (by omega)];simp only[inR,zi];split<;>omega
theorem qfD{c:Cluster}(h:qai c=true){a b:Int}(ha:inR a 0 (c.graph.workers-1)=true)(hb:inR b 0 (c.graph.workers-1)=true):∃l,lAt c (qav c.graph a b)=some l:=by
 obtain⟨h1,h2,h3,_⟩:=qaH.1 h;obtain⟨e,h0,hlt,_⟩:=qex (qa7 h1) ha hb;rw[e];unfold lAt;rw[zp h0];exact qal (by omega)
theorem qhR{c:Cluster}{i:Int}{l:Link}(h:lAt c i=some l):((i.toNat:Nat):Int)=i:=by have:=(qbl h).1;omega
theorem qcA{c:Cluster}{i:Int}(h0:0≤i)(h1:i<c.workers.length):∃x,wAt c i=some x:=by
 unfold wAt;rw[zp h0];exact qal (by omega)
theorem qr8{c:Cluster}(h:qai c=true){e:Int}(he:inR e 0 3=true):∃t,tAt c e=some t:=by
 have h4:=(qaH.1 h).2.2.2.1;simp only[inR,zi]at he;unfold tAt;rw[zp he.1];exact qal (by omega)
theorem qdD{n:Int}{t:Token}:qbO n t=false↔(0≤t.place∧t.place≤n-1)∧(t.going=false→t.place=0)∧(-1000000≤t.sum∧t.sum≤1000000):=by
 simp only[qbO,inR,zy,zX,zi,Bool.and_eq_false_imp,zS,bne_eq_false_iff_eq]
theorem qhS{c:Cluster}{i j:Int}{l:Link}:wAt (setL c i l) j=wAt c j:=rfl
theorem qhT{c:Cluster}{i j:Int}{t:Token}:wAt (setT c i t) j=wAt c j:=rfl
theorem qr9{c:Cluster}{i:Int}{l:Link}:(setL c i l).graph=c.graph:=rfl
theorem qsa{c:Cluster}{i:Int}{t:Token}:(setT c i t).graph=c.graph:=rfl
theorem qJv{c:Cluster}{i:Int}{x:Worker}:(setW c i x).graph=c.graph:=rfl
theorem qsb{c:Cluster}{w o:Int}{x:Worker}{r:Record}{t:List Record}{l:Link}(h:qai c=true)(hx:wAt c w=some x)(hs:x.staged=r::t)
  (ho:inR o 0 (c.graph.workers-1)=true) (hne:o≠w) (hl:lAt c (qav c.graph w o)=some l) (hsend:(qay l r).2=true):
  qai (setW (setL c (qav c.graph w o) (qay l r).1) w (qbZ (qbf x t) r.stamp.epoch))=inR (x.sums.getD r.stamp.epoch.toNat 0+1) (-1000000) 1000000:=by
 obtain⟨h1,h2,_⟩:=qaH.1 h;obtain⟨w0,w1,_⟩:=qaC hx;obtain⟨ok,hr⟩:=qj1 (qbu h hx) hs;obtain⟨e,p0,p1,p2,p3⟩:=qex (qa7 h1) (a:=w) (b:=o) (by simp only[inR,zi];omega) ho;have hL:qai (setL c (qav c.graph w o) (qay l r).1)=true:=by
  rw[qm3 h hl,qJt (qda h hl) hr hsend]
  ·rfl
  ·rw[qhR hl,e,p2,p3];exact fun q=>hne q.symm
 rw[qev hL (qhS.trans hx),qr9,qJi ok (qdC hr)];rfl
theorem qsc{c:Cluster}{w:Int}{x:Worker}{r:Record}{t:List Record}(h:qai c=true)(hx:wAt c w=some x)(hs:x.staged=r::t):qai (setW c w (kept (qbf x t) r))=true:=by
 obtain⟨ok,hr⟩:=qj1 (qbu h hx) hs;rw[qev h hx,qJf ok hr]
theorem qsd{c:Cluster}{k b:Int}{x:Worker}{l:Link}(h:qai c=true)(hl:lAt c k=some l)(hx:wAt c b=some x)(ht:(qaq l).2.2=true):
  qai (setW (setL c k (qaq l).1) b (received x (qaq l).2.1))=inR (x.sums.getD (qaq l).2.1.stamp.epoch.toNat 0+-1) (-1000000) 1000000:=by
 obtain⟨k1,k2⟩:=qj2 (qda h hl) ht;have hL:qai (setL c k (qaq l).1)=true:=by rw[qm3 h hl,k1];rfl
 rw[qev hL (qhS.trans hx),qr9,qJj (qbu h hx) k2]
theorem qse{c:Cluster}{w:Int}(h:qai c=true):qai (qbr c w).1=true:=by
 unfold qbr;rw[zp h];split
 ·rename_i x hx;rw[qev h hx,qJs (qbu h hx)]
 ·exact h
theorem qsf{c:Cluster}{w:Int}(h:qai c=true):qai (qbs c w).1=true:=by
 unfold qbs;rw[zp h];split
 ·rename_i x hx;rw[qev h hx,qJk (qbu h hx)]
 ·exact h
theorem qsg{c:Cluster}{a b:Int}(h:qai c=true):qai (qbt c a b).1=true:=by
 unfold qbt;split
 ·split
  ·rename_i l hl;rw[qm3 h hl,qJu (qda h hl)];rfl
  ·exact h
 ·exact h
theorem qsh{n e:Int}{b:Bool}{m:Nat}(hm:(m:Int)=n-1)(he:inR e 0 3=true):(qaR m e b).any (qbP n)=false:=by
 rw[zP];intro x hx;simp only[qaR,zbm,List.mem_range]at hx;obtain⟨k,hk,rfl⟩:=hx;have h1:inR ((k:Int)+1) 0 (n-1)=true:=by simp only[inR,zi];omega
 simp only[qbP,h1,he,zZ,Bool.or_false,zao,not_false_eq_true]
theorem qJw{c:Cluster}{e:Int}{t:Token}{x x0:Worker}(h:qai c=true)(he:inR e 0 3=true)(ht:tAt c e=some t)(hx:wAt c t.place=some x)(h0:wAt c 0=some x0)(hd:qaz x0 e=false):qai (tokenAt c e t x).1=true:=by
 obtain⟨h1,h2,h3,h4,h5,h6,h7,h8⟩:=qaH.1 h;have hn:=qa7 h1;obtain⟨t1,t2,t3⟩:=qdD.1 (qgB h ht);have ok:=qbu h hx;have setT_ok:∀t':Token,qbO c.graph.workers t'=false→qai (setT c e t')=true:=fun t' k=>by rw[qJb h ht,k];rfl
 have both:∀t':Token,qbO c.graph.workers t'=false→qai (setW (setT c e t') t.place (qaA x e))=true:=fun t' k=>by
  rw[qev (setT_ok t' k) (qhT.trans hx),qsa,qJg ok]
 unfold tokenAt;split
 ·split
  ·exact both _ (qdD.2 ⟨by dsimp only;omega,by simp,by simp⟩)
  ·rename_i hg;split
   ·split
    ·rename_i hp hr;simp only[inR,zi]at hr;exact both _ (qdD.2 ⟨by dsimp only;omega,by simp,hr⟩)
    ·exact h
   ·rename_i hp;have e0:t.place=0:=by omega
    have kt:=setT_ok ⟨false,t.place,t.sum,t.black,t.capped⟩ (qdD.2 ⟨t1,fun _=>e0,t3⟩);split
    ·rw[e0]at hx;have hxx:x0=x:=by rw[h0]at hx;exact zx hx
     have kw:qai (setW (setT c e ⟨false,t.place,t.sum,t.black,t.capped⟩) 0 (told x e (t.capped||x.caps.getD e.toNat false)))=true:=by
      rw[qev kt (qhT.trans hx),qsa];exact qr1 ok he (hxx▸hd)
     rw[qr0 kw,List.any_append];have e1:(setW (setT c e ⟨false,t.place,t.sum,t.black,t.capped⟩) 0 (told x e (t.capped||x.caps.getD e.toNat false))).graph=c.graph:=rfl;rw[e1,h8,qsh (by omega) he];rfl
    ·exact kt
 ·exact h
theorem qsi{c:Cluster}{e:Int}(h:qai c=true):qai (qbc c e).1=true:=by
 unfold qbc;split
 ·rename_i hc;rw[zj]at hc;split
  ·rename_i x0 t h0 ht;split
   ·exact h
   ·rename_i hd;split
    ·rename_i x hx;exact qJw h hc.2 ht hx h0 (by simpa using hd)
    ·exact h
  ·exact h
 ·exact h
theorem qm6{c:Cluster}{k:Nat}{n:News}(h:qai c=true)(hn:c.news[k]?=some n):qbP c.graph.workers n=false:=by
 have h8:=(qaH.1 h).2.2.2.2.2.2.2;rw[zP]at h8;simpa using h8 n (qag hn)
theorem qJx{α:Type}{p:α→Bool}{xs:List α}{k:Nat}(h:xs.any p=false):(cutAt xs k).any p=false:=by
 rw[zP]at h ⊢;intro a ha;rcases zaz.1 ha with ha | ha
 ·exact h a (zbh ha)
 ·exact h a (zbn ha)
theorem qsj{c:Cluster}{w:Int}(h:qai c=true):qai (qbx c w).1=true:=by
 unfold qbx;split
 ·rw[zp h];split
  ·rename_i n x hn hx;have hb:=qm6 h hn;simp only[qbP,zy,zX]at hb;have kw:qai (setW c w (hears x n))=true:=by rw[qev h hx,qJh (qbu h hx) hb.2]
   rw[qr0 kw,qJv,qJx (qaH.1 h).2.2.2.2.2.2.2];rfl
  ·exact h
 ·exact h
theorem qj3{α:Type}{sz:α→Nat}{y:α}(x:α):∀{xs:List α} {i:Nat},xs[i]?=some y→szS sz (xs.set i x)+sz y=szS sz xs+sz x
 | [],i,h=>by simp at h
 | a::xs,0,h=>by
  obtain rfl:a=y:=by simpa using h
  simp only[szS,List.set_cons_zero,zq,zav,zcw];omega
 | a::xs,i+1,h=>by
  have:=qj3 (sz:=sz) x (xs:=xs) (i:=i) (by simpa using h);simp only[szS,List.set_cons_succ,zq,zav,zcw]at this ⊢;omega
theorem qey{c:Cluster}{i:Int}{x y:Worker}(h:wAt c i=some y):(setW c i x).sz+y.sz=c.sz+x.sz:=by
 have:=qj3 (sz:=Worker.sz) x (qaC h).2.2;simp only[setW,Cluster.sz];omega
theorem qm7{c:Cluster}{i:Int}{x y:Link}(h:lAt c i=some y):(setL c i x).sz+y.sz=c.sz+x.sz:=by
 have:=qj3 (sz:=Link.sz) x (qbl h).2.2;simp only[setL,Cluster.sz];omega
theorem qj4{c:Cluster}{i:Int}{x:Token}:(setT c i x).sz=c.sz:=by
 simp only[setT,Cluster.sz,zn]
theorem qsk{c:Cluster}{x:List News}:(setN c x).sz+c.news.length=c.sz+x.length:=by
 simp only[setN,Cluster.sz];omega
theorem qJy(g:Graph)(w:Worker):(qaY g w).1.sz≤w.sz+2:=by
 unfold qaY;split
 ·rename_i hc;rw[zj]at hc;split
  ·rename_i r q h1 h2;have:=qIP hc.1 w.cells r;simp only[Worker.sz,h1,h2,zq,zh];split<;>(try simp only[zn])<;>omega
  ·exact Nat.le_add_right _ _
 ·exact Nat.le_add_right _ _
theorem qJz(g:Graph)(w:Worker):(qaZ g w).1.sz≤w.sz:=by
 unfold qaZ;split
 ·split
  ·rename_i r t h1 h2 h3;simp only[Worker.sz,h1,h2,h3,zq,zh];omega
  ·exact zO _
 ·exact zO _
theorem qsl{w:Worker}{r:Record}{t:List Record}(h:w.staged=r::t):(qbf w t).sz+1=w.sz:=by
 simp only[qbf,Worker.sz,h,zq];omega
theorem qJA(w:Worker)(r:Record):(kept w r).sz=w.sz+1:=by
 simp only[kept,Worker.sz,zab,zq,zh];omega
theorem qJB(w:Worker)(e:Int):(qbZ w e).sz=w.sz:=by
 simp only[qbZ,incAt,Worker.sz,zn]
theorem qJC(w:Worker)(r:Record):(received w r).sz=w.sz+1:=by
 simp only[received,incAt,Worker.sz,zn,zab,zq,zh];omega
theorem qJD(w:Worker)(e:Int):(qaA w e).sz=w.sz:=by
 simp only[qaA,Worker.sz,zn]
theorem qsm(w:Worker)(e:Int)(b:Bool):(told w e b).sz=w.sz+1:=by
 simp only[told,Worker.sz,zab,zq,zh];omega
theorem qJE(w:Worker)(n:News):(hears w n).sz≤w.sz+1:=by
 unfold hears;split
 ·omega
 ·rw[qsm];omega
theorem qJF(l:Link)(r:Record):(qay l r).1.sz≤l.sz+1:=by
 unfold qay;split<;>simp[Link.sz]
theorem qJG(l:Link):(qaq l).1.sz≤l.sz:=by
 unfold qaq;split
 ·split
  ·exact zO _
  ·rename_i h;simp[Link.sz,h]
 ·exact zO _
theorem qJH(l:Link):(qaQ l).1.sz=l.sz:=by
 unfold qaQ;split<;>rfl
theorem qsn{α:Type}(xs:List α)(k:Nat):(cutAt xs k).length≤xs.length:=by
 simp only[cutAt,zab,zay,List.length_drop];omega
theorem qJI{c:Cluster}{e:Int}{t:Token}{x:Worker}(hw:c.workers.length≤4)(hx:wAt c t.place=some x)(h0:0≤t.place):(tokenAt c e t x).1.sz≤c.sz+4:=by
 unfold tokenAt;have w1:∀t',(setW (setT c e t') t.place (qaA x e)).sz+x.sz=c.sz+x.sz:=fun t'=>by
  have:=qey (c:=setT c e t') (x:=qaA x e) (qhT.trans hx);rwa[qj4,qJD]at this
 split
 ·split
  ·have:=w1 ⟨true,(c.workers.length:Int)-1,0,false,x.caps.getD e.toNat false⟩;dsimp only;omega
  ·split
   ·split
    ·have:=w1 ⟨true,t.place-1,t.sum+x.sums.getD e.toNat 0,t.black||x.black.getD e.toNat false,t.capped||x.caps.getD e.toNat false⟩;dsimp only;omega
    ·dsimp only;omega
   ·rename_i hp;have e0:t.place=0:=by omega
    split
    ·rw[e0]at hx;have a:=qey (c:=setT c e ⟨false,t.place,t.sum,t.black,t.capped⟩) (x:=told x e (t.capped||x.caps.getD e.toNat false)) (qhT.trans hx);rw[qj4,qsm]at a;have b:=qsk (c:=setW (setT c e ⟨false,t.place,t.sum,t.black,t.capped⟩) 0 (told x e (t.capped||x.caps.getD e.toNat false))) (x:=c.news++qaR (c.workers.length-1) e (t.capped||x.caps.getD e.toNat false));have d:(setW (setT c e ⟨false,t.place,t.sum,t.black,t.capped⟩) 0 (told x e (t.capped||x.caps.getD e.toNat false))).news=c.news:=rfl;rw[d]at b;simp only[zab,qaR,zb,zct]at b;dsimp only;simp only[qaR];omega
    ·dsimp only;rw[qj4];omega
 ·dsimp only;omega
theorem qm8{c:Cluster}(h:qai c=true):c.workers.length≤4:=by
 obtain⟨h1,h2,_⟩:=qaH.1 h;have:=qa7 h1;omega
theorem qso(c:Cluster)(p:Pick):(stepPick c p).1.sz≤c.sz+4:=by
 have k0:c.sz≤c.sz+4:=by omega
 unfold stepPick;split
 ·unfold qbr;split
  ·split
   ·rename_i x hx;have:=qey (x:=(qaY c.graph x).1) hx;have:=qJy c.graph x;dsimp only;omega
   ·exact k0
  ·exact k0
 split
 ·unfold qbs;split
  ·split
   ·rename_i x hx;have:=qey (x:=(qaZ c.graph x).1) hx;have:=qJz c.graph x;dsimp only;omega
   ·exact k0
  ·exact k0
 split
 ·unfold qbk;split
  ·split
   ·rename_i x hx;split
    ·rename_i r t hs;have hu:=qsl hs;unfold qc9;split
     ·have:=qey (x:=kept (qbf x t) r) hx;rw[qJA]at this;dsimp only;omega
     ·split
      ·rename_i l hl;split
       ·have a:=qm7 (x:=(qay l r).1) hl;have b:=qey (c:=setL c (qav c.graph p.a (qax r.key c.graph.workers)) (qay l r).1) (x:=qbZ (qbf x t) r.stamp.epoch) (qhS.trans hx);rw[qJB]at b;have:=qJF l r;dsimp only;omega
       ·exact k0
      ·exact k0
    ·exact k0
   ·exact k0
  ·exact k0
 split
 ·unfold qbw;split
  ·split
   ·rename_i l x hl hx;split
    ·have a:=qm7 (x:=(qaq l).1) hl;have b:=qey (c:=setL c (qav c.graph p.a p.b) (qaq l).1) (x:=received x (qaq l).2.1) (qhS.trans hx);rw[qJC]at b;have:=qJG l;dsimp only;omega
    ·exact k0
   ·exact k0
  ·exact k0
 split
 ·unfold qbt;split
  ·split
   ·rename_i l hl;have a:=qm7 (x:=(qaQ l).1) hl;have:=qJH l;dsimp only;omega
   ·exact k0
  ·exact k0
 split
 ·unfold qbc;split
  ·rename_i hc;rw[zj]at hc;split
   ·rename_i x0 t h0 ht;split
    ·exact k0
    ·split
     ·rename_i x hx;exact qJI (qm8 hc.1) hx (qaC hx).1
     ·exact k0
   ·exact k0
  ·exact k0
 split
 ·unfold qbx;split
  ·rename_i k hk;split
   ·split
    ·rename_i n x hn hx;have a:=qey (x:=hears x n) hx;have b:=qsk (c:=setW c p.a (hears x n)) (x:=cutAt c.news k);have d:(setW c p.a (hears x n)).news=c.news:=rfl;rw[d]at b;have:=qJE x n;have:=qsn c.news k;dsimp only;omega
    ·exact k0
   ·exact k0
  ·exact k0
 ·exact k0
end Go.Proofs.YtdkobdhckkjmeaaGreat
namespace Go.Proofs.YtdkobdhckkjmeaaGreat
open Go.Sx Go.RowKit Go.Proofs.Tryz
def runD(c:Cluster)(b:Bool):List D:=[.sl 4 (c.graph.nodes.map Node.e),I c.graph.workers,I c.graph.cap,.sl 8 (c.workers.map Worker.e),.sl 6 (c.links.map Link.e),.sl 5 (c.tokens.map Token.e),.sl 3 (c.news.map News.e),B b]
abbrev runE(c:Cluster):List D:=runD c (qai c)
theorem qkd(w:Worker)(e:Int)(r:Bool)(h:qaz w e=r)(hw:w.sz≤8388608):Rt 163 [.agg w.e,.one (I e)] [.one (B r)]:=h▸qri w e hw
theorem qnq(c:Cluster)(hc:c.sz≤8388608)(hw:GotLe c):RetR prog 127 [.ro (.agg c.e)] (.new (runE c)):=
 qJ9 ⟨qLb c hc,qI5 c hc hw,trivial⟩
theorem qnr{α:Type}{f:α→List D}{xs:List α}{i:Nat}{a:α}:(xs.map f).set i (f a)=(xs.set i a).map f:=List.map_set.symm
theorem qb1{c:Cluster}{i:Int}{x:Worker}(h:wAt c i=some x):0≤i∧i<(↑(c.workers.map Worker.e).length:Int)∧(c.workers.map Worker.e)[i.toNat]?=some x.e:=by
 obtain⟨h1,h2,h3⟩:=qaC h;exact⟨h1,by rw[zb];omega,qad Worker.e h3⟩
theorem qcc{c:Cluster}{i:Int}{x:Worker}(h:wAt c i=some x)(hc:c.sz≤8388608):x.sz≤8388608:=Cluster.worker_sz1 hc (qag (qaC h).2.2)
theorem qMd{l:List News}{i:Nat}(hi:i<l.length):([]++((l.map News.e).drop 0).take (((some (i:Int)).getD (↑(l.map News.e).length:Int)).toNat-0)++((l.map News.e).drop ((some ((i:Int)+1)).getD 0).toNat).take ((l.map News.e).length-((some ((i:Int)+1)).getD 0).toNat))=(cutAt l i).map News.e:=by
 have e1:((i:Int)+1).toNat=i+1:=by omega
 simp only[cutAt,zV,zae,Nat.sub_zero,zck,List.nil_append,e1,zU,zcr,List.map_drop]
 congr 1
 rw[zbk (by simp)]
theorem qsY{l:List News}{i:Nat}:((l.map News.e).drop ((some ((i:Int)+1)).getD 0).toNat).take ((l.map News.e).length-((some ((i:Int)+1)).getD 0).toNat)=(l.drop (i+1)).map News.e:=by
 have e1:((i:Int)+1).toNat=i+1:=by omega
 simp only[zV,e1,List.map_drop];rw[zbk (by simp)]
theorem qns{c:Cluster}(h:qai c=true){i:Nat}{n:News}(hn:c.news[i]?=some n){w:Int}(hw:(n.dest==w)=true):∃x,wAt c w=some x:=by
 have hb:=qm6 h hn;simp only[qbP,inR,zy,zX,zi]at hb;have h2:=(qaH.1 h).2.1;have e:=eq_of_beq hw;exact qcA (by omega) (by omega)
theorem qke{α:Type}{f:α→List D}(h:∀a,∀d∈f a,∃x,d=.v x){l:List (List D)}{xs:List α}(hl:l=xs.map f):Flat l:=hl▸qae f h xs
theorem qsZ{c:Cluster}{w:Int}{i:Nat}{n:News}{x:Worker}(h1:c.news.findIdx? (fun n=>n.dest==w)=some i)(hok:qai c=true)(hn:c.news[i]?=some n)(hx:wAt c w=some x):qbx c w=(setN (setW c w (hears x n)) (cutAt c.news i),true):=by
 unfold qbx;simp only[h1,hok,zbb,hn,hx]
theorem qMe(c:Cluster)(w:Int)(hc:c.sz≤8388608):RetR prog 246 [.ref (runE c) (runE (qbx c w).1),.ro (.one (I w))] (.vals [.one (B (qbx c w).2)]):=by
 have hl:=qfz hc;have hok':=fun h=>qsj (c:=c) (w:=w) h
 cases hok:qai c with
 | false=>
  have e:qbx c w=(c,false):=by
   unfold qbx;split<;>simp[hok]
  rw[e];simp only[runE,hok];cases hn:c.news with
  | nil=>
   have l:qam prog (qaa f246 0) (qdc w 0 (c.graph.nodes.map Node.e) c.graph.workers c.graph.cap (c.workers.map Worker.e) (c.links.map Link.e) (c.tokens.map Token.e) (c.news.map News.e) false) (.exit 0) _:=.last (qaf 0) (qsy ⟨by simp[hn],trivial⟩);exact qnb ⟨l,trivial⟩
  | cons a l=>
   have l:qam prog (qaa f246 0) (qdc w 0 (c.graph.nodes.map Node.e) c.graph.workers c.graph.cap (c.workers.map Worker.e) (c.links.map Link.e) (c.tokens.map Token.e) (c.news.map News.e) false) (.exit 0) _:=.last (qaf 0) (qKd ⟨dT (by simp[hn]<;>omega),rfl,trivial⟩);exact qnb ⟨l,trivial⟩
 | true=>
  have hok':=hok' hok;have l:=qaW (P:=prog) (c:=(qaa f246 0)) c.news (fun n=>n.dest==w) (fun i=>qdc w i (c.graph.nodes.map Node.e) c.graph.workers c.graph.cap (c.workers.map Worker.e) (c.links.map Link.e) (c.tokens.map Token.e) (c.news.map News.e) true)
   (X:=fun i n=>match wAt c w with
    | some x=>qj7 true (c.graph.nodes.map Node.e) c.graph.workers c.graph.cap ((setW c w (hears x n)).workers.map Worker.e) (c.links.map Link.e) (c.tokens.map Token.e) ((cutAt c.news i).map News.e) true
    | none=>⟨[],[]⟩) qaE (qaf 0)
   (fun i a ha h=>qKa ⟨lt1 (lt_of ha),rfl,lt0,lt2 (lt_of ha),qac News.e ha,by simp only[bne,h];rfl,up1 (lt_of ha) hl,trivial⟩)
   (fun i a ha h=>by
    obtain⟨x,hx⟩:=qns hok ha h;have hi:=lt_of ha;obtain⟨w0,w1,w2⟩:=qb1 hx;have hs:=qcc hx hc;simp only[hx];rw[←qMd hi];cases hd:qaz x a.epoch with
    | true=>
     rw[show hears x a=x by unfold hears;rw[hd];rfl,qdV hx];exact qKc ⟨lt1 hi,rfl,lt0,lt2 hi,qac News.e ha,by simp only[bne,h];rfl,by simp,by simp,by simp;omega,by simp;omega,by simp;omega,qke (xs:=c.news.take i) News.flat (by simp),up1 hi hl,by simp;omega,by simp;omega,by simp,by simp;omega,by simp;omega,qke (xs:=c.news.drop (i+1)) News.flat qsY,w0,w1,w2,qmJ x a.epoch true hd hs,rfl,trivial⟩
    | false=>
     have hdl:x.dones.length≤8388608:=by simp only[Worker.sz]at hs;omega
     have e2:(setW c w (hears x a)).workers.map Worker.e=(c.workers.map Worker.e).set w.toNat (told x a.epoch a.capped).e:=by
      rw[show hears x a=told x a.epoch a.capped by unfold hears;rw[hd];rfl];exact qnr.symm
     rw[e2];have e3:(told x a.epoch a.capped).e=[.sl 5 (x.queue.map Record.e),.sl 5 (x.staged.map Record.e),.sl 5 (x.inputs.map Record.e),.sl 4 (x.cells.map Cell.e),.sl 1 (x.sums.map eI),.sl 1 (x.black.map eB),.sl 1 (x.caps.map eB),.sl 2 (x.dones.map Done.e++[[I a.epoch,B a.capped]])]:=by
      simp only[told,Worker.e,zU];rfl
     rw[e3];exact qKb ⟨lt1 hi,rfl,lt0,lt2 hi,qac News.e ha,by simp only[bne,h];rfl,by simp,by simp,by simp;omega,by simp;omega,by simp;omega,qke (xs:=c.news.take i) News.flat (by simp),up1 hi hl,by simp;omega,by simp;omega,by simp,by simp;omega,by simp;omega,qke (xs:=c.news.drop (i+1)) News.flat qsY,w0,w1,w2,qmJ x a.epoch false hd hs,rfl,w0,w1,w2,by simp;omega,by simp;omega,w2,rfl,qat (Done.flat ⟨a.epoch,a.capped⟩),rfl,rfl,rfl,rfl,rfl,rfl,rfl,rfl,rfl,rfl,rfl,w0,w1,w2,rfl,trivial⟩)
   (qsy ⟨ge1,trivial⟩)
  rcases l with⟨_,h1,_,h2⟩ | ⟨i,a,ha,hp,_,h1,_,h2⟩
  ·have e:qbx c w=(c,false):=by unfold qbx;simp only[h1]
   rw[e];simp only[runE,hok];exact qnb ⟨h2,trivial⟩
  ·obtain⟨x,hx⟩:=qns hok ha hp;rw[qsZ h1 hok ha hx]at hok' ⊢;simp only[hx]at h2;simp only[runE,hok,hok'];exact qKe ⟨h2,trivial⟩
end Go.Proofs.YtdkobdhckkjmeaaGreat
namespace Go.Proofs.YtdkobdhckkjmeaaGreat
open Go.Sx Go.RowKit Go.Proofs.Tryz
theorem beq0(a b:Nat):(((a:Int)+(b:Int))==0)=(a+b==0):=by
 rw[Bool.eq_iff_iff];simp only[zE];omega
theorem qMg(w:Worker)(e:Int)(hw:w.sz≤8388608):Rt 168 [.agg w.e,.one (I e)] [.one (B (qfA w e))]:=by
 have hl:w.inputs.length≤8388608:=by simp only[Worker.sz]at hw;omega
 have l:=qaW (P:=prog) (c:=(qaa f168 0)) w.inputs (fun r=>decide (r.stamp.epoch≤e)) (fun i=>qfE (w.queue.map Record.e) (w.staged.map Record.e) (w.inputs.map Record.e) (w.cells.map Cell.e) (w.sums.map eI) (w.black.map eB) (w.caps.map eB) (w.dones.map Done.e) e i) (X:=fun _ _=>qnc true) qaE (qaf 0)
  (fun i a ha h=>qKX ⟨lt1 (lt_of ha),lt0,lt2 (lt_of ha),qac Record.e ha,h,up1 (lt_of ha) hl,trivial⟩)
  (fun i a ha h=>qKW ⟨lt1 (lt_of ha),lt0,lt2 (lt_of ha),qac Record.e ha,h,trivial⟩)
  (qKY ⟨ge1,trivial⟩)
 unfold qfA;rcases l with⟨_,_,h1,h2⟩ | ⟨i,a,_,_,_,_,h1,h2⟩
 ·rw[h1];exact qK0 ⟨h2,trivial⟩
 ·rw[h1];exact qKZ ⟨h2,trivial⟩
theorem qMh(w:Worker)(e:Int)(hw:w.sz≤8388608):Rt 272 [.agg w.e,.one (I e)] [.one (B (qfA w e))]:=by
 have hl:w.inputs.length≤8388608:=by simp only[Worker.sz]at hw;omega
 exact qK4 ⟨qrf w.inputs (fun r=>decide (r.stamp.epoch≤e)) 319 [.ptr [I e]] hl (by kernel_rfl) (fun x _=>qK5 trivial),trivial⟩
theorem qMi(w:Worker)(e:Int)(hw:w.sz≤8388608):Rt 169 [.agg w.e,.one (I e)] [.one (I ((↑((qa6 e w.queue).map Record.e).length:Int)+(↑((qa6 e w.staged).map Record.e).length:Int)))]:=by
 simp only[Worker.sz]at hw;have k1:(qa6 e w.queue).length≤w.queue.length:=zat _ _;have k2:(qa6 e w.staged).length≤w.staged.length:=zat _ _;exact qK3 ⟨qrb w.queue e (by omega),qrb w.staged e (by omega),⟨by simp only[zb];omega,by simp only[zb];omega⟩,trivial⟩
theorem qMj(w:Worker)(e:Int)(hw:w.sz≤8388608):Rt 49 [.agg w.e,.one (I e)] [.one (B (qbF w e))]:=by
 have o:=qMg w e hw;unfold qbF;cases h:qfA w e with
 | true=>rw[h]at o;exact qK2 ⟨o,rfl,trivial⟩
 | false=>
  rw[h]at o;have a:=qMi w e hw;rw[zb,zb]at a;have b:=qK1 ⟨o,rfl,a,trivial⟩;rw[beq0]at b;exact b
theorem qMk(w:Worker)(e:Int)(hw:w.sz≤8388608):Rt 273 [.agg w.e,.one (I e)] [.one (I ((↑((qa6 e w.queue).map Record.e).length:Int)+(↑((qa6 e w.staged).map Record.e).length:Int)))]:=by
 simp only[Worker.sz]at hw;have k1:(qa6 e w.queue).length≤w.queue.length:=zat _ _;have k2:(qa6 e w.staged).length≤w.staged.length:=zat _ _;exact qK8 ⟨qgn w.queue e (by omega),qgn w.staged e (by omega),⟨by simp only[zb];omega,by simp only[zb];omega⟩,trivial⟩
theorem qMl(w:Worker)(e:Int)(hw:w.sz≤8388608):Rt 164 [.agg w.e,.one (I e)] [.one (B (qbF w e))]:=by
 have o:=qMh w e hw;unfold qbF;cases h:qfA w e with
 | true=>rw[h]at o;exact qK7 ⟨o,rfl,trivial⟩
 | false=>
  rw[h]at o;have a:=qMk w e hw;rw[zb,zb]at a;have b:=qK6 ⟨o,rfl,a,trivial⟩;rw[beq0]at b;exact b
theorem qs0(w:Worker)(e:Int)(r:Bool)(h:qbF w e=r)(hw:w.sz≤8388608):Rt 49 [.agg w.e,.one (I e)] [.one (B r)]:=h▸qMj w e hw
theorem qs1(w:Worker)(e:Int)(r:Bool)(h:qbF w e=r)(hw:w.sz≤8388608):Rt 164 [.agg w.e,.one (I e)] [.one (B r)]:=h▸qMl w e hw
