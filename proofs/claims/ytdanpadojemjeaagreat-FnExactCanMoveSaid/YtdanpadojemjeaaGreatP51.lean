/- What every step leaves: the graph, and what the links have received; a run of picks. -/
import Derived.Test.YtdanpadojemjeaaGreatP28
import Derived.Test.YtdanpadojemjeaaGreatP46
import Derived.Test.YtdanpadojemjeaaGreatP7
import Derived.Test.YtdanpadojemjeaaGreatGX
import Derived.Test.YtdanpadojemjeaaGreatGW
set_option linter.unusedVariables false
set_option linter.unusedSimpArgs false
namespace Go.Proofs.YtdanpadojemjeaaGreat
open Go.Sx Go.RowKit Go.Proofs.Tryz
theorem GotLe.setL{c:Cluster}{i:Int}{l:Link}(h:GotLe c)(hl:l.got≤9223372036854775807):GotLe (setL c i l):=by
 intro x hx
 rcases zbf hx with h1 | rfl
 ·exact h x h1
 ·exact hl
theorem GotLe.at{c:Cluster}{i:Int}{x:Link}(h:lAt c i=some x)(hw:GotLe c):x.got≤9223372036854775807:=hw _ (qas (qed h).2.2)
structure Kept' (c d:Cluster):Prop where
 graph:d.graph=c.graph
 got:GotLe c→GotLe d
 wlen:d.workers.length=c.workers.length
theorem Kept'.rfl{c:Cluster}:Kept' c c:=⟨Eq.refl _,id,Eq.refl _⟩
theorem Kept'.links{c d:Cluster}(h1:d.graph=c.graph)(h2:d.links=c.links)(h3:d.workers.length=c.workers.length:=by simp[setW,setN,setT,setL,told,qb0]):Kept' c d:=⟨h1,fun h x hx=>h x (h2▸hx),h3⟩
theorem Kept'.trans{c d e:Cluster}(h:Kept' c d)(k:Kept' d e):Kept' c e:=⟨k.graph.trans h.graph,fun x=>k.got (h.got x),k.wlen.trans h.wlen⟩
end Go.Proofs.YtdanpadojemjeaaGreat
namespace Go.Proofs.YtdanpadojemjeaaGreat
open Go.Sx Go.RowKit Go.Proofs.Tryz
def qmh(c:Cluster):Bool:=(qbv c).any fun p=>(stepPick c p).2
theorem qOo(c:Cluster)(hc:c.sz≤8388608)(hw:GotLe c):Rt 20 [.agg c.e] [.one (B (qmh c))]:=by
 have hl:=qgD c
 have l:=qaS (P:=prog) (c:=(qaa f20 0)) (qbv c) (fun p=>(stepPick c p).2) (fun i=>qfq ((qbv c).map Pick.e) i (c.graph.nodes.map Node.e) c.graph.workers c.graph.cap (c.workers.map Worker.e) (c.links.map Link.e) (c.tokens.map Token.e) (c.news.map News.e)) (e1:=.ret) (e2:=.exit 0) (X:=fun _ _=>qlU true) qaw (qaf 0)
  (fun i a ha h=>by
   have s:=ql8 c a hc hw
   rw[h]at s
   exact qMQ ⟨lt1 (lt_of ha),lt0,lt2 (lt_of ha),qac Pick.e ha,s,rfl,up1 (lt_of ha) (by omega),trivial⟩)
  (fun i a ha h=>by
   have s:=ql8 c a hc hw
   rw[h]at s
   exact qMP ⟨lt1 (lt_of ha),lt0,lt2 (lt_of ha),qac Pick.e ha,s,rfl,trivial⟩)
  (qMR ⟨ge1,trivial⟩)
 unfold qmh
 rcases l with⟨_,_,h1,h2⟩ | ⟨i,a,_,_,_,_,h1,h2⟩
 ·rw[h1];exact qMT ⟨qhW c,h2,trivial⟩
 ·rw[h1];exact qMS ⟨qhW c,h2,trivial⟩
theorem qOp(c:Cluster)(hc:c.sz≤8388608)(hw:GotLe c):Rt 21 [.agg c.e] [.one (B (qmh c))]:=by
 have hl:=qgD c
 exact qMN ⟨qrW c,qCP (qbv c) (fun p=>(stepPick c p).2) 86 [.ptr c.e] (by omega) (by kernel_rfl) (fun p _=>qMO ⟨ql7 c p hc hw,trivial⟩),trivial⟩
end Go.Proofs.YtdanpadojemjeaaGreat
