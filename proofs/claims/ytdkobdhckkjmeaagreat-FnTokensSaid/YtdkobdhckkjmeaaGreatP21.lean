import Derived.Test.YtdkobdhckkjmeaaGreatC6
import Derived.Test.YtdkobdhckkjmeaaGreatGU
import Derived.Test.YtdkobdhckkjmeaaGreatR22
import Derived.Test.YtdkobdhckkjmeaaGreatT1
import Derived.Test.YtdkobdhckkjmeaaGreatRows
import Derived.WalkKit
import Derived.Deep.RegionLaw
import Derived.Shelf.RegionOpenPlain
import Derived.Lib.SliceRun
import Derived.Lib.JoinLaws
import Derived.Lib.Overlaps
import Derived.Lib.AppendZerosOnto
import Derived.Laws.Externs
import Derived.Deep.LoopGhost
import Derived.Lib.Walk
import Derived.Test.YtdkobdhckkjmeaaGreatC0
set_option linter.unusedVariables false
set_option linter.unusedSimpArgs false
namespace Go.Proofs.YtdkobdhckkjmeaaGreat
open Go.Sx Go.RowKit Go.Proofs.Tryz
theorem Cluster.link_wf{c:Cluster}(h:c.wf){l:Link}(hl:l∈c.links):l.wf:=h.links_ok.2 l hl
structure Nums (c:Cluster):Prop where
 n:inInt .i64 c.graph.workers
 l:∀l∈c.links,inInt .i64 l.cap∧l.got≤9223372036854775807
theorem Nums.of{c:Cluster}(h:c.wf):Nums c:=⟨h.graph_ok.workers_ok,fun l hl=>⟨(Cluster.link_wf h hl).cap_ok,(Cluster.link_wf h hl).got_ok.2⟩⟩
theorem Cluster.link_sz{c:Cluster}(h:c.sz≤8388608){l:Link}(hl:l∈c.links):l.sz≤8388608:=by
 have:=qeZ (sz:=Link.sz) (xs:=c.links) (m:=8388608) (by simp only[Cluster.sz]at h;omega) hl;exact this
def qbp(e:Int)(l:Link):Nat:=(qa6 e l.queue).length
def defF(e n:Int)(w:Worker):Int:=if inR e 0 (w.sums.length-1) then wrp (n+w.sums.getD e.toNat 0) else n
def qfq(c:Cluster)(e:Int):Int:=c.workers.foldl (defF e) 0
theorem qry{xs:List Int}{e:Int}(h:inR e 0 (xs.length-1)=true):0≤e∧e<(↑(xs.map eI).length:Int)∧(xs.map eI)[e.toNat]?=some [I (xs.getD e.toNat 0)]:=by
 simp only[inR,zi]at h;refine⟨h.1,by rw[zb];omega,?_⟩;have:e.toNat<xs.length:=by omega
 rw[zr,zu this,zN,zu this];rfl
theorem wlen{α:Type}{f:Int→α}{xs:List Int}(h:xs.length≤8388608):IntKind.i64.wrap ((↑(xs.map f).length:Int)-1)=(xs.length:Int)-1:=by
 rw[zb];exact inInt.wrap ⟨by omega,by omega⟩
theorem qHL(c:Cluster)(e:Int)(hc:c.sz≤8388608):Rt 48 [.agg c.e,.one (I e)] [.one (I (qfq c e))]:=by
 have hl:=Cluster.wlen_le hc;have l:=qao (P:=prog) (c:=(qaa f48 0)) (qaf 0) c.workers.length (fun i:Nat=>qfl (c.graph.nodes.map Node.e) c.graph.workers c.graph.cap (c.workers.map Worker.e) (c.links.map Link.e) (c.tokens.map Token.e) (c.news.map News.e) e i (qcT (defF e) 0 c.workers i)) (fun i hi=>by
  obtain⟨a,ha⟩:=qal hi;have hs:=Cluster.worker_sz hc (qag ha);simp only[Worker.sz]at hs;rw[qji ha];by_cases h:inR e 0 (a.sums.length-1)=true
  ·obtain⟨h1,h2,h3⟩:=qry h;rw[defF,zp h];exact qEy ⟨lt1 hi,lt0,lt2 hi,qac Worker.e ha,qaK _ _ _ true (by rw[wlen (xs:=a.sums) (by omega)];exact h),rfl,lt0,lt2 hi,qac Worker.e ha,h1,h2,h3,up1 hi hl,trivial⟩
  ·rw[defF,zo h];exact qEz ⟨lt1 hi,lt0,lt2 hi,qac Worker.e ha,qaK _ _ _ false (by rw[wlen (xs:=a.sums) (by omega)];simpa using h),rfl,up1 hi hl,trivial⟩) (qEA ⟨ge1,trivial⟩)
 rw[qjj,qpw]at l;exact qEB ⟨l,trivial⟩
theorem qHM(c:Cluster)(e:Int)(hc:c.sz≤8388608):Rt 47 [.agg c.e,.one (I e)] [.one (I (qfq c e))]:=by
 have hl:=Cluster.wlen_le hc;have l:=qao (P:=prog) (c:=(qaa f47 0)) (qaf 0) c.workers.length (fun i:Nat=>qfm (c.workers.map Worker.e) e i (qcT (defF e) 0 c.workers i)) (fun i hi=>by
  obtain⟨a,ha⟩:=qal hi;have hs:=Cluster.worker_sz hc (qag ha);simp only[Worker.sz]at hs;rw[qji ha];by_cases h:inR e 0 (a.sums.length-1)=true
  ·obtain⟨h1,h2,h3⟩:=qry h;rw[defF,zp h];exact qEC ⟨lt1 hi,lt0,lt2 hi,qac Worker.e ha,qaO _ _ _ true (by rw[wlen (xs:=a.sums) (by omega)];exact h),rfl,h1,h2,h3,up1 hi hl,trivial⟩
  ·rw[defF,zo h];exact qED ⟨lt1 hi,lt0,lt2 hi,qac Worker.e ha,qaO _ _ _ false (by rw[wlen (xs:=a.sums) (by omega)];simpa using h),rfl,up1 hi hl,trivial⟩) (qEE ⟨ge1,trivial⟩)
 rw[qjj,qpw]at l;exact qEF ⟨l,trivial⟩
def qax(key workers:Int):Int:=if workers<1 then 0 else if key.tmod workers<0 then key.tmod workers+workers else key.tmod workers
theorem qmY(a b:Int)(h:0<b):- b<a.tmod b:=by
 rcases Int.le_total 0 a with ha | ha
 ·have:=Int.tmod_nonneg b ha;omega
 ·have h1:(-a).tmod b<b:=Int.tmod_lt_of_pos _ h;rw[Int.neg_tmod]at h1;omega
theorem qrB(key workers:Int)(hw:workers≤9223372036854775807):Rt 245 [.one (I key),.one (I workers)] [.one (I (qax key workers))]:=by
 unfold qax;split
 ·exact qEJ ⟨by simpa using ‹workers<1›,trivial⟩
 ·rename_i h;have h1:=qmY key workers (by omega);have h2:key.tmod workers<workers:=Int.tmod_lt_of_pos _ (by omega);split
  ·rename_i h3;exact qEK ⟨by simp only[zf];omega,by omega,by simpa using h3,⟨by omega,by omega⟩,trivial⟩
  ·rename_i h3;exact qEL ⟨by simp only[zf];omega,by omega,by simpa using h3,trivial⟩
def qdA(w n:Int)(r:Record):Bool:=qax r.key n != w
def badW(n:Int)(i:Nat)(w:Worker):Bool:=w.queue.any (qdA i n)||w.inputs.any (qdA i n)
def badL(n:Int)(i:Nat)(l:Link):Bool:=decide (n<1)||l.queue.any (qdA ((i:Int).tmod n) n)
def qgx(c:Cluster):Bool:=!(anyI (badW c.graph.workers) 0 c.workers)&&!(anyI (badL c.graph.workers) 0 c.links)
theorem Worker.queue_le{w:Worker}(h:w.sz≤8388608):w.queue.length≤8388608:=by simp only[Worker.sz]at h;omega
theorem Worker.inputs_le{w:Worker}(h:w.sz≤8388608):w.inputs.length≤8388608:=by simp only[Worker.sz]at h;omega
end Go.Proofs.YtdkobdhckkjmeaaGreat
namespace Go.Proofs.YtdkobdhckkjmeaaGreat
open Go.Sx Go.RowKit Go.Shelf Go.Lib Go.Proofs.Tryz
end Go.Proofs.YtdkobdhckkjmeaaGreat
namespace Go.Proofs.YtdkobdhckkjmeaaGreat
open Go.Sx Go.RowKit Go.Proofs.Tryz
def qci(xs:List Cell)(x:Cell):Bool:=xs.any fun a=>decide (a=x)
def qbY(xs:List Cell)(x:Cell):Nat:=(xs.findIdx? fun a=>!decide (qbg a x<0)).getD xs.length
def qbD(xs:List Cell)(x:Cell):List Cell:=if qci xs x then xs else xs.take (qbY xs x)++x::xs.drop (qbY xs x)
theorem qms(xs:List Cell)(x:Cell):qbY xs x≤xs.length:=by
 unfold qbY;cases h:xs.findIdx? (fun a=>!decide (qbg a x<0)) with
 | none=>simp
 | some i=>
  rw[zai]at h;have:=h.1;simp;omega
theorem qqH(xs:List Cell)(x:Cell):(qbD xs x).length≤xs.length+1:=by
 unfold qbD;split
 ·omega
 ·have:=qms xs x;simp;omega
theorem qqI(xs:List Cell)(x:Cell)(hl:xs.length≤8388608):Rt 305 [.one (.sl 4 (xs.map Cell.e)),.agg x.e] [.one (B (qci xs x))]:=by
 have l:=qaW (P:=prog) (c:=(qaa f305 0)) xs (fun a=>decide (a=x)) (fun i=>qff (xs.map Cell.e) x.op x.epoch x.key x.val i) (X:=fun _ _=>qmo true) qaE (qaf 0)
  (fun i a ha h=>qy5 ⟨lt1 (lt_of ha),lt0,lt2 (lt_of ha),qac Cell.e ha,(qmk a x).trans h,up1 (lt_of ha) hl,trivial⟩)
  (fun i a ha h=>qy4 ⟨lt1 (lt_of ha),lt0,lt2 (lt_of ha),qac Cell.e ha,(qmk a x).trans h,trivial⟩)
  (qy6 ⟨ge1,trivial⟩)
 unfold qci;rcases l with⟨_,_,h1,h2⟩ | ⟨i,a,_,_,_,_,h1,h2⟩
 ·rw[h1];exact qy8 ⟨h2,trivial⟩
 ·rw[h1];exact qy7 ⟨h2,trivial⟩
theorem qqJ(xs:List Cell)(x:Cell)(r:Bool)(h:qci xs x=r)(hl:xs.length≤8388608):Rt 305 [.one (.sl 4 (xs.map Cell.e)),.agg x.e] [.one (B r)]:=h▸qqI xs x hl
theorem qeg(xs:List Cell)(hl:xs.length≤8388608):Rt 301 [.one (.sl 4 (xs.map Cell.e))] [.one (.sl 4 (xs.map Cell.e))]:=
 qyp ⟨by simp;omega,by simp;omega,qae _ Cell.flat _,trivial⟩
theorem qhA(xs:List Cell)(x:Cell)(hl:xs.length≤8388608):Rt 249 [.one (.sl 4 (xs.map Cell.e)),.agg x.e] [.one (.sl 4 ((qbD xs x).map Cell.e))]:=by
 unfold qbD;cases h:qci xs x with
 | true=>
  rw[zp rfl];exact qy9 ⟨qqJ xs x true h hl,rfl,by simp;omega,by simp;omega,qae _ Cell.flat _,trivial⟩
 | false=>
  rw[zo (by simp)];have l:qam prog (qaa f249 0) (qfg (xs.map Cell.e) x.op x.epoch x.key x.val 0) (Ex.exit 0) (qhy (xs.map Cell.e) x.op x.epoch x.key x.val (qbY xs x)):=by
   have l:=qaW (P:=prog) (c:=(qaa f249 0)) xs (fun a=>!decide (qbg a x<0)) (fun i=>qfg (xs.map Cell.e) x.op x.epoch x.key x.val i) (X:=fun i _=>qhy (xs.map Cell.e) x.op x.epoch x.key x.val i) (qaf 0) (qaf 0)
    (fun i a ha h=>qza ⟨lt1 (lt_of ha),lt0,lt2 (lt_of ha),qac Cell.e ha,qjx a x,by simpa using h,up1 (lt_of ha) hl,trivial⟩)
    (fun i a ha h=>qzb ⟨lt1 (lt_of ha),lt0,lt2 (lt_of ha),qac Cell.e ha,qjx a x,by simpa using h,trivial⟩)
    (qzc ⟨ge1,trivial⟩)
   unfold qbY;rcases l with⟨_,h1,_,h2⟩ | ⟨i,a,_,_,_,h1,_,h2⟩
   ·rw[h1];exact h2
   ·rw[h1];exact h2
  have hp:=qms xs x;generalize qbY xs x=p at*;refine qyo (qzd ⟨qqJ xs x false h hl,rfl,l,by simp,by simp,by simp;omega,by simp;omega,by simp;omega,?_,by simp;omega,by simp;omega,qat x.flat,by simp,by simp;omega,by simp,by simp;omega,by simp;omega,?_,trivial⟩) ?_
  ·simp only[zV,zae,Nat.sub_zero,zck,←zcr];exact qae _ Cell.flat _
  ·simp only[zV,zae,←zcr,←List.map_drop];exact qae _ Cell.flat _
  ·simp only[zV,zae,Nat.sub_zero,zck,List.nil_append,←zcr,←List.map_drop,zU,zav,zba]
   congr 1
   rw[zbk (by simp)];rfl
end Go.Proofs.YtdkobdhckkjmeaaGreat
namespace Go.Proofs.YtdkobdhckkjmeaaGreat
open Go.Sx Go.RowKit Go.Proofs.Tryz
def qaP(g:Graph)(op:Int):Option Node:=if 0≤op then g.nodes[op.toNat]? else none
theorem qjz{g:Graph}{a:Int}{w:Node}(h:qaP g a=some w):0≤a∧a<(↑(g.nodes.map Node.e).length:Int)∧(g.nodes.map Node.e)[a.toNat]?=some w.e∧inR a 0 (↑(g.nodes.map Node.e).length-1)=true:=by
 unfold qaP at h;split at h
 ·have:=(zk.1 h).1;refine⟨‹_›,by simp;omega,by simp[h],?_⟩;simp only[inR,zb,zi];omega
 ·cases h
theorem qqN{g:Graph}{a:Int}(h:qaP g a=none):inR a 0 (↑(g.nodes.map Node.e).length-1)=false:=by
 unfold qaP at h;simp only[inR,zb,zf];split at h
 ·rw[List.getElem?_eq_none_iff]at h;omega
 ·omega
theorem qmt{g:Graph}{a:Int}{w:Node}(h:qaP g a=some w):w∈g.nodes:=by
 unfold qaP at h;split at h
 ·exact zw h
 ·cases h
theorem Graph.nodes_le{g:Graph}(h:g.sz≤8388608):g.nodes.length≤8388608:=by simp only[Graph.sz,szS]at h;omega
theorem Graph.outs_le{g:Graph}(h:g.sz≤8388608){w:Node}(hw:w∈g.nodes):w.outs.length≤8388608:=by
 have:=qjh (sz:=Node.sz) hw;simp only[Graph.sz,szS]at h;have h5:w.outs.length≤w.sz:=by simp only[Node.sz];omega
 omega
theorem qjA{g:Graph}(h:g.sz≤8388608):inInt .i64 ((↑(g.nodes.map Node.e).length:Int)-1):=by
 have:=Graph.nodes_le h;exact⟨by simp;omega,by simp;omega⟩
theorem qzQ(g:Graph)(op:Int)(hg:g.sz≤8388608):Rt 250 [.agg g.e,.one (I op)] [.one (B (qaP g op).isSome)]:=by
 cases h:qaP g op with
 | none=>exact qqt ⟨qjA hg,qaO _ _ _ _ (qqN h),trivial⟩
 | some w=>exact qqt ⟨qjA hg,qaO _ _ _ _ (qjz h).2.2.2,trivial⟩
theorem qgk(g:Graph)(op:Int)(r:Bool)(h:(qaP g op).isSome=r)(hg:g.sz≤8388608):Rt 250 [.agg g.e,.one (I op)] [.one (B r)]:=h▸qzQ g op hg
def qeh(g:Graph)(op:Int):Node×Bool:=match qaP g op with | some n=>(n,true) | none=>(⟨0,0,0,[]⟩,false)
theorem qzR(n:Int):∀d∈eI n,∃x,d=.v x:=by
 intro d hd;simp only[eI,zL,zbu,or_false]at hd;subst hd;exact⟨_,rfl⟩
theorem qzS(g:Graph)(op:Int)(hg:g.sz≤8388608):Rt 248 [.agg g.e,.one (I op)] [.agg (qeh g op).1.e,.one (B (qeh g op).2)]:=by
 unfold qeh;cases h:qaP g op with
 | none=>exact qze ⟨qjA hg,qaK _ _ _ _ (qqN h),rfl,trivial⟩
 | some w=>
  obtain⟨h1,h2,h3,h4⟩:=qjz h;have ho:=Graph.outs_le hg (qmt h);exact qzf ⟨qjA hg,qaK _ _ _ _ h4,rfl,h1,h2,h3,by simp;omega,by simp;omega,qae _ qzR _,trivial⟩
theorem qjB(g:Graph)(op:Int)(r:Node×Bool)(h:qeh g op=r)(hg:g.sz≤8388608):Rt 248 [.agg g.e,.one (I op)] [.agg r.1.e,.one (B r.2)]:=h▸qzS g op hg
