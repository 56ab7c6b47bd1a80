/- ClusterOk, SafeCluster: what program and reference compute; the law SafeCluster answers true. -/
import Derived.Test.YtdkobdhckkjmeaaGreatP29
set_option linter.unusedVariables false
set_option linter.unusedSimpArgs false
namespace Go.Proofs.YtdkobdhckkjmeaaGreat
open Go.Sx Go.RowKit Go.Proofs.Tryz
theorem graph_sz1{c:Cluster}(h:c.sz≤8388608):c.graph.sz≤8388608:=by simp only[Cluster.sz]at h;omega
theorem qrL{c:Cluster}(h:c.sz≤8388608):c.tokens.length≤8388608:=by simp only[Cluster.sz,szS]at h;omega
theorem qfz{c:Cluster}(h:c.sz≤8388608):c.news.length≤8388608:=by simp only[Cluster.sz,szS]at h;omega
def qbE(g:Graph)(i:Nat)(l:Link):Bool:=
 !qbq l||((l.cap != g.cap)||(!qaV g l.queue||((i:Int).tdiv g.workers==(i:Int).tmod g.workers&&decide ((l.queue.length:Int)>0))))
def qbO(n:Int)(t:Token):Bool:=!inR t.place 0 (n-1)||((!t.going&&t.place != 0)||!inR t.sum (-1000000) 1000000)
def qbP(n:Int)(x:News):Bool:=!inR x.dest 0 (n-1)||!inR x.epoch 0 3
def qai(c:Cluster):Bool:=
 qax c.graph&&(((c.workers.length:Int)==c.graph.workers)&&(((c.links.length:Int)==c.graph.workers*c.graph.workers)&&((c.tokens.length==4)&&(!(c.workers.any fun w=>!qaJ c.graph w)&&(!(anyI (qbE c.graph) 0 c.links)&&(!(c.tokens.any (qbO c.graph.workers))&&!(c.news.any (qbP c.graph.workers))))))))
theorem qa7{g:Graph}(h:qax g=true):1≤g.workers∧g.workers≤4:=by
 simp only[qax,zj,inR,zi]at h;omega
theorem qgy(i:Nat)(n:Int)(hi:i≤8388608)(hn:1≤n):inInt .i64 ((i:Int).tdiv n):=by
 have h1:0≤(i:Int).tdiv n:=Int.tdiv_nonneg (by omega) (by omega);have h2:(i:Int).tdiv n≤(i:Int):=Int.tdiv_le_self _ (by omega);exact⟨by omega,by omega⟩
theorem qIk{c:Cluster}(h:c.wf){l:Link}(hl:l∈c.links):l.got≤9223372036854775807:=by
 have:=(Cluster.link_wf h hl).got_ok;simp only[inInt]at this;exact this.2
def GotLe(c:Cluster):Prop:=∀l∈c.links,l.got≤9223372036854775807
theorem GotLe.of{c:Cluster}(h:c.wf):GotLe c:=fun _ hl=>qIk h hl
theorem qIl(c:Cluster)(hc:c.sz≤8388608)(hn:(c.workers.length:Int)=c.graph.workers):
  ((c.workers.any fun w=>!qaJ c.graph w)=false∧qam prog (qaa f56 0) (qcU (c.graph.nodes.map Node.e) c.graph.workers c.graph.cap (c.workers.map Worker.e) (c.links.map Link.e) (c.tokens.map Token.e) (c.news.map News.e) 0) (.exit 0) (qgq (c.graph.nodes.map Node.e) c.graph.workers c.graph.cap (c.workers.map Worker.e) (c.links.map Link.e) (c.tokens.map Token.e) (c.news.map News.e)))∨
  ((c.workers.any fun w=>!qaJ c.graph w)=true∧qam prog (qaa f56 0) (qcU (c.graph.nodes.map Node.e) c.graph.workers c.graph.cap (c.workers.map Worker.e) (c.links.map Link.e) (c.tokens.map Token.e) (c.news.map News.e) 0) .ret (qjH false)):=by
 have hl:=Cluster.wlen_le hc;have l:=qaW (P:=prog) (c:=(qaa f56 0)) c.workers (fun w=>!qaJ c.graph w) (fun i=>qcU (c.graph.nodes.map Node.e) c.graph.workers c.graph.cap (c.workers.map Worker.e) (c.links.map Link.e) (c.tokens.map Token.e) (c.news.map News.e) i) (X:=fun _ _=>qjH false) qaE (qaf 0)
  (fun i a ha h=>by
   have k:=qrJ c.graph a (graph_sz1 hc) (Cluster.worker_sz hc (qag ha));rw[show qaJ c.graph a=true by simpa using h]at k;exact qBX ⟨dT (by have:=lt_of ha;omega),lt0,lt2 (lt_of ha),qac Worker.e ha,k,rfl,up1 (lt_of ha) hl,trivial⟩)
  (fun i a ha h=>by
   have k:=qrJ c.graph a (graph_sz1 hc) (Cluster.worker_sz hc (qag ha));rw[show qaJ c.graph a=false by simpa using h]at k;exact qBW ⟨dT (by have:=lt_of ha;omega),lt0,lt2 (lt_of ha),qac Worker.e ha,k,rfl,trivial⟩)
  (qBY ⟨dF (by omega),trivial⟩)
 rcases l with⟨_,_,h1,h2⟩ | ⟨_,_,_,_,_,_,h1,h2⟩
 ·exact .inl ⟨h1,h2⟩
 ·exact .inr ⟨h1,h2⟩
theorem qIm(c:Cluster)(hc:c.sz≤8388608)(hw:GotLe c)(hn:1≤c.graph.workers):
  (anyI (qbE c.graph) 0 c.links=false∧qam prog (qaa f56 1) (qb7 c.graph.workers 0 (c.graph.nodes.map Node.e) c.graph.workers c.graph.cap (c.workers.map Worker.e) (c.links.map Link.e) (c.tokens.map Token.e) (c.news.map News.e)) (.exit 2) (qhE c.graph.workers (c.graph.nodes.map Node.e) c.graph.workers c.graph.cap (c.workers.map Worker.e) (c.links.map Link.e) (c.tokens.map Token.e) (c.news.map News.e)))∨
  (anyI (qbE c.graph) 0 c.links=true∧qam prog (qaa f56 1) (qb7 c.graph.workers 0 (c.graph.nodes.map Node.e) c.graph.workers c.graph.cap (c.workers.map Worker.e) (c.links.map Link.e) (c.tokens.map Token.e) (c.news.map News.e)) .ret (qgr false)):=by
 have hl:=Cluster.llen_le hc;have kl:∀(i:Nat) (a:Link),c.links[i]?=some a→∀r,qbq a=r→Rt 176 [.agg a.e] [.one (B r)]:=fun i a ha r h=>h▸qjU a (Cluster.link_sz hc (qag ha))
 have kr:∀(i:Nat) (a:Link),c.links[i]?=some a→∀r,qaV c.graph a.queue=r→Rt 177 [.agg c.graph.e,.one (.sl 5 (a.queue.map Record.e))] [.one (B r)]:=fun i a ha r h=>qfx c.graph _ r h (graph_sz1 hc) (Cluster.link_sz hc (qag ha))
 exact qdn (P:=prog) (c:=(qaa f56 1)) c.links (qbE c.graph) (fun i=>qb7 c.graph.workers i (c.graph.nodes.map Node.e) c.graph.workers c.graph.cap (c.workers.map Worker.e) (c.links.map Link.e) (c.tokens.map Token.e) (c.news.map News.e)) qaE (qaf 2)
  (fun i a ha h=>by
   have hi:=lt_of ha;simp only[qbE,zy,zX]at h;obtain⟨h1,h2,h3,h4⟩:=h;cases h5:((i:Int).tdiv c.graph.workers==(i:Int).tmod c.graph.workers) with
   | true=>
    rw[h5,zbl]at h4;exact qB4 ⟨lt1 (lt_of ha),lt0,lt2 (lt_of ha),qac Link.e ha,kl i a ha _ h1,rfl,h2,kr i a ha _ h3,rfl,by omega,qgy i _ (by omega) hn,by omega,h5,by rw[zb];exact h4,up1 hi hl,trivial⟩
   | false=>exact qB5 ⟨lt1 (lt_of ha),lt0,lt2 (lt_of ha),qac Link.e ha,kl i a ha _ h1,rfl,h2,kr i a ha _ h3,rfl,by omega,qgy i _ (by omega) hn,by omega,h5,up1 hi hl,trivial⟩)
  (fun i a ha h=>by
   have hi:=lt_of ha;cases h1:qbq a with
   | false=>exact qB0 ⟨lt1 (lt_of ha),lt0,lt2 (lt_of ha),qac Link.e ha,kl i a ha _ h1,rfl,trivial⟩
   | true=>
   cases h2:(a.cap != c.graph.cap) with
   | true=>exact qB1 ⟨lt1 (lt_of ha),lt0,lt2 (lt_of ha),qac Link.e ha,kl i a ha _ h1,rfl,h2,trivial⟩
   | false=>
   cases h3:qaV c.graph a.queue with
   | false=>exact qB2 ⟨lt1 (lt_of ha),lt0,lt2 (lt_of ha),qac Link.e ha,kl i a ha _ h1,rfl,h2,kr i a ha _ h3,rfl,trivial⟩
   | true=>
   simp only[qbE,h1,h2,h3,zZ,zal,zj]at h;exact qB3 ⟨lt1 (lt_of ha),lt0,lt2 (lt_of ha),qac Link.e ha,kl i a ha _ h1,rfl,h2,kr i a ha _ h3,rfl,by omega,qgy i _ (by omega) hn,by omega,h.1,by rw[zb];exact h.2,trivial⟩)
  (qB6 ⟨ge1,trivial⟩)
theorem qIn(c:Cluster)(hc:c.sz≤8388608)(hn:1≤c.graph.workers∧c.graph.workers≤4):
  ((c.tokens.any (qbO c.graph.workers))=false∧qam prog (qaa f56 2) (qcj c.graph.workers (c.graph.nodes.map Node.e) c.graph.workers c.graph.cap (c.workers.map Worker.e) (c.links.map Link.e) (c.tokens.map Token.e) (c.news.map News.e) 0) (.exit 4) (qjI c.graph.workers (c.graph.nodes.map Node.e) c.graph.workers c.graph.cap (c.workers.map Worker.e) (c.links.map Link.e) (c.tokens.map Token.e) (c.news.map News.e)))∨
  ((c.tokens.any (qbO c.graph.workers))=true∧qam prog (qaa f56 2) (qcj c.graph.workers (c.graph.nodes.map Node.e) c.graph.workers c.graph.cap (c.workers.map Worker.e) (c.links.map Link.e) (c.tokens.map Token.e) (c.news.map News.e) 0) .ret (qfl false)):=by
 have hl:=qrL hc;have l:=qaW (P:=prog) (c:=(qaa f56 2)) c.tokens (qbO c.graph.workers) (fun i=>qcj c.graph.workers (c.graph.nodes.map Node.e) c.graph.workers c.graph.cap (c.workers.map Worker.e) (c.links.map Link.e) (c.tokens.map Token.e) (c.news.map News.e) i) (X:=fun _ _=>qfl false) qaE (qaf 4)
  (fun i a ha h=>by
   have hi:=lt_of ha;simp only[qbO,zy,zX]at h;obtain⟨h1,h2,h3⟩:=h;cases hg:a.going with
   | false=>
    rw[hg,zbc,zbl]at h2;exact qCb ⟨lt1 (lt_of ha),lt0,lt2 (lt_of ha),qac Token.e ha,⟨by omega,by omega⟩,qaK _ _ _ true h1,rfl,lt0,lt2 (lt_of ha),qac Token.e ha,by rw[hg];rfl,lt0,lt2 (lt_of ha),qac Token.e ha,h2,lt0,lt2 (lt_of ha),qac Token.e ha,qaK _ _ _ true h3,rfl,up1 hi hl,trivial⟩
   | true=>exact qCd ⟨lt1 (lt_of ha),lt0,lt2 (lt_of ha),qac Token.e ha,⟨by omega,by omega⟩,qaK _ _ _ true h1,rfl,lt0,lt2 (lt_of ha),qac Token.e ha,by rw[hg];rfl,lt0,lt2 (lt_of ha),qac Token.e ha,qaK _ _ _ true h3,rfl,up1 hi hl,trivial⟩)
  (fun i a ha h=>by
   have hi:=lt_of ha;cases h1:inR a.place 0 (c.graph.workers-1) with
   | false=>exact qB8 ⟨lt1 (lt_of ha),lt0,lt2 (lt_of ha),qac Token.e ha,⟨by omega,by omega⟩,qaK _ _ _ false h1,rfl,trivial⟩
   | true=>
   simp only[qbO,h1,zZ,zal]at h;cases hg:a.going with
   | false=>
    rw[hg,zbc,zbl]at h;cases h2:(a.place != 0) with
    | true=>exact qB9 ⟨lt1 (lt_of ha),lt0,lt2 (lt_of ha),qac Token.e ha,⟨by omega,by omega⟩,qaK _ _ _ true h1,rfl,lt0,lt2 (lt_of ha),qac Token.e ha,by rw[hg];rfl,lt0,lt2 (lt_of ha),qac Token.e ha,h2,trivial⟩
    | false=>
     rw[h2,zal]at h;exact qCa ⟨lt1 (lt_of ha),lt0,lt2 (lt_of ha),qac Token.e ha,⟨by omega,by omega⟩,qaK _ _ _ true h1,rfl,lt0,lt2 (lt_of ha),qac Token.e ha,by rw[hg];rfl,lt0,lt2 (lt_of ha),qac Token.e ha,h2,lt0,lt2 (lt_of ha),qac Token.e ha,qaK _ _ _ false (by simpa using h),rfl,trivial⟩
   | true=>
    rw[hg,zZ,Bool.false_and,zal]at h;exact qCc ⟨lt1 (lt_of ha),lt0,lt2 (lt_of ha),qac Token.e ha,⟨by omega,by omega⟩,qaK _ _ _ true h1,rfl,lt0,lt2 (lt_of ha),qac Token.e ha,by rw[hg];rfl,lt0,lt2 (lt_of ha),qac Token.e ha,qaK _ _ _ false (by simpa using h),rfl,trivial⟩)
  (qCe ⟨ge1,trivial⟩)
 rcases l with⟨_,_,h1,h2⟩ | ⟨_,_,_,_,_,_,h1,h2⟩
 ·exact .inl ⟨h1,h2⟩
 ·exact .inr ⟨h1,h2⟩
theorem qIo(c:Cluster)(hc:c.sz≤8388608)(hn:1≤c.graph.workers∧c.graph.workers≤4):
  ((c.news.any (qbP c.graph.workers))=false∧qam prog (qaa f56 3) (qdt c.graph.workers (c.graph.nodes.map Node.e) c.graph.workers c.graph.cap (c.workers.map Worker.e) (c.links.map Link.e) (c.tokens.map Token.e) (c.news.map News.e) 0) (.exit 6) qmF)∨
  ((c.news.any (qbP c.graph.workers))=true∧qam prog (qaa f56 3) (qdt c.graph.workers (c.graph.nodes.map Node.e) c.graph.workers c.graph.cap (c.workers.map Worker.e) (c.links.map Link.e) (c.tokens.map Token.e) (c.news.map News.e) 0) .ret (qhF false)):=by
 have hl:=qfz hc;have l:=qaW (P:=prog) (c:=(qaa f56 3)) c.news (qbP c.graph.workers) (fun i=>qdt c.graph.workers (c.graph.nodes.map Node.e) c.graph.workers c.graph.cap (c.workers.map Worker.e) (c.links.map Link.e) (c.tokens.map Token.e) (c.news.map News.e) i) (X:=fun _ _=>qhF false) qaE (qaf 6)
  (fun i a ha h=>by
   have hi:=lt_of ha;simp only[qbP,zy,zX]at h;exact qCi ⟨lt1 (lt_of ha),lt0,lt2 (lt_of ha),qac News.e ha,⟨by omega,by omega⟩,qaK _ _ _ true h.1,rfl,lt0,lt2 (lt_of ha),qac News.e ha,qaK _ _ _ true h.2,rfl,up1 hi hl,trivial⟩)
  (fun i a ha h=>by
   have hi:=lt_of ha;cases h1:inR a.dest 0 (c.graph.workers-1) with
   | false=>exact qCg ⟨lt1 (lt_of ha),lt0,lt2 (lt_of ha),qac News.e ha,⟨by omega,by omega⟩,qaK _ _ _ false h1,rfl,trivial⟩
   | true=>
    simp only[qbP,h1,zZ,zal]at h;exact qCh ⟨lt1 (lt_of ha),lt0,lt2 (lt_of ha),qac News.e ha,⟨by omega,by omega⟩,qaK _ _ _ true h1,rfl,lt0,lt2 (lt_of ha),qac News.e ha,qaK _ _ _ false (by simpa using h),rfl,trivial⟩)
  (qCj ⟨ge1,trivial⟩)
 rcases l with⟨_,_,h1,h2⟩ | ⟨_,_,_,_,_,_,h1,h2⟩
 ·exact .inl ⟨h1,h2⟩
 ·exact .inr ⟨h1,h2⟩
theorem qIp(c:Cluster)(hc:c.sz≤8388608)(hw:GotLe c):Rt 56 [.agg c.e] [.one (B (qai c))]:=by
 have hg:=qjQ c.graph (graph_sz1 hc);unfold qai;cases h1:qax c.graph with
 | false=>rw[h1]at hg;exact qBS ⟨hg,rfl,trivial⟩
 | true=>
 rw[h1]at hg;have hn:=qa7 h1;have hq:inInt .i64 (c.graph.workers*c.graph.workers):=by
  have h3:c.graph.workers=1∨c.graph.workers=2∨c.graph.workers=3∨c.graph.workers=4:=by omega
  rcases h3 with h3 | h3 | h3 | h3<;>(rw[h3];exact⟨by decide,by decide⟩)
 cases h2:((c.workers.length:Int)==c.graph.workers) with
 | false=>exact qBT ⟨hg,rfl,by rw[zb];simpa using h2,trivial⟩
 | true=>
 have v2:((↑(c.workers.map Worker.e).length:Int) != c.graph.workers)=false:=by rw[zb];simpa using h2
 cases h3:((c.links.length:Int)==c.graph.workers*c.graph.workers) with
 | false=>exact qBU ⟨hg,rfl,v2,hq,by rw[zb];simpa using h3,trivial⟩
 | true=>
 have v3:((↑(c.links.map Link.e).length:Int) != c.graph.workers*c.graph.workers)=false:=by rw[zb];simpa using h3
 cases h4:(c.tokens.length==4) with
 | false=>exact qBV ⟨hg,rfl,v2,hq,v3,len4' h4,trivial⟩
 | true=>
 rcases qIl c hc (eq_of_beq h2) with⟨h5,l5⟩ | ⟨h5,l5⟩
 case inr=>rw[h5];exact qBZ ⟨hg,rfl,v2,hq,v3,len4 h4,l5,trivial⟩
 rw[h5];rcases qIm c hc hw hn.1 with⟨h6,l6⟩ | ⟨h6,l6⟩
 case inr=>rw[h6];exact qB7 ⟨hg,rfl,v2,hq,v3,len4 h4,l5,l6,trivial⟩
 rw[h6];rcases qIn c hc hn with⟨h7,l7⟩ | ⟨h7,l7⟩
 case inr=>rw[h7];exact qCf ⟨hg,rfl,v2,hq,v3,len4 h4,l5,l6,l7,trivial⟩
 rw[h7];rcases qIo c hc hn with⟨h8,l8⟩ | ⟨h8,l8⟩
 ·rw[h8];exact qCl ⟨hg,rfl,v2,hq,v3,len4 h4,l5,l6,l7,l8,trivial⟩
 ·rw[h8];exact qCk ⟨hg,rfl,v2,hq,v3,len4 h4,l5,l6,l7,l8,trivial⟩
theorem qIq(c:Cluster)(hc:c.sz≤8388608)(hn:(c.workers.length:Int)=c.graph.workers):
  ((c.workers.any fun w=>!qaJ c.graph w)=false∧qam prog (qaa f55 0) (qcV c.graph.workers (c.workers.map Worker.e) 0 (c.graph.nodes.map Node.e) c.graph.workers c.graph.cap (c.workers.map Worker.e) (c.links.map Link.e) (c.tokens.map Token.e) (c.news.map News.e)) (.exit 0) (qgs c.graph.workers (c.graph.nodes.map Node.e) c.graph.workers c.graph.cap (c.workers.map Worker.e) (c.links.map Link.e) (c.tokens.map Token.e) (c.news.map News.e)))∨
  ((c.workers.any fun w=>!qaJ c.graph w)=true∧qam prog (qaa f55 0) (qcV c.graph.workers (c.workers.map Worker.e) 0 (c.graph.nodes.map Node.e) c.graph.workers c.graph.cap (c.workers.map Worker.e) (c.links.map Link.e) (c.tokens.map Token.e) (c.news.map News.e)) .ret (qjJ false)):=by
 have hl:=Cluster.wlen_le hc;have l:=qaW (P:=prog) (c:=(qaa f55 0)) c.workers (fun w=>!qaJ c.graph w) (fun i=>qcV c.graph.workers (c.workers.map Worker.e) i (c.graph.nodes.map Node.e) c.graph.workers c.graph.cap (c.workers.map Worker.e) (c.links.map Link.e) (c.tokens.map Token.e) (c.news.map News.e)) (X:=fun _ _=>qjJ false) qaE (qaf 0)
  (fun i a ha h=>by
   have k:=qjX c.graph a (graph_sz1 hc) (Cluster.worker_sz hc (qag ha));rw[show qaJ c.graph a=true by simpa using h]at k;exact qCr ⟨lt1 (lt_of ha),lt0,lt2 (lt_of ha),qac Worker.e ha,k,rfl,up1 (lt_of ha) hl,trivial⟩)
  (fun i a ha h=>by
   have k:=qjX c.graph a (graph_sz1 hc) (Cluster.worker_sz hc (qag ha));rw[show qaJ c.graph a=false by simpa using h]at k;exact qCq ⟨lt1 (lt_of ha),lt0,lt2 (lt_of ha),qac Worker.e ha,k,rfl,trivial⟩)
  (qCs ⟨ge1,trivial⟩)
 rcases l with⟨_,_,h1,h2⟩ | ⟨_,_,_,_,_,_,h1,h2⟩
 ·exact .inl ⟨h1,h2⟩
 ·exact .inr ⟨h1,h2⟩
theorem qIr(c:Cluster)(hc:c.sz≤8388608)(hw:GotLe c)(hn:1≤c.graph.workers):
  (anyI (qbE c.graph) 0 c.links=false∧qam prog (qaa f55 1) (qb8 c.graph.workers (c.links.map Link.e) 0 (c.graph.nodes.map Node.e) c.graph.workers c.graph.cap (c.workers.map Worker.e) (c.links.map Link.e) (c.tokens.map Token.e) (c.news.map News.e)) (.exit 2) (qhG c.graph.workers (c.graph.nodes.map Node.e) c.graph.workers c.graph.cap (c.workers.map Worker.e) (c.links.map Link.e) (c.tokens.map Token.e) (c.news.map News.e)))∨
  (anyI (qbE c.graph) 0 c.links=true∧qam prog (qaa f55 1) (qb8 c.graph.workers (c.links.map Link.e) 0 (c.graph.nodes.map Node.e) c.graph.workers c.graph.cap (c.workers.map Worker.e) (c.links.map Link.e) (c.tokens.map Token.e) (c.news.map News.e)) .ret (qgt false)):=by
 have hl:=Cluster.llen_le hc;have kl:∀(i:Nat) (a:Link),c.links[i]?=some a→∀r,qbq a=r→Rt 173 [.agg a.e] [.one (B r)]:=fun i a ha r h=>h▸qjT a (Cluster.link_sz hc (qag ha)) (hw _ (qag ha))
 have kr:∀(i:Nat) (a:Link),c.links[i]?=some a→∀r,qaV c.graph a.queue=r→Rt 174 [.agg c.graph.e,.one (.sl 5 (a.queue.map Record.e))] [.one (B r)]:=fun i a ha r h=>qfy c.graph _ r h (graph_sz1 hc) (Cluster.link_sz hc (qag ha))
 exact qdn (P:=prog) (c:=(qaa f55 1)) c.links (qbE c.graph) (fun i=>qb8 c.graph.workers (c.links.map Link.e) i (c.graph.nodes.map Node.e) c.graph.workers c.graph.cap (c.workers.map Worker.e) (c.links.map Link.e) (c.tokens.map Token.e) (c.news.map News.e)) qaE (qaf 2)
  (fun i a ha h=>by
   have hi:=lt_of ha;simp only[qbE,zy,zX]at h;obtain⟨h1,h2,h3,h4⟩:=h;cases h5:((i:Int).tdiv c.graph.workers==(i:Int).tmod c.graph.workers) with
   | true=>
    rw[h5,zbl]at h4;exact qCy ⟨lt1 (lt_of ha),lt0,lt2 (lt_of ha),qac Link.e ha,kl i a ha _ h1,rfl,h2,kr i a ha _ h3,rfl,by omega,qgy i _ (by omega) hn,by omega,h5,by rw[zb];exact h4,up1 hi hl,trivial⟩
   | false=>exact qCz ⟨lt1 (lt_of ha),lt0,lt2 (lt_of ha),qac Link.e ha,kl i a ha _ h1,rfl,h2,kr i a ha _ h3,rfl,by omega,qgy i _ (by omega) hn,by omega,h5,up1 hi hl,trivial⟩)
  (fun i a ha h=>by
   have hi:=lt_of ha;cases h1:qbq a with
   | false=>exact qCu ⟨lt1 (lt_of ha),lt0,lt2 (lt_of ha),qac Link.e ha,kl i a ha _ h1,rfl,trivial⟩
   | true=>
   cases h2:(a.cap != c.graph.cap) with
   | true=>exact qCv ⟨lt1 (lt_of ha),lt0,lt2 (lt_of ha),qac Link.e ha,kl i a ha _ h1,rfl,h2,trivial⟩
   | false=>
   cases h3:qaV c.graph a.queue with
   | false=>exact qCw ⟨lt1 (lt_of ha),lt0,lt2 (lt_of ha),qac Link.e ha,kl i a ha _ h1,rfl,h2,kr i a ha _ h3,rfl,trivial⟩
   | true=>
   simp only[qbE,h1,h2,h3,zZ,zal,zj]at h;exact qCx ⟨lt1 (lt_of ha),lt0,lt2 (lt_of ha),qac Link.e ha,kl i a ha _ h1,rfl,h2,kr i a ha _ h3,rfl,by omega,qgy i _ (by omega) hn,by omega,h.1,by rw[zb];exact h.2,trivial⟩)
  (qCA ⟨ge1,trivial⟩)
theorem qIs(c:Cluster)(hc:c.sz≤8388608)(hn:1≤c.graph.workers∧c.graph.workers≤4):
  ((c.tokens.any (qbO c.graph.workers))=false∧qam prog (qaa f55 2) (qck c.graph.workers (c.tokens.map Token.e) 0 (c.graph.nodes.map Node.e) c.graph.workers c.graph.cap (c.workers.map Worker.e) (c.links.map Link.e) (c.tokens.map Token.e) (c.news.map News.e)) (.exit 4) (qjK c.graph.workers (c.graph.nodes.map Node.e) c.graph.workers c.graph.cap (c.workers.map Worker.e) (c.links.map Link.e) (c.tokens.map Token.e) (c.news.map News.e)))∨
  ((c.tokens.any (qbO c.graph.workers))=true∧qam prog (qaa f55 2) (qck c.graph.workers (c.tokens.map Token.e) 0 (c.graph.nodes.map Node.e) c.graph.workers c.graph.cap (c.workers.map Worker.e) (c.links.map Link.e) (c.tokens.map Token.e) (c.news.map News.e)) .ret (qfm false)):=by
 have hl:=qrL hc;have l:=qaW (P:=prog) (c:=(qaa f55 2)) c.tokens (qbO c.graph.workers) (fun i=>qck c.graph.workers (c.tokens.map Token.e) i (c.graph.nodes.map Node.e) c.graph.workers c.graph.cap (c.workers.map Worker.e) (c.links.map Link.e) (c.tokens.map Token.e) (c.news.map News.e)) (X:=fun _ _=>qfm false) qaE (qaf 4)
  (fun i a ha h=>by
   have hi:=lt_of ha;simp only[qbO,zy,zX]at h;obtain⟨h1,h2,h3⟩:=h;cases hg:a.going with
   | false=>
    rw[hg,zbc,zbl]at h2;exact qCF ⟨lt1 (lt_of ha),lt0,lt2 (lt_of ha),qac Token.e ha,⟨by omega,by omega⟩,qaO _ _ _ true h1,rfl,by rw[hg];rfl,h2,qaO _ _ _ true h3,rfl,up1 hi hl,trivial⟩
   | true=>exact qCH ⟨lt1 (lt_of ha),lt0,lt2 (lt_of ha),qac Token.e ha,⟨by omega,by omega⟩,qaO _ _ _ true h1,rfl,by rw[hg];rfl,qaO _ _ _ true h3,rfl,up1 hi hl,trivial⟩)
  (fun i a ha h=>by
   have hi:=lt_of ha;cases h1:inR a.place 0 (c.graph.workers-1) with
   | false=>exact qCC ⟨lt1 (lt_of ha),lt0,lt2 (lt_of ha),qac Token.e ha,⟨by omega,by omega⟩,qaO _ _ _ false h1,rfl,trivial⟩
   | true=>
   simp only[qbO,h1,zZ,zal]at h;cases hg:a.going with
   | false=>
    rw[hg,zbc,zbl]at h;cases h2:(a.place != 0) with
    | true=>exact qCD ⟨lt1 (lt_of ha),lt0,lt2 (lt_of ha),qac Token.e ha,⟨by omega,by omega⟩,qaO _ _ _ true h1,rfl,by rw[hg];rfl,h2,trivial⟩
    | false=>
     rw[h2,zal]at h;exact qCE ⟨lt1 (lt_of ha),lt0,lt2 (lt_of ha),qac Token.e ha,⟨by omega,by omega⟩,qaO _ _ _ true h1,rfl,by rw[hg];rfl,h2,qaO _ _ _ false (by simpa using h),rfl,trivial⟩
   | true=>
    rw[hg,zZ,Bool.false_and,zal]at h;exact qCG ⟨lt1 (lt_of ha),lt0,lt2 (lt_of ha),qac Token.e ha,⟨by omega,by omega⟩,qaO _ _ _ true h1,rfl,by rw[hg];rfl,qaO _ _ _ false (by simpa using h),rfl,trivial⟩)
  (qCI ⟨ge1,trivial⟩)
 rcases l with⟨_,_,h1,h2⟩ | ⟨_,_,_,_,_,_,h1,h2⟩
 ·exact .inl ⟨h1,h2⟩
 ·exact .inr ⟨h1,h2⟩
theorem qIt(c:Cluster)(hc:c.sz≤8388608)(hn:1≤c.graph.workers∧c.graph.workers≤4):
  ((c.news.any (qbP c.graph.workers))=false∧qam prog (qaa f55 3) (qdu c.graph.workers (c.news.map News.e) 0) (.exit 6) qmG)∨
  ((c.news.any (qbP c.graph.workers))=true∧qam prog (qaa f55 3) (qdu c.graph.workers (c.news.map News.e) 0) .ret (qhH false)):=by
 have hl:=qfz hc;have l:=qaW (P:=prog) (c:=(qaa f55 3)) c.news (qbP c.graph.workers) (fun i=>qdu c.graph.workers (c.news.map News.e) i) (X:=fun _ _=>qhH false) qaE (qaf 6)
  (fun i a ha h=>by
   have hi:=lt_of ha;simp only[qbP,zy,zX]at h;exact qCM ⟨lt1 (lt_of ha),lt0,lt2 (lt_of ha),qac News.e ha,⟨by omega,by omega⟩,qaO _ _ _ true h.1,rfl,qaO _ _ _ true h.2,rfl,up1 hi hl,trivial⟩)
  (fun i a ha h=>by
   have hi:=lt_of ha;cases h1:inR a.dest 0 (c.graph.workers-1) with
   | false=>exact qCK ⟨lt1 (lt_of ha),lt0,lt2 (lt_of ha),qac News.e ha,⟨by omega,by omega⟩,qaO _ _ _ false h1,rfl,trivial⟩
   | true=>
    simp only[qbP,h1,zZ,zal]at h;exact qCL ⟨lt1 (lt_of ha),lt0,lt2 (lt_of ha),qac News.e ha,⟨by omega,by omega⟩,qaO _ _ _ true h1,rfl,qaO _ _ _ false (by simpa using h),rfl,trivial⟩)
  (qCN ⟨ge1,trivial⟩)
 rcases l with⟨_,_,h1,h2⟩ | ⟨_,_,_,_,_,_,h1,h2⟩
 ·exact .inl ⟨h1,h2⟩
 ·exact .inr ⟨h1,h2⟩
theorem qhL(c:Cluster)(hc:c.sz≤8388608)(hw:GotLe c):Rt 55 [.agg c.e] [.one (B (qai c))]:=by
 have hg:=qfr c.graph (graph_sz1 hc);unfold qai;cases h1:qax c.graph with
 | false=>rw[h1]at hg;exact qCm ⟨hg,rfl,trivial⟩
 | true=>
 rw[h1]at hg;have hn:=qa7 h1;have hq:inInt .i64 (c.graph.workers*c.graph.workers):=by
  have h3:c.graph.workers=1∨c.graph.workers=2∨c.graph.workers=3∨c.graph.workers=4:=by omega
  rcases h3 with h3 | h3 | h3 | h3<;>(rw[h3];exact⟨by decide,by decide⟩)
 cases h2:((c.workers.length:Int)==c.graph.workers) with
 | false=>exact qCn ⟨hg,rfl,by rw[zb];simpa using h2,trivial⟩
 | true=>
 have v2:((↑(c.workers.map Worker.e).length:Int) != c.graph.workers)=false:=by rw[zb];simpa using h2
 cases h3:((c.links.length:Int)==c.graph.workers*c.graph.workers) with
 | false=>exact qCo ⟨hg,rfl,v2,hq,by rw[zb];simpa using h3,trivial⟩
 | true=>
 have v3:((↑(c.links.map Link.e).length:Int) != c.graph.workers*c.graph.workers)=false:=by rw[zb];simpa using h3
 cases h4:(c.tokens.length==4) with
 | false=>exact qCp ⟨hg,rfl,v2,hq,v3,len4' h4,trivial⟩
 | true=>
 rcases qIq c hc (eq_of_beq h2) with⟨h5,l5⟩ | ⟨h5,l5⟩
 case inr=>rw[h5];exact qCt ⟨hg,rfl,v2,hq,v3,len4 h4,l5,trivial⟩
 rw[h5];rcases qIr c hc hw hn.1 with⟨h6,l6⟩ | ⟨h6,l6⟩
 case inr=>rw[h6];exact qCB ⟨hg,rfl,v2,hq,v3,len4 h4,l5,l6,trivial⟩
 rw[h6];rcases qIs c hc hn with⟨h7,l7⟩ | ⟨h7,l7⟩
 case inr=>rw[h7];exact qCJ ⟨hg,rfl,v2,hq,v3,len4 h4,l5,l6,l7,trivial⟩
 rw[h7];rcases qIt c hc hn with⟨h8,l8⟩ | ⟨h8,l8⟩
 ·rw[h8];exact qCP ⟨hg,rfl,v2,hq,v3,len4 h4,l5,l6,l7,l8,trivial⟩
 ·rw[h8];exact qCO ⟨hg,rfl,v2,hq,v3,len4 h4,l5,l6,l7,l8,trivial⟩
def qhM(c:Cluster)(e:Nat):Bool:=!qgo c e||!qjM c e
def qjY(c:Cluster):Bool:=qai c&&(c.links.all qb9&&(qgu c&&!((List.range 4).any (qhM c))))
theorem qIu(c:Cluster)(hc:c.sz≤8388608)(hw:Nums c):Rt 32 [.agg c.e] [.one (B (qjY c))]:=by
 have k1:=qhL c hc (fun l hl=>(hw.l l hl).2);have k2:=qqZ c hc hw;have k3:=qq4 c hc hw;unfold qjY;cases h1:qai c with
 | false=>rw[h1]at k1;exact qCQ ⟨k1,rfl,trivial⟩
 | true=>
 rw[h1]at k1;cases h2:c.links.all qb9 with
 | false=>rw[h2]at k2;exact qCR ⟨k1,rfl,k2,rfl,trivial⟩
 | true=>
 rw[h2]at k2;cases h3:qgu c with
 | false=>rw[h3]at k3;exact qCS ⟨k1,rfl,k2,rfl,k3,rfl,trivial⟩
 | true=>
 rw[h3]at k3;have at4:∀{i a:Nat},(List.range 4)[i]?=some a→i=a∧i<4:=fun {i a} h=>by
  have h2:=lt_of h;rw[zct]at h2;rw[List.getElem?_range (by omega)]at h;exact⟨by simpa using h,h2⟩
 have l:=qaW (P:=prog) (c:=(qaa f32 0)) (List.range 4) (qhM c) (fun i=>qeo (c.graph.nodes.map Node.e) c.graph.workers c.graph.cap (c.workers.map Worker.e) (c.links.map Link.e) (c.tokens.map Token.e) (c.news.map News.e) i) (X:=fun _ _=>qjL false) qaE (qaf 0)
  (fun i a ha h=>by
   obtain⟨rfl,hi⟩:=at4 ha;simp only[qhM,zy,zX]at h;have a1:=qqM c i hc;have a2:=qq2 c i hc;rw[h.1]at a1;rw[h.2]at a2;exact qCV ⟨dT (by omega),a1,rfl,a2,rfl,⟨by omega,by omega⟩,trivial⟩)
  (fun i a ha h=>by
   obtain⟨rfl,hi⟩:=at4 ha;have a1:=qqM c i hc;have a2:=qq2 c i hc;cases h1:qgo c i with
   | false=>rw[h1]at a1;exact qCT ⟨dT (by omega),a1,rfl,trivial⟩
   | true=>
    simp only[qhM,h1,zZ,zal,zS]at h;rw[h1]at a1;rw[h]at a2;exact qCU ⟨dT (by omega),a1,rfl,a2,rfl,trivial⟩)
  (qCW ⟨dF (by simp only[zct];omega),trivial⟩)
 rcases l with⟨_,_,h4,l⟩ | ⟨_,_,_,_,_,_,h4,l⟩
 ·rw[h4];exact qCY ⟨k1,rfl,k2,rfl,k3,rfl,l,trivial⟩
 ·rw[h4];exact qCX ⟨k1,rfl,k2,rfl,k3,rfl,l,trivial⟩
end Go.Proofs.YtdkobdhckkjmeaaGreat
