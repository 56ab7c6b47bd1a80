import Derived.Test.YtdkobdhckkjmeaaGreatP18
set_option linter.unusedVariables false
set_option linter.unusedSimpArgs false
namespace Go.Proofs.YtdkobdhckkjmeaaGreat
open Go.Sx Go.RowKit Go.Proofs.Tryz
theorem graph_sz1{c:Cluster}(h:c.sz≤8388608):c.graph.sz≤8388608:=by simp only[Cluster.sz]at h;omega
theorem qrX{c:Cluster}(h:c.sz≤8388608):c.tokens.length≤8388608:=by simp only[Cluster.sz,szS]at h;omega
theorem qfz{c:Cluster}(h:c.sz≤8388608):c.news.length≤8388608:=by simp only[Cluster.sz,szS]at h;omega
def qbE(g:Graph)(i:Nat)(l:Link):Bool:=
 !qbq l||((l.cap != g.cap)||(!qaV g l.queue||((i:Int).tdiv g.workers==(i:Int).tmod g.workers&&decide ((l.queue.length:Int)>0))))
def qbO(n:Int)(t:Token):Bool:=!inR t.place 0 (n-1)||((!t.going&&t.place != 0)||!inR t.sum (-1000000) 1000000)
def qbP(n:Int)(x:News):Bool:=!inR x.dest 0 (n-1)||!inR x.epoch 0 3
def qai(c:Cluster):Bool:=
 qaw c.graph&&(((c.workers.length:Int)==c.graph.workers)&&(((c.links.length:Int)==c.graph.workers*c.graph.workers)&&((c.tokens.length==4)&&(!(c.workers.any fun w=>!qaJ c.graph w)&&(!(anyI (qbE c.graph) 0 c.links)&&(!(c.tokens.any (qbO c.graph.workers))&&!(c.news.any (qbP c.graph.workers))))))))
theorem qa7{g:Graph}(h:qaw g=true):1≤g.workers∧g.workers≤4:=by
 simp only[qaw,zj,inR,zi]at h;omega
theorem qgz(i:Nat)(n:Int)(hi:i≤8388608)(hn:1≤n):inInt .i64 ((i:Int).tdiv n):=by
 have h1:0≤(i:Int).tdiv n:=Int.tdiv_nonneg (by omega) (by omega);have h2:(i:Int).tdiv n≤(i:Int):=Int.tdiv_le_self _ (by omega);exact⟨by omega,by omega⟩
theorem qI0{c:Cluster}(h:c.wf){l:Link}(hl:l∈c.links):l.got≤9223372036854775807:=by
 have:=(Cluster.link_wf h hl).got_ok;simp only[inInt]at this;exact this.2
def GotLe(c:Cluster):Prop:=∀l∈c.links,l.got≤9223372036854775807
theorem GotLe.of{c:Cluster}(h:c.wf):GotLe c:=fun _ hl=>qI0 h hl
theorem qI1(c:Cluster)(hc:c.sz≤8388608)(hn:(c.workers.length:Int)=c.graph.workers):
  ((c.workers.any fun w=>!qaJ c.graph w)=false∧qam prog (qaa f56 0) (qcU (c.graph.nodes.map Node.e) c.graph.workers c.graph.cap (c.workers.map Worker.e) (c.links.map Link.e) (c.tokens.map Token.e) (c.news.map News.e) 0) (.exit 0) (qgt (c.graph.nodes.map Node.e) c.graph.workers c.graph.cap (c.workers.map Worker.e) (c.links.map Link.e) (c.tokens.map Token.e) (c.news.map News.e)))∨
  ((c.workers.any fun w=>!qaJ c.graph w)=true∧qam prog (qaa f56 0) (qcU (c.graph.nodes.map Node.e) c.graph.workers c.graph.cap (c.workers.map Worker.e) (c.links.map Link.e) (c.tokens.map Token.e) (c.news.map News.e) 0) .ret (qjN false)):=by
 have hl:=Cluster.wlen_le hc;have l:=qaW (P:=prog) (c:=(qaa f56 0)) c.workers (fun w=>!qaJ c.graph w) (fun i=>qcU (c.graph.nodes.map Node.e) c.graph.workers c.graph.cap (c.workers.map Worker.e) (c.links.map Link.e) (c.tokens.map Token.e) (c.news.map News.e) i) (X:=fun _ _=>qjN false) qaE (qaf 0)
  (fun i a ha h=>by
   have k:=qrV c.graph a (graph_sz1 hc) (Cluster.worker_sz hc (qag ha));rw[show qaJ c.graph a=true by simpa using h]at k;exact qGH ⟨dT (by have:=lt_of ha;omega),lt0,lt2 (lt_of ha),qac Worker.e ha,k,rfl,up1 (lt_of ha) hl,trivial⟩)
  (fun i a ha h=>by
   have k:=qrV c.graph a (graph_sz1 hc) (Cluster.worker_sz hc (qag ha));rw[show qaJ c.graph a=false by simpa using h]at k;exact qGG ⟨dT (by have:=lt_of ha;omega),lt0,lt2 (lt_of ha),qac Worker.e ha,k,rfl,trivial⟩)
  (qGI ⟨dF (by omega),trivial⟩)
 rcases l with⟨_,_,h1,h2⟩ | ⟨_,_,_,_,_,_,h1,h2⟩
 ·exact .inl ⟨h1,h2⟩
 ·exact .inr ⟨h1,h2⟩
theorem qI2(c:Cluster)(hc:c.sz≤8388608)(hw:GotLe c)(hn:1≤c.graph.workers):
  (anyI (qbE c.graph) 0 c.links=false∧qam prog (qaa f56 1) (qb7 c.graph.workers 0 (c.graph.nodes.map Node.e) c.graph.workers c.graph.cap (c.workers.map Worker.e) (c.links.map Link.e) (c.tokens.map Token.e) (c.news.map News.e)) (.exit 2) (qhJ c.graph.workers (c.graph.nodes.map Node.e) c.graph.workers c.graph.cap (c.workers.map Worker.e) (c.links.map Link.e) (c.tokens.map Token.e) (c.news.map News.e)))∨
  (anyI (qbE c.graph) 0 c.links=true∧qam prog (qaa f56 1) (qb7 c.graph.workers 0 (c.graph.nodes.map Node.e) c.graph.workers c.graph.cap (c.workers.map Worker.e) (c.links.map Link.e) (c.tokens.map Token.e) (c.news.map News.e)) .ret (qgu false)):=by
 have hl:=Cluster.llen_le hc;have kl:∀(i:Nat) (a:Link),c.links[i]?=some a→∀r,qbq a=r→Rt 176 [.agg a.e] [.one (B r)]:=fun i a ha r h=>h▸qjW a (Cluster.link_sz hc (qag ha))
 have kr:∀(i:Nat) (a:Link),c.links[i]?=some a→∀r,qaV c.graph a.queue=r→Rt 177 [.agg c.graph.e,.one (.sl 5 (a.queue.map Record.e))] [.one (B r)]:=fun i a ha r h=>qfx c.graph _ r h (graph_sz1 hc) (Cluster.link_sz hc (qag ha))
 exact qdn (P:=prog) (c:=(qaa f56 1)) c.links (qbE c.graph) (fun i=>qb7 c.graph.workers i (c.graph.nodes.map Node.e) c.graph.workers c.graph.cap (c.workers.map Worker.e) (c.links.map Link.e) (c.tokens.map Token.e) (c.news.map News.e)) qaE (qaf 2)
  (fun i a ha h=>by
   have hi:=lt_of ha;simp only[qbE,zy,zX]at h;obtain⟨h1,h2,h3,h4⟩:=h;cases h5:((i:Int).tdiv c.graph.workers==(i:Int).tmod c.graph.workers) with
   | true=>
    rw[h5,zbl]at h4;exact qGO ⟨lt1 (lt_of ha),lt0,lt2 (lt_of ha),qac Link.e ha,kl i a ha _ h1,rfl,h2,kr i a ha _ h3,rfl,by omega,qgz i _ (by omega) hn,by omega,h5,by rw[zb];exact h4,up1 hi hl,trivial⟩
   | false=>exact qGP ⟨lt1 (lt_of ha),lt0,lt2 (lt_of ha),qac Link.e ha,kl i a ha _ h1,rfl,h2,kr i a ha _ h3,rfl,by omega,qgz i _ (by omega) hn,by omega,h5,up1 hi hl,trivial⟩)
  (fun i a ha h=>by
   have hi:=lt_of ha;cases h1:qbq a with
   | false=>exact qGK ⟨lt1 (lt_of ha),lt0,lt2 (lt_of ha),qac Link.e ha,kl i a ha _ h1,rfl,trivial⟩
   | true=>
   cases h2:(a.cap != c.graph.cap) with
   | true=>exact qGL ⟨lt1 (lt_of ha),lt0,lt2 (lt_of ha),qac Link.e ha,kl i a ha _ h1,rfl,h2,trivial⟩
   | false=>
   cases h3:qaV c.graph a.queue with
   | false=>exact qGM ⟨lt1 (lt_of ha),lt0,lt2 (lt_of ha),qac Link.e ha,kl i a ha _ h1,rfl,h2,kr i a ha _ h3,rfl,trivial⟩
   | true=>
   simp only[qbE,h1,h2,h3,zZ,zal,zj]at h;exact qGN ⟨lt1 (lt_of ha),lt0,lt2 (lt_of ha),qac Link.e ha,kl i a ha _ h1,rfl,h2,kr i a ha _ h3,rfl,by omega,qgz i _ (by omega) hn,by omega,h.1,by rw[zb];exact h.2,trivial⟩)
  (qGQ ⟨ge1,trivial⟩)
theorem qI3(c:Cluster)(hc:c.sz≤8388608)(hn:1≤c.graph.workers∧c.graph.workers≤4):
  ((c.tokens.any (qbO c.graph.workers))=false∧qam prog (qaa f56 2) (qck c.graph.workers (c.graph.nodes.map Node.e) c.graph.workers c.graph.cap (c.workers.map Worker.e) (c.links.map Link.e) (c.tokens.map Token.e) (c.news.map News.e) 0) (.exit 4) (qjO c.graph.workers (c.graph.nodes.map Node.e) c.graph.workers c.graph.cap (c.workers.map Worker.e) (c.links.map Link.e) (c.tokens.map Token.e) (c.news.map News.e)))∨
  ((c.tokens.any (qbO c.graph.workers))=true∧qam prog (qaa f56 2) (qck c.graph.workers (c.graph.nodes.map Node.e) c.graph.workers c.graph.cap (c.workers.map Worker.e) (c.links.map Link.e) (c.tokens.map Token.e) (c.news.map News.e) 0) .ret (qfo false)):=by
 have hl:=qrX hc;have l:=qaW (P:=prog) (c:=(qaa f56 2)) c.tokens (qbO c.graph.workers) (fun i=>qck c.graph.workers (c.graph.nodes.map Node.e) c.graph.workers c.graph.cap (c.workers.map Worker.e) (c.links.map Link.e) (c.tokens.map Token.e) (c.news.map News.e) i) (X:=fun _ _=>qfo false) qaE (qaf 4)
  (fun i a ha h=>by
   have hi:=lt_of ha;simp only[qbO,zy,zX]at h;obtain⟨h1,h2,h3⟩:=h;cases hg:a.going with
   | false=>
    rw[hg,zbc,zbl]at h2;exact qGV ⟨lt1 (lt_of ha),lt0,lt2 (lt_of ha),qac Token.e ha,⟨by omega,by omega⟩,qaK _ _ _ true h1,rfl,lt0,lt2 (lt_of ha),qac Token.e ha,by rw[hg];rfl,lt0,lt2 (lt_of ha),qac Token.e ha,h2,lt0,lt2 (lt_of ha),qac Token.e ha,qaK _ _ _ true h3,rfl,up1 hi hl,trivial⟩
   | true=>exact qGX ⟨lt1 (lt_of ha),lt0,lt2 (lt_of ha),qac Token.e ha,⟨by omega,by omega⟩,qaK _ _ _ true h1,rfl,lt0,lt2 (lt_of ha),qac Token.e ha,by rw[hg];rfl,lt0,lt2 (lt_of ha),qac Token.e ha,qaK _ _ _ true h3,rfl,up1 hi hl,trivial⟩)
  (fun i a ha h=>by
   have hi:=lt_of ha;cases h1:inR a.place 0 (c.graph.workers-1) with
   | false=>exact qGS ⟨lt1 (lt_of ha),lt0,lt2 (lt_of ha),qac Token.e ha,⟨by omega,by omega⟩,qaK _ _ _ false h1,rfl,trivial⟩
   | true=>
   simp only[qbO,h1,zZ,zal]at h;cases hg:a.going with
   | false=>
    rw[hg,zbc,zbl]at h;cases h2:(a.place != 0) with
    | true=>exact qGT ⟨lt1 (lt_of ha),lt0,lt2 (lt_of ha),qac Token.e ha,⟨by omega,by omega⟩,qaK _ _ _ true h1,rfl,lt0,lt2 (lt_of ha),qac Token.e ha,by rw[hg];rfl,lt0,lt2 (lt_of ha),qac Token.e ha,h2,trivial⟩
    | false=>
     rw[h2,zal]at h;exact qGU ⟨lt1 (lt_of ha),lt0,lt2 (lt_of ha),qac Token.e ha,⟨by omega,by omega⟩,qaK _ _ _ true h1,rfl,lt0,lt2 (lt_of ha),qac Token.e ha,by rw[hg];rfl,lt0,lt2 (lt_of ha),qac Token.e ha,h2,lt0,lt2 (lt_of ha),qac Token.e ha,qaK _ _ _ false (by simpa using h),rfl,trivial⟩
   | true=>
    rw[hg,zZ,Bool.false_and,zal]at h;exact qGW ⟨lt1 (lt_of ha),lt0,lt2 (lt_of ha),qac Token.e ha,⟨by omega,by omega⟩,qaK _ _ _ true h1,rfl,lt0,lt2 (lt_of ha),qac Token.e ha,by rw[hg];rfl,lt0,lt2 (lt_of ha),qac Token.e ha,qaK _ _ _ false (by simpa using h),rfl,trivial⟩)
  (qGY ⟨ge1,trivial⟩)
 rcases l with⟨_,_,h1,h2⟩ | ⟨_,_,_,_,_,_,h1,h2⟩
 ·exact .inl ⟨h1,h2⟩
 ·exact .inr ⟨h1,h2⟩
theorem qI4(c:Cluster)(hc:c.sz≤8388608)(hn:1≤c.graph.workers∧c.graph.workers≤4):
  ((c.news.any (qbP c.graph.workers))=false∧qam prog (qaa f56 3) (qdy c.graph.workers (c.graph.nodes.map Node.e) c.graph.workers c.graph.cap (c.workers.map Worker.e) (c.links.map Link.e) (c.tokens.map Token.e) (c.news.map News.e) 0) (.exit 6) qmW)∨
  ((c.news.any (qbP c.graph.workers))=true∧qam prog (qaa f56 3) (qdy c.graph.workers (c.graph.nodes.map Node.e) c.graph.workers c.graph.cap (c.workers.map Worker.e) (c.links.map Link.e) (c.tokens.map Token.e) (c.news.map News.e) 0) .ret (qhK false)):=by
 have hl:=qfz hc;have l:=qaW (P:=prog) (c:=(qaa f56 3)) c.news (qbP c.graph.workers) (fun i=>qdy c.graph.workers (c.graph.nodes.map Node.e) c.graph.workers c.graph.cap (c.workers.map Worker.e) (c.links.map Link.e) (c.tokens.map Token.e) (c.news.map News.e) i) (X:=fun _ _=>qhK false) qaE (qaf 6)
  (fun i a ha h=>by
   have hi:=lt_of ha;simp only[qbP,zy,zX]at h;exact qG2 ⟨lt1 (lt_of ha),lt0,lt2 (lt_of ha),qac News.e ha,⟨by omega,by omega⟩,qaK _ _ _ true h.1,rfl,lt0,lt2 (lt_of ha),qac News.e ha,qaK _ _ _ true h.2,rfl,up1 hi hl,trivial⟩)
  (fun i a ha h=>by
   have hi:=lt_of ha;cases h1:inR a.dest 0 (c.graph.workers-1) with
   | false=>exact qG0 ⟨lt1 (lt_of ha),lt0,lt2 (lt_of ha),qac News.e ha,⟨by omega,by omega⟩,qaK _ _ _ false h1,rfl,trivial⟩
   | true=>
    simp only[qbP,h1,zZ,zal]at h;exact qG1 ⟨lt1 (lt_of ha),lt0,lt2 (lt_of ha),qac News.e ha,⟨by omega,by omega⟩,qaK _ _ _ true h1,rfl,lt0,lt2 (lt_of ha),qac News.e ha,qaK _ _ _ false (by simpa using h),rfl,trivial⟩)
  (qG3 ⟨ge1,trivial⟩)
 rcases l with⟨_,_,h1,h2⟩ | ⟨_,_,_,_,_,_,h1,h2⟩
 ·exact .inl ⟨h1,h2⟩
 ·exact .inr ⟨h1,h2⟩
theorem qI5(c:Cluster)(hc:c.sz≤8388608)(hw:GotLe c):Rt 56 [.agg c.e] [.one (B (qai c))]:=by
 have hg:=qjC c.graph (graph_sz1 hc);unfold qai;cases h1:qaw c.graph with
 | false=>rw[h1]at hg;exact qGC ⟨hg,rfl,trivial⟩
 | true=>
 rw[h1]at hg;have hn:=qa7 h1;have hq:inInt .i64 (c.graph.workers*c.graph.workers):=by
  have h3:c.graph.workers=1∨c.graph.workers=2∨c.graph.workers=3∨c.graph.workers=4:=by omega
  rcases h3 with h3 | h3 | h3 | h3<;>(rw[h3];exact⟨by decide,by decide⟩)
 cases h2:((c.workers.length:Int)==c.graph.workers) with
 | false=>exact qGD ⟨hg,rfl,by rw[zb];simpa using h2,trivial⟩
 | true=>
 have v2:((↑(c.workers.map Worker.e).length:Int) != c.graph.workers)=false:=by rw[zb];simpa using h2
 cases h3:((c.links.length:Int)==c.graph.workers*c.graph.workers) with
 | false=>exact qGE ⟨hg,rfl,v2,hq,by rw[zb];simpa using h3,trivial⟩
 | true=>
 have v3:((↑(c.links.map Link.e).length:Int) != c.graph.workers*c.graph.workers)=false:=by rw[zb];simpa using h3
 cases h4:(c.tokens.length==4) with
 | false=>exact qGF ⟨hg,rfl,v2,hq,v3,len4' h4,trivial⟩
 | true=>
 rcases qI1 c hc (eq_of_beq h2) with⟨h5,l5⟩ | ⟨h5,l5⟩
 case inr=>rw[h5];exact qGJ ⟨hg,rfl,v2,hq,v3,len4 h4,l5,trivial⟩
 rw[h5];rcases qI2 c hc hw hn.1 with⟨h6,l6⟩ | ⟨h6,l6⟩
 case inr=>rw[h6];exact qGR ⟨hg,rfl,v2,hq,v3,len4 h4,l5,l6,trivial⟩
 rw[h6];rcases qI3 c hc hn with⟨h7,l7⟩ | ⟨h7,l7⟩
 case inr=>rw[h7];exact qGZ ⟨hg,rfl,v2,hq,v3,len4 h4,l5,l6,l7,trivial⟩
 rw[h7];rcases qI4 c hc hn with⟨h8,l8⟩ | ⟨h8,l8⟩
 ·rw[h8];exact qG5 ⟨hg,rfl,v2,hq,v3,len4 h4,l5,l6,l7,l8,trivial⟩
 ·rw[h8];exact qG4 ⟨hg,rfl,v2,hq,v3,len4 h4,l5,l6,l7,l8,trivial⟩
theorem qI6(c:Cluster)(hc:c.sz≤8388608)(hn:(c.workers.length:Int)=c.graph.workers):
  ((c.workers.any fun w=>!qaJ c.graph w)=false∧qam prog (qaa f55 0) (qcV c.graph.workers (c.workers.map Worker.e) 0 (c.graph.nodes.map Node.e) c.graph.workers c.graph.cap (c.workers.map Worker.e) (c.links.map Link.e) (c.tokens.map Token.e) (c.news.map News.e)) (.exit 0) (qgv c.graph.workers (c.graph.nodes.map Node.e) c.graph.workers c.graph.cap (c.workers.map Worker.e) (c.links.map Link.e) (c.tokens.map Token.e) (c.news.map News.e)))∨
  ((c.workers.any fun w=>!qaJ c.graph w)=true∧qam prog (qaa f55 0) (qcV c.graph.workers (c.workers.map Worker.e) 0 (c.graph.nodes.map Node.e) c.graph.workers c.graph.cap (c.workers.map Worker.e) (c.links.map Link.e) (c.tokens.map Token.e) (c.news.map News.e)) .ret (qjP false)):=by
 have hl:=Cluster.wlen_le hc;have l:=qaW (P:=prog) (c:=(qaa f55 0)) c.workers (fun w=>!qaJ c.graph w) (fun i=>qcV c.graph.workers (c.workers.map Worker.e) i (c.graph.nodes.map Node.e) c.graph.workers c.graph.cap (c.workers.map Worker.e) (c.links.map Link.e) (c.tokens.map Token.e) (c.news.map News.e)) (X:=fun _ _=>qjP false) qaE (qaf 0)
  (fun i a ha h=>by
   have k:=qjZ c.graph a (graph_sz1 hc) (Cluster.worker_sz hc (qag ha));rw[show qaJ c.graph a=true by simpa using h]at k;exact qHb ⟨lt1 (lt_of ha),lt0,lt2 (lt_of ha),qac Worker.e ha,k,rfl,up1 (lt_of ha) hl,trivial⟩)
  (fun i a ha h=>by
   have k:=qjZ c.graph a (graph_sz1 hc) (Cluster.worker_sz hc (qag ha));rw[show qaJ c.graph a=false by simpa using h]at k;exact qHa ⟨lt1 (lt_of ha),lt0,lt2 (lt_of ha),qac Worker.e ha,k,rfl,trivial⟩)
  (qHc ⟨ge1,trivial⟩)
 rcases l with⟨_,_,h1,h2⟩ | ⟨_,_,_,_,_,_,h1,h2⟩
 ·exact .inl ⟨h1,h2⟩
 ·exact .inr ⟨h1,h2⟩
theorem qI7(c:Cluster)(hc:c.sz≤8388608)(hw:GotLe c)(hn:1≤c.graph.workers):
  (anyI (qbE c.graph) 0 c.links=false∧qam prog (qaa f55 1) (qb8 c.graph.workers (c.links.map Link.e) 0 (c.graph.nodes.map Node.e) c.graph.workers c.graph.cap (c.workers.map Worker.e) (c.links.map Link.e) (c.tokens.map Token.e) (c.news.map News.e)) (.exit 2) (qhL c.graph.workers (c.graph.nodes.map Node.e) c.graph.workers c.graph.cap (c.workers.map Worker.e) (c.links.map Link.e) (c.tokens.map Token.e) (c.news.map News.e)))∨
  (anyI (qbE c.graph) 0 c.links=true∧qam prog (qaa f55 1) (qb8 c.graph.workers (c.links.map Link.e) 0 (c.graph.nodes.map Node.e) c.graph.workers c.graph.cap (c.workers.map Worker.e) (c.links.map Link.e) (c.tokens.map Token.e) (c.news.map News.e)) .ret (qgw false)):=by
 have hl:=Cluster.llen_le hc;have kl:∀(i:Nat) (a:Link),c.links[i]?=some a→∀r,qbq a=r→Rt 173 [.agg a.e] [.one (B r)]:=fun i a ha r h=>h▸qjV a (Cluster.link_sz hc (qag ha)) (hw _ (qag ha))
 have kr:∀(i:Nat) (a:Link),c.links[i]?=some a→∀r,qaV c.graph a.queue=r→Rt 174 [.agg c.graph.e,.one (.sl 5 (a.queue.map Record.e))] [.one (B r)]:=fun i a ha r h=>qfy c.graph _ r h (graph_sz1 hc) (Cluster.link_sz hc (qag ha))
 exact qdn (P:=prog) (c:=(qaa f55 1)) c.links (qbE c.graph) (fun i=>qb8 c.graph.workers (c.links.map Link.e) i (c.graph.nodes.map Node.e) c.graph.workers c.graph.cap (c.workers.map Worker.e) (c.links.map Link.e) (c.tokens.map Token.e) (c.news.map News.e)) qaE (qaf 2)
  (fun i a ha h=>by
   have hi:=lt_of ha;simp only[qbE,zy,zX]at h;obtain⟨h1,h2,h3,h4⟩:=h;cases h5:((i:Int).tdiv c.graph.workers==(i:Int).tmod c.graph.workers) with
   | true=>
    rw[h5,zbl]at h4;exact qHi ⟨lt1 (lt_of ha),lt0,lt2 (lt_of ha),qac Link.e ha,kl i a ha _ h1,rfl,h2,kr i a ha _ h3,rfl,by omega,qgz i _ (by omega) hn,by omega,h5,by rw[zb];exact h4,up1 hi hl,trivial⟩
   | false=>exact qHj ⟨lt1 (lt_of ha),lt0,lt2 (lt_of ha),qac Link.e ha,kl i a ha _ h1,rfl,h2,kr i a ha _ h3,rfl,by omega,qgz i _ (by omega) hn,by omega,h5,up1 hi hl,trivial⟩)
  (fun i a ha h=>by
   have hi:=lt_of ha;cases h1:qbq a with
   | false=>exact qHe ⟨lt1 (lt_of ha),lt0,lt2 (lt_of ha),qac Link.e ha,kl i a ha _ h1,rfl,trivial⟩
   | true=>
   cases h2:(a.cap != c.graph.cap) with
   | true=>exact qHf ⟨lt1 (lt_of ha),lt0,lt2 (lt_of ha),qac Link.e ha,kl i a ha _ h1,rfl,h2,trivial⟩
   | false=>
   cases h3:qaV c.graph a.queue with
   | false=>exact qHg ⟨lt1 (lt_of ha),lt0,lt2 (lt_of ha),qac Link.e ha,kl i a ha _ h1,rfl,h2,kr i a ha _ h3,rfl,trivial⟩
   | true=>
   simp only[qbE,h1,h2,h3,zZ,zal,zj]at h;exact qHh ⟨lt1 (lt_of ha),lt0,lt2 (lt_of ha),qac Link.e ha,kl i a ha _ h1,rfl,h2,kr i a ha _ h3,rfl,by omega,qgz i _ (by omega) hn,by omega,h.1,by rw[zb];exact h.2,trivial⟩)
  (qHk ⟨ge1,trivial⟩)
theorem qI8(c:Cluster)(hc:c.sz≤8388608)(hn:1≤c.graph.workers∧c.graph.workers≤4):
  ((c.tokens.any (qbO c.graph.workers))=false∧qam prog (qaa f55 2) (qcl c.graph.workers (c.tokens.map Token.e) 0 (c.graph.nodes.map Node.e) c.graph.workers c.graph.cap (c.workers.map Worker.e) (c.links.map Link.e) (c.tokens.map Token.e) (c.news.map News.e)) (.exit 4) (qjQ c.graph.workers (c.graph.nodes.map Node.e) c.graph.workers c.graph.cap (c.workers.map Worker.e) (c.links.map Link.e) (c.tokens.map Token.e) (c.news.map News.e)))∨
  ((c.tokens.any (qbO c.graph.workers))=true∧qam prog (qaa f55 2) (qcl c.graph.workers (c.tokens.map Token.e) 0 (c.graph.nodes.map Node.e) c.graph.workers c.graph.cap (c.workers.map Worker.e) (c.links.map Link.e) (c.tokens.map Token.e) (c.news.map News.e)) .ret (qfp false)):=by
 have hl:=qrX hc;have l:=qaW (P:=prog) (c:=(qaa f55 2)) c.tokens (qbO c.graph.workers) (fun i=>qcl c.graph.workers (c.tokens.map Token.e) i (c.graph.nodes.map Node.e) c.graph.workers c.graph.cap (c.workers.map Worker.e) (c.links.map Link.e) (c.tokens.map Token.e) (c.news.map News.e)) (X:=fun _ _=>qfp false) qaE (qaf 4)
  (fun i a ha h=>by
   have hi:=lt_of ha;simp only[qbO,zy,zX]at h;obtain⟨h1,h2,h3⟩:=h;cases hg:a.going with
   | false=>
    rw[hg,zbc,zbl]at h2;exact qHp ⟨lt1 (lt_of ha),lt0,lt2 (lt_of ha),qac Token.e ha,⟨by omega,by omega⟩,qaO _ _ _ true h1,rfl,by rw[hg];rfl,h2,qaO _ _ _ true h3,rfl,up1 hi hl,trivial⟩
   | true=>exact qHr ⟨lt1 (lt_of ha),lt0,lt2 (lt_of ha),qac Token.e ha,⟨by omega,by omega⟩,qaO _ _ _ true h1,rfl,by rw[hg];rfl,qaO _ _ _ true h3,rfl,up1 hi hl,trivial⟩)
  (fun i a ha h=>by
   have hi:=lt_of ha;cases h1:inR a.place 0 (c.graph.workers-1) with
   | false=>exact qHm ⟨lt1 (lt_of ha),lt0,lt2 (lt_of ha),qac Token.e ha,⟨by omega,by omega⟩,qaO _ _ _ false h1,rfl,trivial⟩
   | true=>
   simp only[qbO,h1,zZ,zal]at h;cases hg:a.going with
   | false=>
    rw[hg,zbc,zbl]at h;cases h2:(a.place != 0) with
    | true=>exact qHn ⟨lt1 (lt_of ha),lt0,lt2 (lt_of ha),qac Token.e ha,⟨by omega,by omega⟩,qaO _ _ _ true h1,rfl,by rw[hg];rfl,h2,trivial⟩
    | false=>
     rw[h2,zal]at h;exact qHo ⟨lt1 (lt_of ha),lt0,lt2 (lt_of ha),qac Token.e ha,⟨by omega,by omega⟩,qaO _ _ _ true h1,rfl,by rw[hg];rfl,h2,qaO _ _ _ false (by simpa using h),rfl,trivial⟩
   | true=>
    rw[hg,zZ,Bool.false_and,zal]at h;exact qHq ⟨lt1 (lt_of ha),lt0,lt2 (lt_of ha),qac Token.e ha,⟨by omega,by omega⟩,qaO _ _ _ true h1,rfl,by rw[hg];rfl,qaO _ _ _ false (by simpa using h),rfl,trivial⟩)
  (qHs ⟨ge1,trivial⟩)
 rcases l with⟨_,_,h1,h2⟩ | ⟨_,_,_,_,_,_,h1,h2⟩
 ·exact .inl ⟨h1,h2⟩
 ·exact .inr ⟨h1,h2⟩
theorem qI9(c:Cluster)(hc:c.sz≤8388608)(hn:1≤c.graph.workers∧c.graph.workers≤4):
  ((c.news.any (qbP c.graph.workers))=false∧qam prog (qaa f55 3) (qdz c.graph.workers (c.news.map News.e) 0) (.exit 6) qmX)∨
  ((c.news.any (qbP c.graph.workers))=true∧qam prog (qaa f55 3) (qdz c.graph.workers (c.news.map News.e) 0) .ret (qhM false)):=by
 have hl:=qfz hc;have l:=qaW (P:=prog) (c:=(qaa f55 3)) c.news (qbP c.graph.workers) (fun i=>qdz c.graph.workers (c.news.map News.e) i) (X:=fun _ _=>qhM false) qaE (qaf 6)
  (fun i a ha h=>by
   have hi:=lt_of ha;simp only[qbP,zy,zX]at h;exact qHw ⟨lt1 (lt_of ha),lt0,lt2 (lt_of ha),qac News.e ha,⟨by omega,by omega⟩,qaO _ _ _ true h.1,rfl,qaO _ _ _ true h.2,rfl,up1 hi hl,trivial⟩)
  (fun i a ha h=>by
   have hi:=lt_of ha;cases h1:inR a.dest 0 (c.graph.workers-1) with
   | false=>exact qHu ⟨lt1 (lt_of ha),lt0,lt2 (lt_of ha),qac News.e ha,⟨by omega,by omega⟩,qaO _ _ _ false h1,rfl,trivial⟩
   | true=>
    simp only[qbP,h1,zZ,zal]at h;exact qHv ⟨lt1 (lt_of ha),lt0,lt2 (lt_of ha),qac News.e ha,⟨by omega,by omega⟩,qaO _ _ _ true h1,rfl,qaO _ _ _ false (by simpa using h),rfl,trivial⟩)
  (qHx ⟨ge1,trivial⟩)
 rcases l with⟨_,_,h1,h2⟩ | ⟨_,_,_,_,_,_,h1,h2⟩
 ·exact .inl ⟨h1,h2⟩
 ·exact .inr ⟨h1,h2⟩
theorem qhO(c:Cluster)(hc:c.sz≤8388608)(hw:GotLe c):Rt 55 [.agg c.e] [.one (B (qai c))]:=by
 have hg:=qfj c.graph (graph_sz1 hc);unfold qai;cases h1:qaw c.graph with
 | false=>rw[h1]at hg;exact qG6 ⟨hg,rfl,trivial⟩
 | true=>
 rw[h1]at hg;have hn:=qa7 h1;have hq:inInt .i64 (c.graph.workers*c.graph.workers):=by
  have h3:c.graph.workers=1∨c.graph.workers=2∨c.graph.workers=3∨c.graph.workers=4:=by omega
  rcases h3 with h3 | h3 | h3 | h3<;>(rw[h3];exact⟨by decide,by decide⟩)
 cases h2:((c.workers.length:Int)==c.graph.workers) with
 | false=>exact qG7 ⟨hg,rfl,by rw[zb];simpa using h2,trivial⟩
 | true=>
 have v2:((↑(c.workers.map Worker.e).length:Int) != c.graph.workers)=false:=by rw[zb];simpa using h2
 cases h3:((c.links.length:Int)==c.graph.workers*c.graph.workers) with
 | false=>exact qG8 ⟨hg,rfl,v2,hq,by rw[zb];simpa using h3,trivial⟩
 | true=>
 have v3:((↑(c.links.map Link.e).length:Int) != c.graph.workers*c.graph.workers)=false:=by rw[zb];simpa using h3
 cases h4:(c.tokens.length==4) with
 | false=>exact qG9 ⟨hg,rfl,v2,hq,v3,len4' h4,trivial⟩
 | true=>
 rcases qI6 c hc (eq_of_beq h2) with⟨h5,l5⟩ | ⟨h5,l5⟩
 case inr=>rw[h5];exact qHd ⟨hg,rfl,v2,hq,v3,len4 h4,l5,trivial⟩
 rw[h5];rcases qI7 c hc hw hn.1 with⟨h6,l6⟩ | ⟨h6,l6⟩
 case inr=>rw[h6];exact qHl ⟨hg,rfl,v2,hq,v3,len4 h4,l5,l6,trivial⟩
 rw[h6];rcases qI8 c hc hn with⟨h7,l7⟩ | ⟨h7,l7⟩
 case inr=>rw[h7];exact qHt ⟨hg,rfl,v2,hq,v3,len4 h4,l5,l6,l7,trivial⟩
 rw[h7];rcases qI9 c hc hn with⟨h8,l8⟩ | ⟨h8,l8⟩
 ·rw[h8];exact qHz ⟨hg,rfl,v2,hq,v3,len4 h4,l5,l6,l7,l8,trivial⟩
 ·rw[h8];exact qHy ⟨hg,rfl,v2,hq,v3,len4 h4,l5,l6,l7,l8,trivial⟩
