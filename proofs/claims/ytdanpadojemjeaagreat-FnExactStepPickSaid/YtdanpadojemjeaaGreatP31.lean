/- ClusterOk, SafeCluster: what program and reference compute; the law SafeCluster answers true. -/
import Derived.Test.YtdanpadojemjeaaGreatP28
set_option linter.unusedVariables false
set_option linter.unusedSimpArgs false
namespace Go.Proofs.YtdanpadojemjeaaGreat
open Go.Sx Go.RowKit Go.Proofs.Tryz
theorem graph_sz1{c:Cluster}(h:c.sz≤8388608):c.graph.sz≤8388608:=by simp only[Cluster.sz]at h;omega
theorem qpf{c:Cluster}(h:c.sz≤8388608):c.tokens.length≤8388608:=by simp only[Cluster.sz,szS]at h;omega
theorem qe1{c:Cluster}(h:c.sz≤8388608):c.news.length≤8388608:=by simp only[Cluster.sz,szS]at h;omega
def qbn(g:Graph)(i:Nat)(l:Link):Bool:=
 !qbm l||((l.cap != g.cap)||(!qaP g l.queue||((i:Int).tdiv g.workers==(i:Int).tmod g.workers&&decide ((l.queue.length:Int)>0))))
def qbG(n:Int)(t:Token):Bool:=!inR t.place 0 (n-1)||((!t.going&&t.place != 0)||!inR t.sum (-1000000) 1000000)
def qbH(n:Int)(x:News):Bool:=!inR x.dest 0 (n-1)||!inR x.epoch 0 3
def qai(c:Cluster):Bool:=
 qaw c.graph&&(((c.workers.length:Int)==c.graph.workers)&&(((c.links.length:Int)==c.graph.workers*c.graph.workers)&&((c.tokens.length==4)&&(!(c.workers.any fun w=>!qaz c.graph w)&&(!(anyI (qbn c.graph) 0 c.links)&&(!(c.tokens.any (qbG c.graph.workers))&&!(c.news.any (qbH c.graph.workers))))))))
theorem qcq{g:Graph}(h:qaw g=true):1≤g.workers∧g.workers≤4:=by
 simp only[qaw,zj,inR,zi]at h
 omega
theorem qf1(i:Nat)(n:Int)(hi:i≤8388608)(hn:1≤n):inInt .i64 ((i:Int).tdiv n):=by
 have h1:0≤(i:Int).tdiv n:=Int.tdiv_nonneg (by omega) (by omega)
 have h2:(i:Int).tdiv n≤(i:Int):=Int.tdiv_le_self _ (by omega)
 exact⟨by omega,by omega⟩
theorem qH2{c:Cluster}(h:c.wf){l:Link}(hl:l∈c.links):l.got≤9223372036854775807:=by
 have:=(Cluster.link_wf h hl).got_ok
 simp only[inInt]at this
 exact this.2
def GotLe(c:Cluster):Prop:=∀l∈c.links,l.got≤9223372036854775807
theorem GotLe.of{c:Cluster}(h:c.wf):GotLe c:=fun _ hl=>qH2 h hl
theorem qH3(c:Cluster)(hc:c.sz≤8388608)(hn:(c.workers.length:Int)=c.graph.workers):
  ((c.workers.any fun w=>!qaz c.graph w)=false∧qam prog (qaa f113 0) (qcA (c.graph.nodes.map Node.e) c.graph.workers c.graph.cap (c.workers.map Worker.e) (c.links.map Link.e) (c.tokens.map Token.e) (c.news.map News.e) 0) (.exit 0) (qfU (c.graph.nodes.map Node.e) c.graph.workers c.graph.cap (c.workers.map Worker.e) (c.links.map Link.e) (c.tokens.map Token.e) (c.news.map News.e)))∨
  ((c.workers.any fun w=>!qaz c.graph w)=true∧qam prog (qaa f113 0) (qcA (c.graph.nodes.map Node.e) c.graph.workers c.graph.cap (c.workers.map Worker.e) (c.links.map Link.e) (c.tokens.map Token.e) (c.news.map News.e) 0) .ret (qie false)):=by
 have hl:=Cluster.wlen_le hc
 have l:=qaT (P:=prog) (c:=(qaa f113 0)) c.workers (fun w=>!qaz c.graph w) (fun i=>qcA (c.graph.nodes.map Node.e) c.graph.workers c.graph.cap (c.workers.map Worker.e) (c.links.map Link.e) (c.tokens.map Token.e) (c.news.map News.e) i) (X:=fun _ _=>qie false) qav (qaf 0)
  (fun i a ha h=>by
   have k:=qpd c.graph a (graph_sz1 hc) (Cluster.worker_sz hc (qaq ha))
   rw[show qaz c.graph a=true by simpa using h]at k
   exact qB7 ⟨dT (by have:=lt_of ha;omega),lt0,lt2 (lt_of ha),qac Worker.e ha,k,rfl,up1 (lt_of ha) hl,trivial⟩)
  (fun i a ha h=>by
   have k:=qpd c.graph a (graph_sz1 hc) (Cluster.worker_sz hc (qaq ha))
   rw[show qaz c.graph a=false by simpa using h]at k
   exact qB6 ⟨dT (by have:=lt_of ha;omega),lt0,lt2 (lt_of ha),qac Worker.e ha,k,rfl,trivial⟩)
  (qB8 ⟨dF (by omega),trivial⟩)
 rcases l with⟨_,_,h1,h2⟩ | ⟨_,_,_,_,_,_,h1,h2⟩
 ·exact .inl ⟨h1,h2⟩
 ·exact .inr ⟨h1,h2⟩
theorem qH4(c:Cluster)(hc:c.sz≤8388608)(hw:GotLe c)(hn:1≤c.graph.workers):
  (anyI (qbn c.graph) 0 c.links=false∧qam prog (qaa f113 1) (qbT c.graph.workers 0 (c.graph.nodes.map Node.e) c.graph.workers c.graph.cap (c.workers.map Worker.e) (c.links.map Link.e) (c.tokens.map Token.e) (c.news.map News.e)) (.exit 2) (qgV c.graph.workers (c.graph.nodes.map Node.e) c.graph.workers c.graph.cap (c.workers.map Worker.e) (c.links.map Link.e) (c.tokens.map Token.e) (c.news.map News.e)))∨
  (anyI (qbn c.graph) 0 c.links=true∧qam prog (qaa f113 1) (qbT c.graph.workers 0 (c.graph.nodes.map Node.e) c.graph.workers c.graph.cap (c.workers.map Worker.e) (c.links.map Link.e) (c.tokens.map Token.e) (c.news.map News.e)) .ret (qfV false)):=by
 have hl:=Cluster.llen_le hc
 have kl:∀(i:Nat) (a:Link),c.links[i]?=some a→∀r,qbm a=r→Rt 188 [.agg a.e] [.one (B r)]:=fun i a ha r h=>h▸qil a (Cluster.link_sz hc (qaq ha))
 have kr:∀(i:Nat) (a:Link),c.links[i]?=some a→∀r,qaP c.graph a.queue=r→Rt 189 [.agg c.graph.e,.one (.sl 5 (a.queue.map Record.e))] [.one (B r)]:=fun i a ha r h=>qeZ c.graph _ r h (graph_sz1 hc) (Cluster.link_sz hc (qaq ha))
 exact qdE (P:=prog) (c:=(qaa f113 1)) c.links (qbn c.graph) (fun i=>qbT c.graph.workers i (c.graph.nodes.map Node.e) c.graph.workers c.graph.cap (c.workers.map Worker.e) (c.links.map Link.e) (c.tokens.map Token.e) (c.news.map News.e)) qav (qaf 2)
  (fun i a ha h=>by
   have hi:=lt_of ha
   simp only[qbn,zy,zW]at h
   obtain⟨h1,h2,h3,h4⟩:=h
   cases h5:((i:Int).tdiv c.graph.workers==(i:Int).tmod c.graph.workers) with
   | true=>
    rw[h5,zbk]at h4
    exact qCe ⟨lt1 (lt_of ha),lt0,lt2 (lt_of ha),qac Link.e ha,kl i a ha _ h1,rfl,h2,kr i a ha _ h3,rfl,by omega,qf1 i _ (by omega) hn,by omega,h5,by rw[zb];exact h4,up1 hi hl,trivial⟩
   | false=>exact qCf ⟨lt1 (lt_of ha),lt0,lt2 (lt_of ha),qac Link.e ha,kl i a ha _ h1,rfl,h2,kr i a ha _ h3,rfl,by omega,qf1 i _ (by omega) hn,by omega,h5,up1 hi hl,trivial⟩)
  (fun i a ha h=>by
   have hi:=lt_of ha
   cases h1:qbm a with
   | false=>exact qCa ⟨lt1 (lt_of ha),lt0,lt2 (lt_of ha),qac Link.e ha,kl i a ha _ h1,rfl,trivial⟩
   | true=>
   cases h2:(a.cap != c.graph.cap) with
   | true=>exact qCb ⟨lt1 (lt_of ha),lt0,lt2 (lt_of ha),qac Link.e ha,kl i a ha _ h1,rfl,h2,trivial⟩
   | false=>
   cases h3:qaP c.graph a.queue with
   | false=>exact qCc ⟨lt1 (lt_of ha),lt0,lt2 (lt_of ha),qac Link.e ha,kl i a ha _ h1,rfl,h2,kr i a ha _ h3,rfl,trivial⟩
   | true=>
   simp only[qbn,h1,h2,h3,zY,zaj,zj]at h
   exact qCd ⟨lt1 (lt_of ha),lt0,lt2 (lt_of ha),qac Link.e ha,kl i a ha _ h1,rfl,h2,kr i a ha _ h3,rfl,by omega,qf1 i _ (by omega) hn,by omega,h.1,by rw[zb];exact h.2,trivial⟩)
  (qCg ⟨ge1,trivial⟩)
theorem qH5(c:Cluster)(hc:c.sz≤8388608)(hn:1≤c.graph.workers∧c.graph.workers≤4):
  ((c.tokens.any (qbG c.graph.workers))=false∧qam prog (qaa f113 2) (qb3 c.graph.workers (c.graph.nodes.map Node.e) c.graph.workers c.graph.cap (c.workers.map Worker.e) (c.links.map Link.e) (c.tokens.map Token.e) (c.news.map News.e) 0) (.exit 4) (qif c.graph.workers (c.graph.nodes.map Node.e) c.graph.workers c.graph.cap (c.workers.map Worker.e) (c.links.map Link.e) (c.tokens.map Token.e) (c.news.map News.e)))∨
  ((c.tokens.any (qbG c.graph.workers))=true∧qam prog (qaa f113 2) (qb3 c.graph.workers (c.graph.nodes.map Node.e) c.graph.workers c.graph.cap (c.workers.map Worker.e) (c.links.map Link.e) (c.tokens.map Token.e) (c.news.map News.e) 0) .ret (qeP false)):=by
 have hl:=qpf hc
 have l:=qaT (P:=prog) (c:=(qaa f113 2)) c.tokens (qbG c.graph.workers) (fun i=>qb3 c.graph.workers (c.graph.nodes.map Node.e) c.graph.workers c.graph.cap (c.workers.map Worker.e) (c.links.map Link.e) (c.tokens.map Token.e) (c.news.map News.e) i) (X:=fun _ _=>qeP false) qav (qaf 4)
  (fun i a ha h=>by
   have hi:=lt_of ha
   simp only[qbG,zy,zW]at h
   obtain⟨h1,h2,h3⟩:=h
   cases hg:a.going with
   | false=>
    rw[hg,zaz,zbk]at h2
    exact qCl ⟨lt1 (lt_of ha),lt0,lt2 (lt_of ha),qac Token.e ha,⟨by omega,by omega⟩,qaK _ _ _ true h1,rfl,lt0,lt2 (lt_of ha),qac Token.e ha,by rw[hg];rfl,lt0,lt2 (lt_of ha),qac Token.e ha,h2,lt0,lt2 (lt_of ha),qac Token.e ha,qaK _ _ _ true h3,rfl,up1 hi hl,trivial⟩
   | true=>exact qCn ⟨lt1 (lt_of ha),lt0,lt2 (lt_of ha),qac Token.e ha,⟨by omega,by omega⟩,qaK _ _ _ true h1,rfl,lt0,lt2 (lt_of ha),qac Token.e ha,by rw[hg];rfl,lt0,lt2 (lt_of ha),qac Token.e ha,qaK _ _ _ true h3,rfl,up1 hi hl,trivial⟩)
  (fun i a ha h=>by
   have hi:=lt_of ha
   cases h1:inR a.place 0 (c.graph.workers-1) with
   | false=>exact qCi ⟨lt1 (lt_of ha),lt0,lt2 (lt_of ha),qac Token.e ha,⟨by omega,by omega⟩,qaK _ _ _ false h1,rfl,trivial⟩
   | true=>
   simp only[qbG,h1,zY,zaj]at h
   cases hg:a.going with
   | false=>
    rw[hg,zaz,zbk]at h
    cases h2:(a.place != 0) with
    | true=>exact qCj ⟨lt1 (lt_of ha),lt0,lt2 (lt_of ha),qac Token.e ha,⟨by omega,by omega⟩,qaK _ _ _ true h1,rfl,lt0,lt2 (lt_of ha),qac Token.e ha,by rw[hg];rfl,lt0,lt2 (lt_of ha),qac Token.e ha,h2,trivial⟩
    | false=>
     rw[h2,zaj]at h
     exact qCk ⟨lt1 (lt_of ha),lt0,lt2 (lt_of ha),qac Token.e ha,⟨by omega,by omega⟩,qaK _ _ _ true h1,rfl,lt0,lt2 (lt_of ha),qac Token.e ha,by rw[hg];rfl,lt0,lt2 (lt_of ha),qac Token.e ha,h2,lt0,lt2 (lt_of ha),qac Token.e ha,qaK _ _ _ false (by simpa using h),rfl,trivial⟩
   | true=>
    rw[hg,zY,Bool.false_and,zaj]at h
    exact qCm ⟨lt1 (lt_of ha),lt0,lt2 (lt_of ha),qac Token.e ha,⟨by omega,by omega⟩,qaK _ _ _ true h1,rfl,lt0,lt2 (lt_of ha),qac Token.e ha,by rw[hg];rfl,lt0,lt2 (lt_of ha),qac Token.e ha,qaK _ _ _ false (by simpa using h),rfl,trivial⟩)
  (qCo ⟨ge1,trivial⟩)
 rcases l with⟨_,_,h1,h2⟩ | ⟨_,_,_,_,_,_,h1,h2⟩
 ·exact .inl ⟨h1,h2⟩
 ·exact .inr ⟨h1,h2⟩
theorem qH6(c:Cluster)(hc:c.sz≤8388608)(hn:1≤c.graph.workers∧c.graph.workers≤4):
  ((c.news.any (qbH c.graph.workers))=false∧qam prog (qaa f113 3) (qc8 c.graph.workers (c.graph.nodes.map Node.e) c.graph.workers c.graph.cap (c.workers.map Worker.e) (c.links.map Link.e) (c.tokens.map Token.e) (c.news.map News.e) 0) (.exit 6) qkA)∨
  ((c.news.any (qbH c.graph.workers))=true∧qam prog (qaa f113 3) (qc8 c.graph.workers (c.graph.nodes.map Node.e) c.graph.workers c.graph.cap (c.workers.map Worker.e) (c.links.map Link.e) (c.tokens.map Token.e) (c.news.map News.e) 0) .ret (qgW false)):=by
 have hl:=qe1 hc
 have l:=qaT (P:=prog) (c:=(qaa f113 3)) c.news (qbH c.graph.workers) (fun i=>qc8 c.graph.workers (c.graph.nodes.map Node.e) c.graph.workers c.graph.cap (c.workers.map Worker.e) (c.links.map Link.e) (c.tokens.map Token.e) (c.news.map News.e) i) (X:=fun _ _=>qgW false) qav (qaf 6)
  (fun i a ha h=>by
   have hi:=lt_of ha
   simp only[qbH,zy,zW]at h
   exact qCs ⟨lt1 (lt_of ha),lt0,lt2 (lt_of ha),qac News.e ha,⟨by omega,by omega⟩,qaK _ _ _ true h.1,rfl,lt0,lt2 (lt_of ha),qac News.e ha,qaK _ _ _ true h.2,rfl,up1 hi hl,trivial⟩)
  (fun i a ha h=>by
   have hi:=lt_of ha
   cases h1:inR a.dest 0 (c.graph.workers-1) with
   | false=>exact qCq ⟨lt1 (lt_of ha),lt0,lt2 (lt_of ha),qac News.e ha,⟨by omega,by omega⟩,qaK _ _ _ false h1,rfl,trivial⟩
   | true=>
    simp only[qbH,h1,zY,zaj]at h
    exact qCr ⟨lt1 (lt_of ha),lt0,lt2 (lt_of ha),qac News.e ha,⟨by omega,by omega⟩,qaK _ _ _ true h1,rfl,lt0,lt2 (lt_of ha),qac News.e ha,qaK _ _ _ false (by simpa using h),rfl,trivial⟩)
  (qCt ⟨ge1,trivial⟩)
 rcases l with⟨_,_,h1,h2⟩ | ⟨_,_,_,_,_,_,h1,h2⟩
 ·exact .inl ⟨h1,h2⟩
 ·exact .inr ⟨h1,h2⟩
theorem qH7(c:Cluster)(hc:c.sz≤8388608)(hw:GotLe c):Rt 113 [.agg c.e] [.one (B (qai c))]:=by
 have hg:=qkK c.graph (graph_sz1 hc)
 unfold qai
 cases h1:qaw c.graph with
 | false=>rw[h1]at hg;exact qB2 ⟨hg,rfl,trivial⟩
 | true=>
 rw[h1]at hg
 have hn:=qcq h1
 have hq:inInt .i64 (c.graph.workers*c.graph.workers):=by
  have h3:c.graph.workers=1∨c.graph.workers=2∨c.graph.workers=3∨c.graph.workers=4:=by omega
  rcases h3 with h3 | h3 | h3 | h3<;>(rw[h3];exact⟨by decide,by decide⟩)
 cases h2:((c.workers.length:Int)==c.graph.workers) with
 | false=>exact qB3 ⟨hg,rfl,by rw[zb];simpa using h2,trivial⟩
 | true=>
 have v2:((↑(c.workers.map Worker.e).length:Int) != c.graph.workers)=false:=by rw[zb];simpa using h2
 cases h3:((c.links.length:Int)==c.graph.workers*c.graph.workers) with
 | false=>exact qB4 ⟨hg,rfl,v2,hq,by rw[zb];simpa using h3,trivial⟩
 | true=>
 have v3:((↑(c.links.map Link.e).length:Int) != c.graph.workers*c.graph.workers)=false:=by rw[zb];simpa using h3
 cases h4:(c.tokens.length==4) with
 | false=>exact qB5 ⟨hg,rfl,v2,hq,v3,len4' h4,trivial⟩
 | true=>
 rcases qH3 c hc (eq_of_beq h2) with⟨h5,l5⟩ | ⟨h5,l5⟩
 case inr=>rw[h5];exact qB9 ⟨hg,rfl,v2,hq,v3,len4 h4,l5,trivial⟩
 rw[h5]
 rcases qH4 c hc hw hn.1 with⟨h6,l6⟩ | ⟨h6,l6⟩
 case inr=>rw[h6];exact qCh ⟨hg,rfl,v2,hq,v3,len4 h4,l5,l6,trivial⟩
 rw[h6]
 rcases qH5 c hc hn with⟨h7,l7⟩ | ⟨h7,l7⟩
 case inr=>rw[h7];exact qCp ⟨hg,rfl,v2,hq,v3,len4 h4,l5,l6,l7,trivial⟩
 rw[h7]
 rcases qH6 c hc hn with⟨h8,l8⟩ | ⟨h8,l8⟩
 ·rw[h8];exact qCv ⟨hg,rfl,v2,hq,v3,len4 h4,l5,l6,l7,l8,trivial⟩
 ·rw[h8];exact qCu ⟨hg,rfl,v2,hq,v3,len4 h4,l5,l6,l7,l8,trivial⟩
theorem qH8(c:Cluster)(hc:c.sz≤8388608)(hn:(c.workers.length:Int)=c.graph.workers):
  ((c.workers.any fun w=>!qaz c.graph w)=false∧qam prog (qaa f64 0) (qcB c.graph.workers (c.workers.map Worker.e) 0 (c.graph.nodes.map Node.e) c.graph.workers c.graph.cap (c.workers.map Worker.e) (c.links.map Link.e) (c.tokens.map Token.e) (c.news.map News.e)) (.exit 0) (qfW c.graph.workers (c.graph.nodes.map Node.e) c.graph.workers c.graph.cap (c.workers.map Worker.e) (c.links.map Link.e) (c.tokens.map Token.e) (c.news.map News.e)))∨
  ((c.workers.any fun w=>!qaz c.graph w)=true∧qam prog (qaa f64 0) (qcB c.graph.workers (c.workers.map Worker.e) 0 (c.graph.nodes.map Node.e) c.graph.workers c.graph.cap (c.workers.map Worker.e) (c.links.map Link.e) (c.tokens.map Token.e) (c.news.map News.e)) .ret (qig false)):=by
 have hl:=Cluster.wlen_le hc
 have l:=qaT (P:=prog) (c:=(qaa f64 0)) c.workers (fun w=>!qaz c.graph w) (fun i=>qcB c.graph.workers (c.workers.map Worker.e) i (c.graph.nodes.map Node.e) c.graph.workers c.graph.cap (c.workers.map Worker.e) (c.links.map Link.e) (c.tokens.map Token.e) (c.news.map News.e)) (X:=fun _ _=>qig false) qav (qaf 0)
  (fun i a ha h=>by
   have k:=qio c.graph a (graph_sz1 hc) (Cluster.worker_sz hc (qaq ha))
   rw[show qaz c.graph a=true by simpa using h]at k
   exact qCB ⟨lt1 (lt_of ha),lt0,lt2 (lt_of ha),qac Worker.e ha,k,rfl,up1 (lt_of ha) hl,trivial⟩)
  (fun i a ha h=>by
   have k:=qio c.graph a (graph_sz1 hc) (Cluster.worker_sz hc (qaq ha))
   rw[show qaz c.graph a=false by simpa using h]at k
   exact qCA ⟨lt1 (lt_of ha),lt0,lt2 (lt_of ha),qac Worker.e ha,k,rfl,trivial⟩)
  (qCC ⟨ge1,trivial⟩)
 rcases l with⟨_,_,h1,h2⟩ | ⟨_,_,_,_,_,_,h1,h2⟩
 ·exact .inl ⟨h1,h2⟩
 ·exact .inr ⟨h1,h2⟩
theorem qH9(c:Cluster)(hc:c.sz≤8388608)(hw:GotLe c)(hn:1≤c.graph.workers):
  (anyI (qbn c.graph) 0 c.links=false∧qam prog (qaa f64 1) (qbU c.graph.workers (c.links.map Link.e) 0 (c.graph.nodes.map Node.e) c.graph.workers c.graph.cap (c.workers.map Worker.e) (c.links.map Link.e) (c.tokens.map Token.e) (c.news.map News.e)) (.exit 2) (qgX c.graph.workers (c.graph.nodes.map Node.e) c.graph.workers c.graph.cap (c.workers.map Worker.e) (c.links.map Link.e) (c.tokens.map Token.e) (c.news.map News.e)))∨
  (anyI (qbn c.graph) 0 c.links=true∧qam prog (qaa f64 1) (qbU c.graph.workers (c.links.map Link.e) 0 (c.graph.nodes.map Node.e) c.graph.workers c.graph.cap (c.workers.map Worker.e) (c.links.map Link.e) (c.tokens.map Token.e) (c.news.map News.e)) .ret (qfX false)):=by
 have hl:=Cluster.llen_le hc
 have kl:∀(i:Nat) (a:Link),c.links[i]?=some a→∀r,qbm a=r→Rt 124 [.agg a.e] [.one (B r)]:=fun i a ha r h=>h▸qik a (Cluster.link_sz hc (qaq ha)) (hw _ (qaq ha))
 have kr:∀(i:Nat) (a:Link),c.links[i]?=some a→∀r,qaP c.graph a.queue=r→Rt 125 [.agg c.graph.e,.one (.sl 5 (a.queue.map Record.e))] [.one (B r)]:=fun i a ha r h=>qe0 c.graph _ r h (graph_sz1 hc) (Cluster.link_sz hc (qaq ha))
 exact qdE (P:=prog) (c:=(qaa f64 1)) c.links (qbn c.graph) (fun i=>qbU c.graph.workers (c.links.map Link.e) i (c.graph.nodes.map Node.e) c.graph.workers c.graph.cap (c.workers.map Worker.e) (c.links.map Link.e) (c.tokens.map Token.e) (c.news.map News.e)) qav (qaf 2)
  (fun i a ha h=>by
   have hi:=lt_of ha
   simp only[qbn,zy,zW]at h
   obtain⟨h1,h2,h3,h4⟩:=h
   cases h5:((i:Int).tdiv c.graph.workers==(i:Int).tmod c.graph.workers) with
   | true=>
    rw[h5,zbk]at h4
    exact qCI ⟨lt1 (lt_of ha),lt0,lt2 (lt_of ha),qac Link.e ha,kl i a ha _ h1,rfl,h2,kr i a ha _ h3,rfl,by omega,qf1 i _ (by omega) hn,by omega,h5,by rw[zb];exact h4,up1 hi hl,trivial⟩
   | false=>exact qCJ ⟨lt1 (lt_of ha),lt0,lt2 (lt_of ha),qac Link.e ha,kl i a ha _ h1,rfl,h2,kr i a ha _ h3,rfl,by omega,qf1 i _ (by omega) hn,by omega,h5,up1 hi hl,trivial⟩)
  (fun i a ha h=>by
   have hi:=lt_of ha
   cases h1:qbm a with
   | false=>exact qCE ⟨lt1 (lt_of ha),lt0,lt2 (lt_of ha),qac Link.e ha,kl i a ha _ h1,rfl,trivial⟩
   | true=>
   cases h2:(a.cap != c.graph.cap) with
   | true=>exact qCF ⟨lt1 (lt_of ha),lt0,lt2 (lt_of ha),qac Link.e ha,kl i a ha _ h1,rfl,h2,trivial⟩
   | false=>
   cases h3:qaP c.graph a.queue with
   | false=>exact qCG ⟨lt1 (lt_of ha),lt0,lt2 (lt_of ha),qac Link.e ha,kl i a ha _ h1,rfl,h2,kr i a ha _ h3,rfl,trivial⟩
   | true=>
   simp only[qbn,h1,h2,h3,zY,zaj,zj]at h
   exact qCH ⟨lt1 (lt_of ha),lt0,lt2 (lt_of ha),qac Link.e ha,kl i a ha _ h1,rfl,h2,kr i a ha _ h3,rfl,by omega,qf1 i _ (by omega) hn,by omega,h.1,by rw[zb];exact h.2,trivial⟩)
  (qCK ⟨ge1,trivial⟩)
theorem qIa(c:Cluster)(hc:c.sz≤8388608)(hn:1≤c.graph.workers∧c.graph.workers≤4):
  ((c.tokens.any (qbG c.graph.workers))=false∧qam prog (qaa f64 2) (qb4 c.graph.workers (c.tokens.map Token.e) 0 (c.graph.nodes.map Node.e) c.graph.workers c.graph.cap (c.workers.map Worker.e) (c.links.map Link.e) (c.tokens.map Token.e) (c.news.map News.e)) (.exit 4) (qih c.graph.workers (c.graph.nodes.map Node.e) c.graph.workers c.graph.cap (c.workers.map Worker.e) (c.links.map Link.e) (c.tokens.map Token.e) (c.news.map News.e)))∨
  ((c.tokens.any (qbG c.graph.workers))=true∧qam prog (qaa f64 2) (qb4 c.graph.workers (c.tokens.map Token.e) 0 (c.graph.nodes.map Node.e) c.graph.workers c.graph.cap (c.workers.map Worker.e) (c.links.map Link.e) (c.tokens.map Token.e) (c.news.map News.e)) .ret (qeQ false)):=by
 have hl:=qpf hc
 have l:=qaT (P:=prog) (c:=(qaa f64 2)) c.tokens (qbG c.graph.workers) (fun i=>qb4 c.graph.workers (c.tokens.map Token.e) i (c.graph.nodes.map Node.e) c.graph.workers c.graph.cap (c.workers.map Worker.e) (c.links.map Link.e) (c.tokens.map Token.e) (c.news.map News.e)) (X:=fun _ _=>qeQ false) qav (qaf 4)
  (fun i a ha h=>by
   have hi:=lt_of ha
   simp only[qbG,zy,zW]at h
   obtain⟨h1,h2,h3⟩:=h
   cases hg:a.going with
   | false=>
    rw[hg,zaz,zbk]at h2
    exact qCP ⟨lt1 (lt_of ha),lt0,lt2 (lt_of ha),qac Token.e ha,⟨by omega,by omega⟩,qaY _ _ _ true h1,rfl,by rw[hg];rfl,h2,qaY _ _ _ true h3,rfl,up1 hi hl,trivial⟩
   | true=>exact qCR ⟨lt1 (lt_of ha),lt0,lt2 (lt_of ha),qac Token.e ha,⟨by omega,by omega⟩,qaY _ _ _ true h1,rfl,by rw[hg];rfl,qaY _ _ _ true h3,rfl,up1 hi hl,trivial⟩)
  (fun i a ha h=>by
   have hi:=lt_of ha
   cases h1:inR a.place 0 (c.graph.workers-1) with
   | false=>exact qCM ⟨lt1 (lt_of ha),lt0,lt2 (lt_of ha),qac Token.e ha,⟨by omega,by omega⟩,qaY _ _ _ false h1,rfl,trivial⟩
   | true=>
   simp only[qbG,h1,zY,zaj]at h
   cases hg:a.going with
   | false=>
    rw[hg,zaz,zbk]at h
    cases h2:(a.place != 0) with
    | true=>exact qCN ⟨lt1 (lt_of ha),lt0,lt2 (lt_of ha),qac Token.e ha,⟨by omega,by omega⟩,qaY _ _ _ true h1,rfl,by rw[hg];rfl,h2,trivial⟩
    | false=>
     rw[h2,zaj]at h
     exact qCO ⟨lt1 (lt_of ha),lt0,lt2 (lt_of ha),qac Token.e ha,⟨by omega,by omega⟩,qaY _ _ _ true h1,rfl,by rw[hg];rfl,h2,qaY _ _ _ false (by simpa using h),rfl,trivial⟩
   | true=>
    rw[hg,zY,Bool.false_and,zaj]at h
    exact qCQ ⟨lt1 (lt_of ha),lt0,lt2 (lt_of ha),qac Token.e ha,⟨by omega,by omega⟩,qaY _ _ _ true h1,rfl,by rw[hg];rfl,qaY _ _ _ false (by simpa using h),rfl,trivial⟩)
  (qCS ⟨ge1,trivial⟩)
 rcases l with⟨_,_,h1,h2⟩ | ⟨_,_,_,_,_,_,h1,h2⟩
 ·exact .inl ⟨h1,h2⟩
 ·exact .inr ⟨h1,h2⟩
theorem qIb(c:Cluster)(hc:c.sz≤8388608)(hn:1≤c.graph.workers∧c.graph.workers≤4):
  ((c.news.any (qbH c.graph.workers))=false∧qam prog (qaa f64 3) (qc9 c.graph.workers (c.news.map News.e) 0) (.exit 6) qkB)∨
  ((c.news.any (qbH c.graph.workers))=true∧qam prog (qaa f64 3) (qc9 c.graph.workers (c.news.map News.e) 0) .ret (qgY false)):=by
 have hl:=qe1 hc
 have l:=qaT (P:=prog) (c:=(qaa f64 3)) c.news (qbH c.graph.workers) (fun i=>qc9 c.graph.workers (c.news.map News.e) i) (X:=fun _ _=>qgY false) qav (qaf 6)
  (fun i a ha h=>by
   have hi:=lt_of ha
   simp only[qbH,zy,zW]at h
   exact qCW ⟨lt1 (lt_of ha),lt0,lt2 (lt_of ha),qac News.e ha,⟨by omega,by omega⟩,qaY _ _ _ true h.1,rfl,qaY _ _ _ true h.2,rfl,up1 hi hl,trivial⟩)
  (fun i a ha h=>by
   have hi:=lt_of ha
   cases h1:inR a.dest 0 (c.graph.workers-1) with
   | false=>exact qCU ⟨lt1 (lt_of ha),lt0,lt2 (lt_of ha),qac News.e ha,⟨by omega,by omega⟩,qaY _ _ _ false h1,rfl,trivial⟩
   | true=>
    simp only[qbH,h1,zY,zaj]at h
    exact qCV ⟨lt1 (lt_of ha),lt0,lt2 (lt_of ha),qac News.e ha,⟨by omega,by omega⟩,qaY _ _ _ true h1,rfl,qaY _ _ _ false (by simpa using h),rfl,trivial⟩)
  (qCX ⟨ge1,trivial⟩)
 rcases l with⟨_,_,h1,h2⟩ | ⟨_,_,_,_,_,_,h1,h2⟩
 ·exact .inl ⟨h1,h2⟩
 ·exact .inr ⟨h1,h2⟩
theorem qip(c:Cluster)(hc:c.sz≤8388608)(hw:GotLe c):Rt 64 [.agg c.e] [.one (B (qai c))]:=by
 have hg:=qfZ c.graph (graph_sz1 hc)
 unfold qai
 cases h1:qaw c.graph with
 | false=>rw[h1]at hg;exact qCw ⟨hg,rfl,trivial⟩
 | true=>
 rw[h1]at hg
 have hn:=qcq h1
 have hq:inInt .i64 (c.graph.workers*c.graph.workers):=by
  have h3:c.graph.workers=1∨c.graph.workers=2∨c.graph.workers=3∨c.graph.workers=4:=by omega
  rcases h3 with h3 | h3 | h3 | h3<;>(rw[h3];exact⟨by decide,by decide⟩)
 cases h2:((c.workers.length:Int)==c.graph.workers) with
 | false=>exact qCx ⟨hg,rfl,by rw[zb];simpa using h2,trivial⟩
 | true=>
 have v2:((↑(c.workers.map Worker.e).length:Int) != c.graph.workers)=false:=by rw[zb];simpa using h2
 cases h3:((c.links.length:Int)==c.graph.workers*c.graph.workers) with
 | false=>exact qCy ⟨hg,rfl,v2,hq,by rw[zb];simpa using h3,trivial⟩
 | true=>
 have v3:((↑(c.links.map Link.e).length:Int) != c.graph.workers*c.graph.workers)=false:=by rw[zb];simpa using h3
 cases h4:(c.tokens.length==4) with
 | false=>exact qCz ⟨hg,rfl,v2,hq,v3,len4' h4,trivial⟩
 | true=>
 rcases qH8 c hc (eq_of_beq h2) with⟨h5,l5⟩ | ⟨h5,l5⟩
 case inr=>rw[h5];exact qCD ⟨hg,rfl,v2,hq,v3,len4 h4,l5,trivial⟩
 rw[h5]
 rcases qH9 c hc hw hn.1 with⟨h6,l6⟩ | ⟨h6,l6⟩
 case inr=>rw[h6];exact qCL ⟨hg,rfl,v2,hq,v3,len4 h4,l5,l6,trivial⟩
 rw[h6]
 rcases qIa c hc hn with⟨h7,l7⟩ | ⟨h7,l7⟩
 case inr=>rw[h7];exact qCT ⟨hg,rfl,v2,hq,v3,len4 h4,l5,l6,l7,trivial⟩
 rw[h7]
 rcases qIb c hc hn with⟨h8,l8⟩ | ⟨h8,l8⟩
 ·rw[h8];exact qCZ ⟨hg,rfl,v2,hq,v3,len4 h4,l5,l6,l7,l8,trivial⟩
 ·rw[h8];exact qCY ⟨hg,rfl,v2,hq,v3,len4 h4,l5,l6,l7,l8,trivial⟩
end Go.Proofs.YtdanpadojemjeaaGreat
