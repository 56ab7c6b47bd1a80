/- What every step leaves: the graph, and what the links have received; a run of picks. -/
import Derived.Test.YtdanpadojemjeaaGreatP28
import Derived.Test.YtdanpadojemjeaaGreatP46
import Derived.Test.YtdanpadojemjeaaGreatP7
import Derived.Test.YtdanpadojemjeaaGreatGX
import Derived.Test.YtdanpadojemjeaaGreatGW
set_option linter.unusedVariables false
set_option linter.unusedSimpArgs false
namespace Go.Proofs.YtdanpadojemjeaaGreat
open Go.Sx Go.RowKit Go.Proofs.Tryz
theorem qOd(l:Link)(r:Record)(h:l.got≤9223372036854775807):(qaG l r).1.got≤9223372036854775807:=by
 unfold qaG
 split<;>exact h
theorem qOe(l:Link)(h:l.got≤9223372036854775807):(qbb l).1.got≤9223372036854775807:=by
 unfold qbb
 split<;>exact h
theorem qOf(l:Link)(h:l.got≤9223372036854775807):(qay l).1.got≤9223372036854775807:=by
 unfold qay
 split
 ·rename_i hk
  obtain⟨_,_,_,_,k5,_,k7,_⟩:=qei.1 hk
  simp only[inR,zi]at k5
  split
  ·exact h
  ·dsimp only;omega
 ·exact h
theorem GotLe.setL{c:Cluster}{i:Int}{l:Link}(h:GotLe c)(hl:l.got≤9223372036854775807):GotLe (setL c i l):=by
 intro x hx
 rcases zbf hx with h1 | rfl
 ·exact h x h1
 ·exact hl
theorem GotLe.at{c:Cluster}{i:Int}{x:Link}(h:lAt c i=some x)(hw:GotLe c):x.got≤9223372036854775807:=hw _ (qas (qed h).2.2)
structure Kept' (c d:Cluster):Prop where
 graph:d.graph=c.graph
 got:GotLe c→GotLe d
 wlen:d.workers.length=c.workers.length
theorem Kept'.rfl{c:Cluster}:Kept' c c:=⟨Eq.refl _,id,Eq.refl _⟩
theorem Kept'.links{c d:Cluster}(h1:d.graph=c.graph)(h2:d.links=c.links)(h3:d.workers.length=c.workers.length:=by simp[setW,setN,setT,setL,told,qb0]):Kept' c d:=⟨h1,fun h x hx=>h x (h2▸hx),h3⟩
theorem qOg(c:Cluster)(e:Int)(t:Token)(x:Worker):Kept' c (qaJ c e t x).1:=by
 unfold qaJ
 split
 ·split
  ·exact .links rfl rfl
  ·split
   ·split
    ·exact .links rfl rfl
    ·exact .rfl
   ·split
    ·exact .links rfl rfl
    ·exact .links rfl rfl
 ·exact .rfl
theorem qOh(c:Cluster)(p:Pick):Kept' c (stepPick c p).1:=by
 unfold stepPick
 split
 ·unfold qbn
  split
  ·split
   ·exact .links rfl rfl
   ·exact .rfl
  ·exact .rfl
 split
 ·unfold qbo
  split
  ·split
   ·exact .links rfl rfl
   ·exact .rfl
  ·exact .rfl
 split
 ·unfold qbp
  split
  ·split
   ·split
    ·unfold qfn
     split
     ·exact .links rfl rfl
     ·split
      ·rename_i l hl
       split
       ·exact⟨rfl,fun h=>GotLe.setL h (qOd l _ (GotLe.at hl h)),by simp[setW,setL]⟩
       ·exact .rfl
      ·exact .rfl
    ·exact .rfl
   ·exact .rfl
  ·exact .rfl
 split
 ·unfold qby
  split
  ·split
   ·rename_i l x hl hx
    split
    ·exact⟨rfl,fun h=>GotLe.setL h (qOf l (GotLe.at hl h)),by simp[setW,setL]⟩
    ·exact .rfl
   ·exact .rfl
  ·exact .rfl
 split
 ·unfold qbq
  split
  ·split
   ·rename_i l hl
    exact⟨rfl,fun h=>GotLe.setL h (qOe l (GotLe.at hl h)),by simp[setW,setL]⟩
   ·exact .rfl
  ·exact .rfl
 split
 ·unfold qbj
  split
  ·split
   ·split
    ·exact .rfl
    ·split
     ·exact qOg c _ _ _
     ·exact .rfl
   ·exact .rfl
  ·exact .rfl
 split
 ·unfold qbz
  split
  ·split
   ·split
    ·exact .links rfl rfl
    ·exact .rfl
   ·exact .rfl
  ·exact .rfl
 ·exact .rfl
theorem qrO{α:Type}{f:α→List D}{xs:List α}{a:α}:(xs++[a]).map f=xs.map f++[f a]:=by simp
def qao:Cluster→List Pick→Cluster×List Bool
 | c,[]=>(c,[])
 | c,p::l=>((qao (stepPick c p).1 l).1,(stepPick c p).2::(qao (stepPick c p).1 l).2)
theorem qrP(p:Pick):∀(l:List Pick) (c:Cluster),qao c (l++[p])=((stepPick (qao c l).1 p).1,(qao c l).2++[(stepPick (qao c l).1 p).2])
 | [],c=>rfl
 | q::l,c=>by
  have ih:=qrP p l (stepPick c q).1
  simp only[List.cons_append,qao,ih]
theorem ql9{l:List Pick}{i:Nat}{p:Pick}(c:Cluster)(h:l[i]?=some p):qao c (l.take (i+1))=((stepPick (qao c (l.take i)).1 p).1,(qao c (l.take i)).2++[(stepPick (qao c (l.take i)).1 p).2]):=by
 rw[zbe,h,zcp,qrP]
theorem qgC:∀(l:List Pick) (c:Cluster),(qao c l).2.length=l.length
 | [],_=>rfl
 | q::l,c=>by simp only[qao,zq,qgC l]
theorem qjp:∀(l:List Pick) (c:Cluster),(qao c l).1.sz≤c.sz+4*l.length
 | [],c=>zO _
 | q::l,c=>by
  have:=qjp l (stepPick c q).1
  have:=qq1 c q
  simp only[qao,zq]
  omega
theorem Kept'.trans{c d e:Cluster}(h:Kept' c d)(k:Kept' d e):Kept' c e:=⟨k.graph.trans h.graph,fun x=>k.got (h.got x),k.wlen.trans h.wlen⟩
theorem qma:∀(l:List Pick) (c:Cluster),Kept' c (qao c l).1
 | [],_=>.rfl
 | q::l,c=>(qOh c q).trans (qma l _)
theorem qmb{α:Type}(i:Nat)(l:List α):(l.take i).length≤l.length:=by rw[zay];omega
theorem qmc(c:Cluster)(l:List Pick)(i:Nat):(qao c (l.take i)).1.sz≤c.sz+4*l.length:=by
 have:=qjp (l.take i) c
 have:=qmb i l
 omega
end Go.Proofs.YtdanpadojemjeaaGreat
namespace Go.Proofs.YtdanpadojemjeaaGreat
open Go.Sx Go.RowKit Go.Proofs.Tryz
theorem qOi(c:Cluster)(l:List Pick)(hc:c.sz+4*l.length≤8388608):
  qan prog (qaa f26 0) (qgv (l.map Pick.e) 0 [] (c.graph.nodes.map Node.e) c.graph.workers c.graph.cap (c.workers.map Worker.e) (c.links.map Link.e) (c.tokens.map Token.e) (c.news.map News.e) (qah c) 0 0) (.exit 0)
   (qlX ((qao c l).2.map eB) ((qao c l).1.graph.nodes.map Node.e) (qao c l).1.graph.workers (qao c l).1.graph.cap ((qao c l).1.workers.map Worker.e) ((qao c l).1.links.map Link.e) ((qao c l).1.tokens.map Token.e) ((qao c l).1.news.map News.e) (qah (qao c l).1) 0 0):=by
 have hl:l.length≤8388608:=by omega
 have k:=qaq (P:=prog) (c:=(qaa f26 0)) (qaf 0) l.length (fun i:Nat=>qgv (l.map Pick.e) i ((qao c (l.take i)).2.map eB) ((qao c (l.take i)).1.graph.nodes.map Node.e) (qao c (l.take i)).1.graph.workers (qao c (l.take i)).1.graph.cap ((qao c (l.take i)).1.workers.map Worker.e) ((qao c (l.take i)).1.links.map Link.e) ((qao c (l.take i)).1.tokens.map Token.e) ((qao c (l.take i)).1.news.map News.e) (qah (qao c (l.take i)).1) 0 0) (fun i hi=>by
  obtain⟨p,hp⟩:=qag hi
  have hn:=qgC (l.take i) c
  have hs:=qmc c l i
  rw[ql9 c hp]
  dsimp only
  rw[qrO]
  generalize qao c (l.take i)=o at*
  exact qM3 ⟨lt1 hi,lt0,lt2 hi,qac Pick.e hp,ql6 o.1 p (by omega),by simp[hn];omega,by simp[hn];omega,flatB [(stepPick o.1 p).2],up1 hi hl,trivial⟩) (qM4 ⟨ge1,trivial⟩)
 rw[zC]at k
 exact k
theorem qOj(c:Cluster)(l:List Pick)(hc:c.sz+4*l.length≤8388608)(hw:GotLe c):Rt 26 [.agg c.e,.one (.sl 3 (l.map Pick.e))] [.agg (qao c l).1.e,.one (.sl 1 ((qao c l).2.map eB))]:=
 qM5 ⟨qhQ c (by omega) hw,qOi c l hc,trivial⟩
theorem qrX(c:Cluster)(l:List Pick)(hc:c.sz+4*l.length≤8388608)(hw:GotLe c):Rt 28 [.agg c.e,.one (.sl 3 (l.map Pick.e))] [.agg (qao c l).1.e,.one (.sl 1 ((qao c l).2.map eB))]:=by
 have hl:l.length≤8388608:=by omega
 have k:=qaq (P:=prog) (c:=(qaa f28 0)) (qaf 0) l.length (fun i:Nat=>qhR (l.map Pick.e) i ((qao c (l.take i)).2.map eB) ((qao c (l.take i)).1.graph.nodes.map Node.e) (qao c (l.take i)).1.graph.workers (qao c (l.take i)).1.graph.cap ((qao c (l.take i)).1.workers.map Worker.e) ((qao c (l.take i)).1.links.map Link.e) ((qao c (l.take i)).1.tokens.map Token.e) ((qao c (l.take i)).1.news.map News.e) 0 0) (fun i hi=>by
  obtain⟨p,hp⟩:=qag hi
  have hn:=qgC (l.take i) c
  have hs:=qmc c l i
  have hg:=(qma (l.take i) c).got hw
  rw[ql9 c hp]
  dsimp only
  rw[qrO]
  generalize qao c (l.take i)=o at*
  exact qMc ⟨lt1 hi,lt0,lt2 hi,qac Pick.e hp,ql7 o.1 p (by omega) hg,by simp[hn];omega,by simp[hn];omega,flatB [(stepPick o.1 p).2],up1 hi hl,trivial⟩) (qMd ⟨ge1,trivial⟩)
 rw[zC]at k
 exact qMe ⟨qc0 c (by omega),k,trivial⟩
end Go.Proofs.YtdanpadojemjeaaGreat
