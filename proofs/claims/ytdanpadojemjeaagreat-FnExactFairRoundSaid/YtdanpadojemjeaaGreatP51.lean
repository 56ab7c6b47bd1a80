/- What every step leaves: the graph, and what the links have received; a run of picks. -/
import Derived.Test.YtdanpadojemjeaaGreatP28
import Derived.Test.YtdanpadojemjeaaGreatP46
import Derived.Test.YtdanpadojemjeaaGreatP7
import Derived.Test.YtdanpadojemjeaaGreatGX
import Derived.Test.YtdanpadojemjeaaGreatGW
set_option linter.unusedVariables false
set_option linter.unusedSimpArgs false
namespace Go.Proofs.YtdanpadojemjeaaGreat
open Go.Sx Go.RowKit Go.Proofs.Tryz
theorem qOd(l:Link)(r:Record)(h:l.got≤9223372036854775807):(qaG l r).1.got≤9223372036854775807:=by
 unfold qaG
 split<;>exact h
theorem qOe(l:Link)(h:l.got≤9223372036854775807):(qbb l).1.got≤9223372036854775807:=by
 unfold qbb
 split<;>exact h
theorem qOf(l:Link)(h:l.got≤9223372036854775807):(qay l).1.got≤9223372036854775807:=by
 unfold qay
 split
 ·rename_i hk
  obtain⟨_,_,_,_,k5,_,k7,_⟩:=qei.1 hk
  simp only[inR,zi]at k5
  split
  ·exact h
  ·dsimp only;omega
 ·exact h
theorem GotLe.setL{c:Cluster}{i:Int}{l:Link}(h:GotLe c)(hl:l.got≤9223372036854775807):GotLe (setL c i l):=by
 intro x hx
 rcases zbf hx with h1 | rfl
 ·exact h x h1
 ·exact hl
theorem GotLe.at{c:Cluster}{i:Int}{x:Link}(h:lAt c i=some x)(hw:GotLe c):x.got≤9223372036854775807:=hw _ (qas (qed h).2.2)
structure Kept' (c d:Cluster):Prop where
 graph:d.graph=c.graph
 got:GotLe c→GotLe d
 wlen:d.workers.length=c.workers.length
theorem Kept'.rfl{c:Cluster}:Kept' c c:=⟨Eq.refl _,id,Eq.refl _⟩
theorem Kept'.links{c d:Cluster}(h1:d.graph=c.graph)(h2:d.links=c.links)(h3:d.workers.length=c.workers.length:=by simp[setW,setN,setT,setL,told,qb0]):Kept' c d:=⟨h1,fun h x hx=>h x (h2▸hx),h3⟩
theorem qOg(c:Cluster)(e:Int)(t:Token)(x:Worker):Kept' c (qaJ c e t x).1:=by
 unfold qaJ
 split
 ·split
  ·exact .links rfl rfl
  ·split
   ·split
    ·exact .links rfl rfl
    ·exact .rfl
   ·split
    ·exact .links rfl rfl
    ·exact .links rfl rfl
 ·exact .rfl
theorem qOh(c:Cluster)(p:Pick):Kept' c (stepPick c p).1:=by
 unfold stepPick
 split
 ·unfold qbn
  split
  ·split
   ·exact .links rfl rfl
   ·exact .rfl
  ·exact .rfl
 split
 ·unfold qbo
  split
  ·split
   ·exact .links rfl rfl
   ·exact .rfl
  ·exact .rfl
 split
 ·unfold qbp
  split
  ·split
   ·split
    ·unfold qfn
     split
     ·exact .links rfl rfl
     ·split
      ·rename_i l hl
       split
       ·exact⟨rfl,fun h=>GotLe.setL h (qOd l _ (GotLe.at hl h)),by simp[setW,setL]⟩
       ·exact .rfl
      ·exact .rfl
    ·exact .rfl
   ·exact .rfl
  ·exact .rfl
 split
 ·unfold qby
  split
  ·split
   ·rename_i l x hl hx
    split
    ·exact⟨rfl,fun h=>GotLe.setL h (qOf l (GotLe.at hl h)),by simp[setW,setL]⟩
    ·exact .rfl
   ·exact .rfl
  ·exact .rfl
 split
 ·unfold qbq
  split
  ·split
   ·rename_i l hl
    exact⟨rfl,fun h=>GotLe.setL h (qOe l (GotLe.at hl h)),by simp[setW,setL]⟩
   ·exact .rfl
  ·exact .rfl
 split
 ·unfold qbj
  split
  ·split
   ·split
    ·exact .rfl
    ·split
     ·exact qOg c _ _ _
     ·exact .rfl
   ·exact .rfl
  ·exact .rfl
 split
 ·unfold qbz
  split
  ·split
   ·split
    ·exact .links rfl rfl
    ·exact .rfl
   ·exact .rfl
  ·exact .rfl
 ·exact .rfl
theorem qrO{α:Type}{f:α→List D}{xs:List α}{a:α}:(xs++[a]).map f=xs.map f++[f a]:=by simp
def qao:Cluster→List Pick→Cluster×List Bool
 | c,[]=>(c,[])
 | c,p::l=>((qao (stepPick c p).1 l).1,(stepPick c p).2::(qao (stepPick c p).1 l).2)
theorem qrP(p:Pick):∀(l:List Pick) (c:Cluster),qao c (l++[p])=((stepPick (qao c l).1 p).1,(qao c l).2++[(stepPick (qao c l).1 p).2])
 | [],c=>rfl
 | q::l,c=>by
  have ih:=qrP p l (stepPick c q).1
  simp only[List.cons_append,qao,ih]
theorem ql9{l:List Pick}{i:Nat}{p:Pick}(c:Cluster)(h:l[i]?=some p):qao c (l.take (i+1))=((stepPick (qao c (l.take i)).1 p).1,(qao c (l.take i)).2++[(stepPick (qao c (l.take i)).1 p).2]):=by
 rw[zbe,h,zcp,qrP]
theorem qgC:∀(l:List Pick) (c:Cluster),(qao c l).2.length=l.length
 | [],_=>rfl
 | q::l,c=>by simp only[qao,zq,qgC l]
theorem qjp:∀(l:List Pick) (c:Cluster),(qao c l).1.sz≤c.sz+4*l.length
 | [],c=>zO _
 | q::l,c=>by
  have:=qjp l (stepPick c q).1
  have:=qq1 c q
  simp only[qao,zq]
  omega
theorem Kept'.trans{c d e:Cluster}(h:Kept' c d)(k:Kept' d e):Kept' c e:=⟨k.graph.trans h.graph,fun x=>k.got (h.got x),k.wlen.trans h.wlen⟩
theorem qma:∀(l:List Pick) (c:Cluster),Kept' c (qao c l).1
 | [],_=>.rfl
 | q::l,c=>(qOh c q).trans (qma l _)
theorem qmb{α:Type}(i:Nat)(l:List α):(l.take i).length≤l.length:=by rw[zay];omega
theorem qmc(c:Cluster)(l:List Pick)(i:Nat):(qao c (l.take i)).1.sz≤c.sz+4*l.length:=by
 have:=qjp (l.take i) c
 have:=qmb i l
 omega
def didOf(l:List Bool):Nat:=(l.filter id).length
theorem qrQ(l:List Bool):didOf l≤l.length:=zat _ _
theorem qrR(l:List Bool)(b:Bool):didOf (l++[b])=didOf l+(if b then 1 else 0):=by
 cases b<;>simp[didOf]
end Go.Proofs.YtdanpadojemjeaaGreat
namespace Go.Proofs.YtdanpadojemjeaaGreat
open Go.Sx Go.RowKit Go.Proofs.Tryz
theorem qrX(c:Cluster)(l:List Pick)(hc:c.sz+4*l.length≤8388608)(hw:GotLe c):Rt 28 [.agg c.e,.one (.sl 3 (l.map Pick.e))] [.agg (qao c l).1.e,.one (.sl 1 ((qao c l).2.map eB))]:=by
 have hl:l.length≤8388608:=by omega
 have k:=qaq (P:=prog) (c:=(qaa f28 0)) (qaf 0) l.length (fun i:Nat=>qhR (l.map Pick.e) i ((qao c (l.take i)).2.map eB) ((qao c (l.take i)).1.graph.nodes.map Node.e) (qao c (l.take i)).1.graph.workers (qao c (l.take i)).1.graph.cap ((qao c (l.take i)).1.workers.map Worker.e) ((qao c (l.take i)).1.links.map Link.e) ((qao c (l.take i)).1.tokens.map Token.e) ((qao c (l.take i)).1.news.map News.e) 0 0) (fun i hi=>by
  obtain⟨p,hp⟩:=qag hi
  have hn:=qgC (l.take i) c
  have hs:=qmc c l i
  have hg:=(qma (l.take i) c).got hw
  rw[ql9 c hp]
  dsimp only
  rw[qrO]
  generalize qao c (l.take i)=o at*
  exact qMc ⟨lt1 hi,lt0,lt2 hi,qac Pick.e hp,ql7 o.1 p (by omega) hg,by simp[hn];omega,by simp[hn];omega,flatB [(stepPick o.1 p).2],up1 hi hl,trivial⟩) (qMd ⟨ge1,trivial⟩)
 rw[zC]at k
 exact qMe ⟨qc0 c (by omega),k,trivial⟩
def qbk(c:Cluster):Cluster×Nat:=((qao c (qbv c)).1,didOf (qao c (qbv c)).2)
theorem qjq(c:Cluster):(qbk c).1.sz≤c.sz+400:=by
 have:=qjp (qbv c) c
 have:=qgD c
 unfold qbk
 dsimp only
 omega
theorem qrZ(c:Cluster)(l:List Pick)(hc:c.sz+4*l.length≤8388608):RetR prog 94 [.ref (runE c) (runE (qao c l).1),.ro (.one (.sl 3 (l.map Pick.e)))] (.vals [.one (I (didOf (qao c l).2))]):=by
 have hl:l.length≤8388608:=by omega
 have k:=qaq (P:=prog) (c:=(qaa f94 0)) (qaf 0) l.length (fun i:Nat=>qfr (l.map Pick.e) i (didOf (qao c (l.take i)).2) ((qao c (l.take i)).1.graph.nodes.map Node.e) (qao c (l.take i)).1.graph.workers (qao c (l.take i)).1.graph.cap ((qao c (l.take i)).1.workers.map Worker.e) ((qao c (l.take i)).1.links.map Link.e) ((qao c (l.take i)).1.tokens.map Token.e) ((qao c (l.take i)).1.news.map News.e) (qah (qao c (l.take i)).1)) (fun i hi=>by
  obtain⟨p,hp⟩:=qag hi
  have hn:=qgC (l.take i) c
  have hd:=qrQ (qao c (l.take i)).2
  have hs:=qmc c l i
  have ht:=qmb i l
  rw[ql9 c hp]
  dsimp only
  rw[qrR]
  generalize qao c (l.take i)=o at*
  have st:=ql6 o.1 p (by omega)
  cases hb:(stepPick o.1 p).2 with
  | true=>
   rw[hb]at st
   exact qNK ⟨lt1 hi,lt0,lt2 hi,qac Pick.e hp,st,rfl,⟨by omega,by omega⟩,up1 hi hl,trivial⟩
  | false=>
   rw[hb]at st
   exact qNL ⟨lt1 hi,lt0,lt2 hi,qac Pick.e hp,st,rfl,up1 hi hl,trivial⟩) (qNM ⟨ge1,trivial⟩)
 rw[zC]at k
 exact qNN ⟨k,trivial⟩
theorem qOl(c:Cluster)(hc:c.sz+400≤8388608)(hw:GotLe c):Rt 34 [.agg c.e] [.agg (qbk c).1.e,.one (I (qbk c).2)]:=
 qMX ⟨qhQ c (by omega) hw,qhW c,qrZ c (qbv c) (by have:=qgD c;omega),trivial⟩
theorem qr0(c:Cluster)(hc:c.sz+400≤8388608)(hw:GotLe c):Rt 35 [.agg c.e] [.agg (qbk c).1.e,.one (I (qbk c).2)]:=by
 have ha:=qgD c
 have run:=qrX c (qbv c) (by omega) hw
 have hn:=qgC (qbv c) c
 unfold qbk
 dsimp only
 generalize qao c (qbv c)=o at*
 have k:=qaq (P:=prog) (c:=(qaa f35 0)) (qaf 0) o.2.length (fun i:Nat=>qfp (o.1.graph.nodes.map Node.e) o.1.graph.workers o.1.graph.cap (o.1.workers.map Worker.e) (o.1.links.map Link.e) (o.1.tokens.map Token.e) (o.1.news.map News.e) (o.2.map eB) i (didOf (o.2.take i))) (fun i hi=>by
  obtain⟨b,hb⟩:=qag hi
  have hd:=qrQ (o.2.take i)
  have ht:=qmb i o.2
  rw[zbe,hb,zcp,qrR]
  cases b with
  | true=>exact qLQ ⟨lt1 hi,lt0,lt2 hi,qac eB hb,rfl,⟨by omega,by omega⟩,up1 hi (by omega),trivial⟩
  | false=>exact qLR ⟨lt1 hi,lt0,lt2 hi,qac eB hb,rfl,up1 hi (by omega),trivial⟩) (qLS ⟨ge1,trivial⟩)
 rw[zC]at k
 exact qLT ⟨qrW c,run,k,trivial⟩
end Go.Proofs.YtdanpadojemjeaaGreat
