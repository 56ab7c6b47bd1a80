/- What every step leaves: the graph, and what the links have received; a run of picks. -/
import Derived.Test.YtenekpkjlgddnaaGreatP28
set_option linter.unusedVariables false
set_option linter.unusedSimpArgs false
namespace Go.Proofs.YtenekpkjlgddnaaGreat
open Go.Sx Go.RowKit
theorem qwa(l:Link)(r:Record)(h:l.got≤9223372036854775807):(qaP l r).1.got≤9223372036854775807:=by
 unfold qaP
 split<;>exact h
theorem qwb(l:Link)(h:l.got≤9223372036854775807):(qbe l).1.got≤9223372036854775807:=by
 unfold qbe
 split<;>exact h
theorem qwc(l:Link)(h:l.got≤9223372036854775807):(qaD l).1.got≤9223372036854775807:=by
 unfold qaD
 split
 ·rename_i hk
  obtain⟨_,_,_,_,k5,_,k7,_⟩:=qf8.1 hk
  simp only[inR,zi]at k5
  split
  ·exact h
  ·dsimp only;omega
 ·exact h
theorem GotLe.setL{c:Cluster}{i:Int}{l:Link}(h:GotLe c)(hl:l.got≤9223372036854775807):GotLe (setL c i l):=by
 intro x hx
 rcases zbf hx with h1 | rfl
 ·exact h x h1
 ·exact hl
theorem GotLe.at{c:Cluster}{i:Int}{x:Link}(h:lAt c i=some x)(hw:GotLe c):x.got≤9223372036854775807:=hw _ (qaq (qeg h).2.2)
structure Kept' (c d:Cluster):Prop where
 graph:d.graph=c.graph
 got:GotLe c→GotLe d
 wlen:d.workers.length=c.workers.length
theorem Kept'.rfl{c:Cluster}:Kept' c c:=⟨Eq.refl _,id,Eq.refl _⟩
theorem Kept'.links{c d:Cluster}(h1:d.graph=c.graph)(h2:d.links=c.links)(h3:d.workers.length=c.workers.length:=by simp[setW,setN,setT,setL,told,qcd]):Kept' c d:=⟨h1,fun h x hx=>h x (h2▸hx),h3⟩
theorem qwd(c:Cluster)(e:Int)(t:Token)(x:Worker):Kept' c (qaK c e t x).1:=by
 unfold qaK
 split
 ·split
  ·exact .links rfl rfl
  ·split
   ·split
    ·exact .links rfl rfl
    ·exact .rfl
   ·split
    ·exact .links rfl rfl
    ·exact .links rfl rfl
 ·exact .rfl
theorem qlA(c:Cluster)(p:Pick):Kept' c (stepPick c p).1:=by
 unfold stepPick
 split
 ·unfold qbO
  split
  ·split
   ·exact .links rfl rfl
   ·exact .rfl
  ·exact .rfl
 split
 ·unfold qbP
  split
  ·split
   ·exact .links rfl rfl
   ·exact .rfl
  ·exact .rfl
 split
 ·unfold qbs
  split
  ·split
   ·split
    ·unfold qc8
     split
     ·exact .links rfl rfl
     ·split
      ·rename_i l hl
       split
       ·exact⟨rfl,fun h=>GotLe.setL h (qwa l _ (GotLe.at hl h)),by simp[setW,setL]⟩
       ·exact .rfl
      ·exact .rfl
    ·exact .rfl
   ·exact .rfl
  ·exact .rfl
 split
 ·unfold qbQ
  split
  ·split
   ·rename_i l x hl hx
    split
    ·exact⟨rfl,fun h=>GotLe.setL h (qwc l (GotLe.at hl h)),by simp[setW,setL]⟩
    ·exact .rfl
   ·exact .rfl
  ·exact .rfl
 split
 ·unfold qbR
  split
  ·split
   ·rename_i l hl
    exact⟨rfl,fun h=>GotLe.setL h (qwb l (GotLe.at hl h)),by simp[setW,setL]⟩
   ·exact .rfl
  ·exact .rfl
 split
 ·unfold qbt
  split
  ·split
   ·split
    ·exact .rfl
    ·split
     ·exact qwd c _ _ _
     ·exact .rfl
   ·exact .rfl
  ·exact .rfl
 split
 ·unfold qbS
  split
  ·split
   ·split
    ·exact .links rfl rfl
    ·exact .rfl
   ·exact .rfl
  ·exact .rfl
 ·exact .rfl
theorem qlB{α:Type}{f:α→List D}{xs:List α}{a:α}:(xs++[a]).map f=xs.map f++[f a]:=by simp
def qal:Cluster→List Pick→Cluster×List Bool
 | c,[]=>(c,[])
 | c,p::l=>((qal (stepPick c p).1 l).1,(stepPick c p).2::(qal (stepPick c p).1 l).2)
theorem qwe(c:Cluster):qal c []=(c,[]):=rfl
theorem qlC(p:Pick):∀(l:List Pick) (c:Cluster),qal c (l++[p])=((stepPick (qal c l).1 p).1,(qal c l).2++[(stepPick (qal c l).1 p).2])
 | [],c=>rfl
 | q::l,c=>by
  have ih:=qlC p l (stepPick c q).1
  simp only[List.cons_append,qal,ih]
theorem qwf{l:List Pick}{i:Nat}{p:Pick}(c:Cluster)(h:l[i]?=some p):qal c (l.take (i+1))=((stepPick (qal c (l.take i)).1 p).1,(qal c (l.take i)).2++[(stepPick (qal c (l.take i)).1 p).2]):=by
 rw[zbe,h,zcp,qlC]
theorem qlD:∀(l:List Pick) (c:Cluster),(qal c l).1.sz≤c.sz+4*l.length
 | [],c=>zO _
 | q::l,c=>by
  have:=qlD l (stepPick c q).1
  have:=qv9 c q
  simp only[qal,zq]
  omega
theorem Kept'.trans{c d e:Cluster}(h:Kept' c d)(k:Kept' d e):Kept' c e:=⟨k.graph.trans h.graph,fun x=>k.got (h.got x),k.wlen.trans h.wlen⟩
theorem qik:∀(l:List Pick) (c:Cluster),Kept' c (qal c l).1
 | [],_=>.rfl
 | q::l,c=>(qlA c q).trans (qik l _)
theorem qlE{α:Type}(i:Nat)(l:List α):(l.take i).length≤l.length:=by rw[zay];omega
theorem qwg(c:Cluster)(l:List Pick)(i:Nat):(qal c (l.take i)).1.sz≤c.sz+4*l.length:=by
 have:=qlD (l.take i) c
 have:=qlE i l
 omega
end Go.Proofs.YtenekpkjlgddnaaGreat
