/- What a step does to the workers: records of ended epochs become more, inputs become fewer. -/
import Derived.Test.YtenekpkjlgddnaaGreatP51
set_option linter.unusedVariables false
set_option linter.unusedSimpArgs false
namespace Go.Proofs.YtenekpkjlgddnaaGreat
open Go.Sx Go.RowKit
def Grows(x y:Worker):Prop:=x.dones.length≤y.dones.length∧y.inputs.length≤x.inputs.length
def qbl(c d:Cluster):Prop:=∀(i:Nat) (x:Worker),c.workers[i]?=some x→∃y,d.workers[i]?=some y∧Grows x y
theorem Grows.rfl{x:Worker}:Grows x x:=⟨zO _,zO _⟩
theorem Grows.trans{x y z:Worker}(h:Grows x y)(k:Grows y z):Grows x z:=⟨zce h.1 k.1,zce k.2 h.2⟩
theorem Grows.same{x y:Worker}(h1:y.dones=x.dones)(h2:y.inputs=x.inputs):Grows x y:=by
 unfold Grows;rw[h1,h2];exact⟨zO _,zO _⟩
theorem qbl.rfl{c:Cluster}:qbl c c:=fun _ x h=>⟨x,h,.rfl⟩
theorem qbl.trans{c d e:Cluster}(h:qbl c d)(k:qbl d e):qbl c e:=by
 unfold qbl at*
 intro i x hx
 obtain⟨y,hy,h1⟩:=h i x hx
 obtain⟨z,hz,h2⟩:=k i y hy
 exact⟨z,hz,h1.trans h2⟩
theorem qbl.of{c d:Cluster}(h:d.workers=c.workers):qbl c d:=by
 unfold qbl
 intro i x hx
 exact⟨x,by rw[h];exact hx,.rfl⟩
theorem qbl.setW{c d:Cluster}{i:Int}{x y:Worker}(hx:wAt c i=some x)(h:Grows x y)(hd:d.workers=c.workers):qbl c (Go.Proofs.YtenekpkjlgddnaaGreat.setW d i y):=by
 unfold qbl
 intro j z hz
 obtain⟨_,h2,h3⟩:=qcG hx
 unfold Go.Proofs.YtenekpkjlgddnaaGreat.setW
 rw[hd]
 by_cases e:i.toNat=j
 ·subst e
  rw[h3]at hz
  cases hz
  exact⟨y,List.getElem?_set_self h2,h⟩
 ·exact⟨z,by rw[List.getElem?_set_ne e];exact hz,.rfl⟩
theorem qxF(g:Graph)(w:Worker):Grows w (qaY g w).1:=by
 unfold qaY
 split
 ·split
  ·exact .same rfl rfl
  ·exact .rfl
 ·exact .rfl
theorem qxG(g:Graph)(w:Worker):Grows w (qaZ g w).1:=by
 unfold qaZ
 split
 ·split
  ·rename_i h;exact⟨zO _,by rw[h];simp⟩
  ·exact .rfl
 ·exact .rfl
theorem qlS(w:Worker)(e:Int)(b:Bool):Grows w (told w e b):=⟨by simp[told],zO _⟩
theorem qxH(w:Worker)(n:News):Grows w (hears w n):=by
 unfold hears
 split
 ·exact .rfl
 ·exact qlS w _ _
theorem qxI{c:Cluster}{e:Int}{t:Token}{x:Worker}(hx:wAt c t.place=some x):qbl c (qaK c e t x).1:=by
 unfold qaK
 split
 ·split
  ·exact .setW hx (.same rfl rfl) rfl
  ·split
   ·split
    ·exact .setW hx (.same rfl rfl) rfl
    ·exact .rfl
   ·split
    ·rename_i hp _
     have h0:=(qcG hx).1
     have e0:t.place=0:=by omega
     rw[e0]at hx
     exact .trans (.setW hx (qlS x e _) rfl) (.of rfl)
    ·exact .of rfl
 ·exact .rfl
theorem qxJ(c:Cluster)(p:Pick):qbl c (stepPick c p).1:=by
 unfold stepPick
 split
 ·unfold qbO
  split
  ·split
   ·rename_i x hx;exact .setW hx (qxF _ x) rfl
   ·exact .rfl
  ·exact .rfl
 split
 ·unfold qbP
  split
  ·split
   ·rename_i x hx;exact .setW hx (qxG _ x) rfl
   ·exact .rfl
  ·exact .rfl
 split
 ·unfold qbs
  split
  ·split
   ·rename_i x hx
    split
    ·unfold qc8
     split
     ·exact .setW hx (.same rfl rfl) rfl
     ·split
      ·split
       ·exact .setW hx (.same rfl rfl) rfl
       ·exact .rfl
      ·exact .rfl
    ·exact .rfl
   ·exact .rfl
  ·exact .rfl
 split
 ·unfold qbQ
  split
  ·split
   ·rename_i l x hl hx
    split
    ·exact .setW hx (.same rfl rfl) rfl
    ·exact .rfl
   ·exact .rfl
  ·exact .rfl
 split
 ·unfold qbR
  split
  ·split
   ·exact .of rfl
   ·exact .rfl
  ·exact .rfl
 split
 ·unfold qbt
  split
  ·split
   ·split
    ·exact .rfl
    ·split
     ·rename_i x hx;exact qxI hx
     ·exact .rfl
   ·exact .rfl
  ·exact .rfl
 split
 ·unfold qbS
  split
  ·split
   ·split
    ·rename_i n x hn hx;exact .trans (.setW hx (qxH x n) rfl) (.of rfl)
    ·exact .rfl
   ·exact .rfl
  ·exact .rfl
 ·exact .rfl
end Go.Proofs.YtenekpkjlgddnaaGreat
