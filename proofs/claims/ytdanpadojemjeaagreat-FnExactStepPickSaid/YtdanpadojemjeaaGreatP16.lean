/- GraphOk, Changed, LeastOf: what program and reference compute (cases put together by gentree.py). -/
import Derived.Test.YtdanpadojemjeaaGreatP15
import Derived.Test.YtdanpadojemjeaaGreatC0
import Derived.Test.YtdanpadojemjeaaGreatGS
set_option linter.unusedVariables false
set_option linter.unusedSimpArgs false
namespace Go.Proofs.YtdanpadojemjeaaGreat
open Go.Sx Go.RowKit Go.Proofs.Tryz
def qbc(g:Graph)(k:Int):Int:=match g.nodes[k.toNat]? with | some y=>y.kind | none=>0
def qaN(g:Graph)(i:Nat)(x:Node)(k:Int):Bool:=
 decide ((g.nodes.length:Int)≤k)||(if x.kind=7 then decide ((i:Int)<k)||(qbc g k != 5&&qbc g k != 6) else decide (k≤i))
def qbw(g:Graph)(i:Nat)(x:Node):Bool:=!qab x||(decide (x.kind=1) != decide ((i:Int)=0))||x.outs.any (qaN g i x)
def qaw(g:Graph):Bool:=inR g.nodes.length 1 8&&inR g.workers 1 4&&inR g.cap 1 4&&!(anyI (qbw g) 0 g.nodes)
def qag(x:Node)(k v:Int):Int×Int×Bool:=
 if qab x&&qaC k v then
  if x.kind=2 then (k,less (v+x.a) 999,true)
  else if x.kind=4 then ((k+x.a).tmod 100,v,true)
  else if x.kind=3 then (k,v,k.tmod x.a==x.b)
  else (k,v,x.kind != 8)
 else (k,v,false)
theorem qkJ{l:List Int}(h:okAll l=true){k:Int}(hk:k∈l):inR k 0 7=true:=by
 simp only[okAll,zS,zO]at h
 simpa using h k hk
theorem qoP(g:Graph)(hg:g.sz≤8388608)(i:Nat)(hi:i<8)(x:Node)(hx:g.nodes[i]?=some x)(hok:qab x=true)(j:Nat)(k:Int)(hk:x.outs[j]?=some k)(r:Bool)(hr:qaN g i x k=r):Tr prog (qaa f163 1) (qba i (g.nodes.map Node.e) g.workers g.cap x.kind x.a x.b (x.outs.map eI) (j:Int)) (bif r then .ret else .normal) (bif r then qda false else qba i (g.nodes.map Node.e) g.workers g.cap x.kind x.a x.b (x.outs.map eI) ((j+1:Nat):Int)):=by
 have hj:=lt_of hk
 have hl:x.outs.length≤2:=by grind[qab]
 have hk0:inR k 0 7=true:=qkJ (by grind[qab]) (qaq hk)
 have hk1:x.outs[(j:Int).toNat]?=some k:=by simpa using hk
 have hj1:decide ((j:Int)<(↑(x.outs.map eI).length:Int))=true:=lt1 hj
 rcases zd (decide (k≥(↑(g.nodes.map Node.e).length:Int))) with h1 | h1
 ·skip
  obtain rfl:r=true:=by rw[←hr];grind[qaN,qbc,inR]
  exact qC5 ⟨hj1,(by grind[inR,inInt,qab]),(by grind[inR,inInt,qab]),(qad eI hk1),h1,trivial⟩
 ·skip
  rcases zd (x.kind != 7) with h2 | h2
  ·skip
   rcases zd (decide (k≤(i:Int))) with h3 | h3
   ·skip
    obtain rfl:r=true:=by rw[←hr];grind[qaN,qbc,inR]
    exact qC6 ⟨hj1,(by grind[inR,inInt,qab]),(by grind[inR,inInt,qab]),(qad eI hk1),h1,h2,h3,trivial⟩
   ·skip
    obtain⟨y4,hy4⟩:=look (xs:=g.nodes) (i:=k) (by grind[inR,inInt,qab]) (by grind[inR,inInt,qab])
    rcases zd (x.kind==7) with h5 | h5
    ·skip
     rcases zd (decide (k>(i:Int))) with h6 | h6
     ·skip
      obtain rfl:r=true:=by rw[←hr];grind[qaN,qbc,inR]
      exact qC7 ⟨hj1,(by grind[inR,inInt,qab]),(by grind[inR,inInt,qab]),(qad eI hk1),h1,h2,h3,(by grind[inR,inInt,qab]),(by grind[inR,inInt,qab]),(qad Node.e hy4),h5,h6,trivial⟩
     ·skip
      rcases zd (y4.kind != 5) with h7 | h7
      ·skip
       rcases zd (y4.kind != 6) with h8 | h8
       ·skip
        obtain rfl:r=true:=by rw[←hr];grind[qaN,qbc,inR]
        exact qC8 ⟨hj1,(by grind[inR,inInt,qab]),(by grind[inR,inInt,qab]),(qad eI hk1),h1,h2,h3,(by grind[inR,inInt,qab]),(by grind[inR,inInt,qab]),(qad Node.e hy4),h5,h6,h7,h8,trivial⟩
       ·skip
        obtain rfl:r=false:=by rw[←hr];grind[qaN,qbc,inR]
        exact qC9 ⟨hj1,(by grind[inR,inInt,qab]),(by grind[inR,inInt,qab]),(qad eI hk1),h1,h2,h3,(by grind[inR,inInt,qab]),(by grind[inR,inInt,qab]),(qad Node.e hy4),h5,h6,h7,h8,(by grind[inR,inInt,qab]),trivial⟩
      ·skip
       obtain rfl:r=false:=by rw[←hr];grind[qaN,qbc,inR]
       exact qDa ⟨hj1,(by grind[inR,inInt,qab]),(by grind[inR,inInt,qab]),(qad eI hk1),h1,h2,h3,(by grind[inR,inInt,qab]),(by grind[inR,inInt,qab]),(qad Node.e hy4),h5,h6,h7,(by grind[inR,inInt,qab]),trivial⟩
    ·skip
     obtain rfl:r=false:=by rw[←hr];grind[qaN,qbc,inR]
     exact qDb ⟨hj1,(by grind[inR,inInt,qab]),(by grind[inR,inInt,qab]),(qad eI hk1),h1,h2,h3,(by grind[inR,inInt,qab]),(by grind[inR,inInt,qab]),(qad Node.e hy4),h5,(by grind[inR,inInt,qab]),trivial⟩
  ·skip
   obtain⟨y9,hy9⟩:=look (xs:=g.nodes) (i:=k) (by grind[inR,inInt,qab]) (by grind[inR,inInt,qab])
   rcases zd (x.kind==7) with h10 | h10
   ·skip
    rcases zd (decide (k>(i:Int))) with h11 | h11
    ·skip
     obtain rfl:r=true:=by rw[←hr];grind[qaN,qbc,inR]
     exact qDc ⟨hj1,(by grind[inR,inInt,qab]),(by grind[inR,inInt,qab]),(qad eI hk1),h1,h2,(by grind[inR,inInt,qab]),(by grind[inR,inInt,qab]),(qad Node.e hy9),h10,h11,trivial⟩
    ·skip
     rcases zd (y9.kind != 5) with h12 | h12
     ·skip
      rcases zd (y9.kind != 6) with h13 | h13
      ·skip
       obtain rfl:r=true:=by rw[←hr];grind[qaN,qbc,inR]
       exact qDd ⟨hj1,(by grind[inR,inInt,qab]),(by grind[inR,inInt,qab]),(qad eI hk1),h1,h2,(by grind[inR,inInt,qab]),(by grind[inR,inInt,qab]),(qad Node.e hy9),h10,h11,h12,h13,trivial⟩
      ·skip
       obtain rfl:r=false:=by rw[←hr];grind[qaN,qbc,inR]
       exact qDe ⟨hj1,(by grind[inR,inInt,qab]),(by grind[inR,inInt,qab]),(qad eI hk1),h1,h2,(by grind[inR,inInt,qab]),(by grind[inR,inInt,qab]),(qad Node.e hy9),h10,h11,h12,h13,(by grind[inR,inInt,qab]),trivial⟩
     ·skip
      obtain rfl:r=false:=by rw[←hr];grind[qaN,qbc,inR]
      exact qDf ⟨hj1,(by grind[inR,inInt,qab]),(by grind[inR,inInt,qab]),(qad eI hk1),h1,h2,(by grind[inR,inInt,qab]),(by grind[inR,inInt,qab]),(qad Node.e hy9),h10,h11,h12,(by grind[inR,inInt,qab]),trivial⟩
   ·skip
    obtain rfl:r=false:=by rw[←hr];grind[qaN,qbc,inR]
    exact qDg ⟨hj1,(by grind[inR,inInt,qab]),(by grind[inR,inInt,qab]),(qad eI hk1),h1,h2,(by grind[inR,inInt,qab]),(by grind[inR,inInt,qab]),(qad Node.e hy9),h10,(by grind[inR,inInt,qab]),trivial⟩
theorem qoQ(g:Graph)(hg:g.sz≤8388608)(i:Nat)(hi:i<8)(x:Node)(hx:g.nodes[i]?=some x)(hok:qab x=true)(j:Nat)(k:Int)(hk:x.outs[j]?=some k)(r:Bool)(hr:qaN g i x k=r):Tr prog (qaa f122 1) (qbb (g.nodes.map Node.e) i (g.nodes.map Node.e) g.workers g.cap x.kind x.a x.b (x.outs.map eI) (j:Int)) (bif r then .ret else .normal) (bif r then qdb false else qbb (g.nodes.map Node.e) i (g.nodes.map Node.e) g.workers g.cap x.kind x.a x.b (x.outs.map eI) ((j+1:Nat):Int)):=by
 have hj:=lt_of hk
 have hl:x.outs.length≤2:=by grind[qab]
 have hk0:inR k 0 7=true:=qkJ (by grind[qab]) (qaq hk)
 have hk1:x.outs[(j:Int).toNat]?=some k:=by simpa using hk
 have hj1:decide ((j:Int)<(↑(x.outs.map eI).length:Int))=true:=lt1 hj
 rcases zd (decide (k≥(↑(g.nodes.map Node.e).length:Int))) with h1 | h1
 ·skip
  obtain rfl:r=true:=by rw[←hr];grind[qaN,qbc,inR]
  exact qDs ⟨hj1,(by grind[inR,inInt,qab]),(by grind[inR,inInt,qab]),(qad eI hk1),h1,trivial⟩
 ·skip
  obtain⟨y2,hy2⟩:=look (xs:=g.nodes) (i:=k) (by grind[inR,inInt,qab]) (by grind[inR,inInt,qab])
  rcases zd (x.kind==7) with h3 | h3
  ·skip
   rcases zd (decide (k>(i:Int))) with h4 | h4
   ·skip
    obtain rfl:r=true:=by rw[←hr];grind[qaN,qbc,inR]
    exact qDt ⟨hj1,(by grind[inR,inInt,qab]),(by grind[inR,inInt,qab]),(qad eI hk1),h1,(by grind[inR,inInt,qab]),(by grind[inR,inInt,qab]),(qad Node.e hy2),h3,h4,trivial⟩
   ·skip
    rcases zd (y2.kind != 5) with h5 | h5
    ·skip
     rcases zd (y2.kind != 6) with h6 | h6
     ·skip
      obtain rfl:r=true:=by rw[←hr];grind[qaN,qbc,inR]
      exact qDu ⟨hj1,(by grind[inR,inInt,qab]),(by grind[inR,inInt,qab]),(qad eI hk1),h1,(by grind[inR,inInt,qab]),(by grind[inR,inInt,qab]),(qad Node.e hy2),h3,h4,h5,h6,trivial⟩
     ·skip
      rcases zd (x.kind != 7) with h7 | h7
      ·skip
       rcases zd (decide (k≤(i:Int))) with h8 | h8
       ·skip
        obtain rfl:r=true:=by rw[←hr];grind[qaN,qbc,inR]
        exact qDv ⟨hj1,(by grind[inR,inInt,qab]),(by grind[inR,inInt,qab]),(qad eI hk1),h1,(by grind[inR,inInt,qab]),(by grind[inR,inInt,qab]),(qad Node.e hy2),h3,h4,h5,h6,h7,h8,trivial⟩
       ·skip
        obtain rfl:r=false:=by rw[←hr];grind[qaN,qbc,inR]
        exact qDw ⟨hj1,(by grind[inR,inInt,qab]),(by grind[inR,inInt,qab]),(qad eI hk1),h1,(by grind[inR,inInt,qab]),(by grind[inR,inInt,qab]),(qad Node.e hy2),h3,h4,h5,h6,h7,h8,(by grind[inR,inInt,qab]),trivial⟩
      ·skip
       obtain rfl:r=false:=by rw[←hr];grind[qaN,qbc,inR]
       exact qDx ⟨hj1,(by grind[inR,inInt,qab]),(by grind[inR,inInt,qab]),(qad eI hk1),h1,(by grind[inR,inInt,qab]),(by grind[inR,inInt,qab]),(qad Node.e hy2),h3,h4,h5,h6,h7,(by grind[inR,inInt,qab]),trivial⟩
    ·skip
     rcases zd (x.kind != 7) with h9 | h9
     ·skip
      rcases zd (decide (k≤(i:Int))) with h10 | h10
      ·skip
       obtain rfl:r=true:=by rw[←hr];grind[qaN,qbc,inR]
       exact qDy ⟨hj1,(by grind[inR,inInt,qab]),(by grind[inR,inInt,qab]),(qad eI hk1),h1,(by grind[inR,inInt,qab]),(by grind[inR,inInt,qab]),(qad Node.e hy2),h3,h4,h5,h9,h10,trivial⟩
      ·skip
       obtain rfl:r=false:=by rw[←hr];grind[qaN,qbc,inR]
       exact qDz ⟨hj1,(by grind[inR,inInt,qab]),(by grind[inR,inInt,qab]),(qad eI hk1),h1,(by grind[inR,inInt,qab]),(by grind[inR,inInt,qab]),(qad Node.e hy2),h3,h4,h5,h9,h10,(by grind[inR,inInt,qab]),trivial⟩
     ·skip
      obtain rfl:r=false:=by rw[←hr];grind[qaN,qbc,inR]
      exact qDA ⟨hj1,(by grind[inR,inInt,qab]),(by grind[inR,inInt,qab]),(qad eI hk1),h1,(by grind[inR,inInt,qab]),(by grind[inR,inInt,qab]),(qad Node.e hy2),h3,h4,h5,h9,(by grind[inR,inInt,qab]),trivial⟩
  ·skip
   rcases zd (x.kind != 7) with h11 | h11
   ·skip
    rcases zd (decide (k≤(i:Int))) with h12 | h12
    ·skip
     obtain rfl:r=true:=by rw[←hr];grind[qaN,qbc,inR]
     exact qDB ⟨hj1,(by grind[inR,inInt,qab]),(by grind[inR,inInt,qab]),(qad eI hk1),h1,(by grind[inR,inInt,qab]),(by grind[inR,inInt,qab]),(qad Node.e hy2),h3,h11,h12,trivial⟩
    ·skip
     obtain rfl:r=false:=by rw[←hr];grind[qaN,qbc,inR]
     exact qDC ⟨hj1,(by grind[inR,inInt,qab]),(by grind[inR,inInt,qab]),(qad eI hk1),h1,(by grind[inR,inInt,qab]),(by grind[inR,inInt,qab]),(qad Node.e hy2),h3,h11,h12,(by grind[inR,inInt,qab]),trivial⟩
   ·skip
    obtain rfl:r=false:=by rw[←hr];grind[qaN,qbc,inR]
    exact qDD ⟨hj1,(by grind[inR,inInt,qab]),(by grind[inR,inInt,qab]),(qad eI hk1),h1,(by grind[inR,inInt,qab]),(by grind[inR,inInt,qab]),(qad Node.e hy2),h3,h11,(by grind[inR,inInt,qab]),trivial⟩
theorem qGI(g:Graph)(hg:g.sz≤8388608)(i:Nat)(hi:i<8)(x:Node)(hx:g.nodes[i]?=some x)(hok:qab x=true):
  (x.outs.any (qaN g i x)=true∧qam prog (qaa f163 1) (qba i (g.nodes.map Node.e) g.workers g.cap x.kind x.a x.b (x.outs.map eI) 0) .ret (qda false))∨(x.outs.any (qaN g i x)=false∧qam prog (qaa f163 1) (qba i (g.nodes.map Node.e) g.workers g.cap x.kind x.a x.b (x.outs.map eI) 0) (.exit 2) (qkC i (g.nodes.map Node.e) g.workers g.cap)):=by
 have l:=qaT (P:=prog) (c:=(qaa f163 1)) x.outs (qaN g i x) (fun j=>qba i (g.nodes.map Node.e) g.workers g.cap x.kind x.a x.b (x.outs.map eI) j) (X:=fun _ _=>qda false) qav (qaf 2)
  (fun j k hk h=>qoP g hg i hi x hx hok j k hk false h)
  (fun j k hk h=>qoP g hg i hi x hx hok j k hk true h)
  (qDh ⟨ge1,trivial⟩)
 rcases l with⟨_,_,h1,h2⟩ | ⟨j,k,_,_,_,_,h1,h2⟩
 ·exact .inr ⟨h1,h2⟩
 ·exact .inl ⟨h1,h2⟩
theorem qGJ(g:Graph)(hg:g.sz≤8388608)(i:Nat)(hi:i<8)(x:Node)(hx:g.nodes[i]?=some x)(hok:qab x=true):
  (x.outs.any (qaN g i x)=true∧qam prog (qaa f122 1) (qbb (g.nodes.map Node.e) i (g.nodes.map Node.e) g.workers g.cap x.kind x.a x.b (x.outs.map eI) 0) .ret (qdb false))∨(x.outs.any (qaN g i x)=false∧qam prog (qaa f122 1) (qbb (g.nodes.map Node.e) i (g.nodes.map Node.e) g.workers g.cap x.kind x.a x.b (x.outs.map eI) 0) (.exit 2) (qkE (g.nodes.map Node.e) i (g.nodes.map Node.e) g.workers g.cap)):=by
 have l:=qaT (P:=prog) (c:=(qaa f122 1)) x.outs (qaN g i x) (fun j=>qbb (g.nodes.map Node.e) i (g.nodes.map Node.e) g.workers g.cap x.kind x.a x.b (x.outs.map eI) j) (X:=fun _ _=>qdb false) qav (qaf 2)
  (fun j k hk h=>qoQ g hg i hi x hx hok j k hk false h)
  (fun j k hk h=>qoQ g hg i hi x hx hok j k hk true h)
  (qDE ⟨ge1,trivial⟩)
 rcases l with⟨_,_,h1,h2⟩ | ⟨j,k,_,_,_,_,h1,h2⟩
 ·exact .inr ⟨h1,h2⟩
 ·exact .inl ⟨h1,h2⟩
theorem qoR(g:Graph)(hg:g.sz≤8388608)(i:Nat)(hi:i<8)(x:Node)(hx:g.nodes[i]?=some x)(r:Bool)(hr:qbw g i x=r):Tr prog (qaa f163 0) (qco ((i:Nat):Int) (g.nodes.map Node.e) g.workers g.cap) (bif r then .ret else .normal) (bif r then qeR false else qco ((i+1:Nat):Int) (g.nodes.map Node.e) g.workers g.cap):=by
 have hj:=lt_of hx
 have ho:=Graph.outs_le hg (qaq hx)
 have hk1:g.nodes[(i:Int).toNat]?=some x:=by simpa using hx
 have hj1:decide ((i:Int)<(↑(g.nodes.map Node.e).length:Int))=true:=lt1 hj
 have c1:=qoN x (by grind)
 rcases zd (qab x) with h2 | h2
 ·skip
  rcases zd ((x.kind==1)==((i:Int)==0)) with h3 | h3
  ·skip
   rcases qGI g hg i hi x hx (by grind) with⟨hL,l⟩ | ⟨hL,l⟩
   ·skip
    obtain rfl:r=true:=by rw[←hr];grind[qbw]
    exact qDi ⟨hj1,(by grind[inR,inInt,qab]),(by grind[inR,inInt,qab]),(qad Node.e hk1),c1,(by rw[h2];rfl),(by rw[h3];rfl),l,trivial⟩
   ·skip
    obtain rfl:r=false:=by rw[←hr];grind[qbw]
    exact qDj ⟨hj1,(by grind[inR,inInt,qab]),(by grind[inR,inInt,qab]),(qad Node.e hk1),c1,(by rw[h2];rfl),(by rw[h3];rfl),l,(by grind[inR,inInt,qab]),trivial⟩
  ·skip
   obtain rfl:r=true:=by rw[←hr];grind[qbw]
   exact qC4 ⟨hj1,(by grind[inR,inInt,qab]),(by grind[inR,inInt,qab]),(qad Node.e hk1),c1,(by rw[h2];rfl),(by rw[h3];rfl),trivial⟩
 ·skip
  obtain rfl:r=true:=by rw[←hr];grind[qbw]
  exact qC3 ⟨hj1,(by grind[inR,inInt,qab]),(by grind[inR,inInt,qab]),(qad Node.e hk1),c1,(by rw[h2];rfl),trivial⟩
theorem qoS(g:Graph)(hg:g.sz≤8388608)(i:Nat)(hi:i<8)(x:Node)(hx:g.nodes[i]?=some x)(r:Bool)(hr:qbw g i x=r):Tr prog (qaa f122 0) (qcp (g.nodes.map Node.e) ((i:Nat):Int) (g.nodes.map Node.e) g.workers g.cap) (bif r then .ret else .normal) (bif r then qeS false else qcp (g.nodes.map Node.e) ((i+1:Nat):Int) (g.nodes.map Node.e) g.workers g.cap):=by
 have hj:=lt_of hx
 have ho:=Graph.outs_le hg (qaq hx)
 have hk1:g.nodes[(i:Int).toNat]?=some x:=by simpa using hx
 have hj1:decide ((i:Int)<(↑(g.nodes.map Node.e).length:Int))=true:=lt1 hj
 have c1:=qoO x (by grind)
 rcases zd (qab x) with h2 | h2
 ·skip
  rcases zd ((x.kind==1)==((i:Int)==0)) with h3 | h3
  ·skip
   rcases qGJ g hg i hi x hx (by grind) with⟨hL,l⟩ | ⟨hL,l⟩
   ·skip
    obtain rfl:r=true:=by rw[←hr];grind[qbw]
    exact qDF ⟨hj1,(by grind[inR,inInt,qab]),(by grind[inR,inInt,qab]),(qad Node.e hk1),c1,(by rw[h2];rfl),(by rw[h3];rfl),l,trivial⟩
   ·skip
    obtain rfl:r=false:=by rw[←hr];grind[qbw]
    exact qDG ⟨hj1,(by grind[inR,inInt,qab]),(by grind[inR,inInt,qab]),(qad Node.e hk1),c1,(by rw[h2];rfl),(by rw[h3];rfl),l,(by grind[inR,inInt,qab]),trivial⟩
  ·skip
   obtain rfl:r=true:=by rw[←hr];grind[qbw]
   exact qDr ⟨hj1,(by grind[inR,inInt,qab]),(by grind[inR,inInt,qab]),(qad Node.e hk1),c1,(by rw[h2];rfl),(by rw[h3];rfl),trivial⟩
 ·skip
  obtain rfl:r=true:=by rw[←hr];grind[qbw]
  exact qDq ⟨hj1,(by grind[inR,inInt,qab]),(by grind[inR,inInt,qab]),(qad Node.e hk1),c1,(by rw[h2];rfl),trivial⟩
theorem qGK(g:Graph)(hg:g.sz≤8388608)(h8:g.nodes.length≤8):
  (anyI (qbw g) 0 g.nodes=true∧qam prog (qaa f163 0) (qco 0 (g.nodes.map Node.e) g.workers g.cap) .ret (qeR false))∨(anyI (qbw g) 0 g.nodes=false∧qam prog (qaa f163 0) (qco 0 (g.nodes.map Node.e) g.workers g.cap) (.exit 0) qkD):=by
 have l:=qdE (P:=prog) (c:=(qaa f163 0)) g.nodes (qbw g) (fun i=>qco (i:Nat) (g.nodes.map Node.e) g.workers g.cap) (X:=qeR false) qav (qaf 0)
  (fun i x hx h=>qoR g hg i (by have:=lt_of hx;omega) x hx false h)
  (fun i x hx h=>qoR g hg i (by have:=lt_of hx;omega) x hx true h)
  (qDk ⟨ge1,trivial⟩)
 rcases l with⟨h1,h2⟩ | ⟨h1,h2⟩
 ·exact .inr ⟨h1,h2⟩
 ·exact .inl ⟨h1,h2⟩
theorem qGL(g:Graph)(hg:g.sz≤8388608)(h8:g.nodes.length≤8):
  (anyI (qbw g) 0 g.nodes=true∧qam prog (qaa f122 0) (qcp (g.nodes.map Node.e) 0 (g.nodes.map Node.e) g.workers g.cap) .ret (qeS false))∨(anyI (qbw g) 0 g.nodes=false∧qam prog (qaa f122 0) (qcp (g.nodes.map Node.e) 0 (g.nodes.map Node.e) g.workers g.cap) (.exit 0) qkF):=by
 have l:=qdE (P:=prog) (c:=(qaa f122 0)) g.nodes (qbw g) (fun i=>qcp (g.nodes.map Node.e) (i:Nat) (g.nodes.map Node.e) g.workers g.cap) (X:=qeS false) qav (qaf 0)
  (fun i x hx h=>qoS g hg i (by have:=lt_of hx;omega) x hx false h)
  (fun i x hx h=>qoS g hg i (by have:=lt_of hx;omega) x hx true h)
  (qDH ⟨ge1,trivial⟩)
 rcases l with⟨h1,h2⟩ | ⟨h1,h2⟩
 ·exact .inr ⟨h1,h2⟩
 ·exact .inl ⟨h1,h2⟩
theorem qkK(g:Graph)(hg:g.sz≤8388608):Rt 163 [.agg g.e] [.one (B (qaw g))]:=by
 have c1:=qbf (↑(g.nodes.map Node.e).length:Int) 1 8
 rcases zd (inR (↑(g.nodes.map Node.e).length:Int) 1 8) with h2 | h2
 ·skip
  have c3:=qbf g.workers 1 4
  rcases zd (inR g.workers 1 4) with h4 | h4
  ·skip
   have c5:=qbf g.cap 1 4
   rcases zd (inR g.cap 1 4) with h6 | h6
   ·skip
    rcases qGK g hg (by grind[inR]) with⟨hL,l⟩ | ⟨hL,l⟩
    ·skip
     rw[show qaw g=false from by grind[qaw]]
     exact qDl ⟨c1,(by rw[h2];rfl),c3,(by rw[h4];rfl),c5,(by rw[h6];rfl),l,trivial⟩
    ·skip
     rw[show qaw g=true from by grind[qaw]]
     exact qDm ⟨c1,(by rw[h2];rfl),c3,(by rw[h4];rfl),c5,(by rw[h6];rfl),l,trivial⟩
   ·skip
    rw[show qaw g=false from by grind[qaw]]
    exact qC2 ⟨c1,(by rw[h2];rfl),c3,(by rw[h4];rfl),c5,(by rw[h6];rfl),trivial⟩
  ·skip
   rw[show qaw g=false from by grind[qaw]]
   exact qC1 ⟨c1,(by rw[h2];rfl),c3,(by rw[h4];rfl),trivial⟩
 ·skip
  rw[show qaw g=false from by grind[qaw]]
  exact qC0 ⟨c1,(by rw[h2];rfl),trivial⟩
theorem qfZ(g:Graph)(hg:g.sz≤8388608):Rt 122 [.agg g.e] [.one (B (qaw g))]:=by
 have c1:=qbB (↑(g.nodes.map Node.e).length:Int) 1 8
 rcases zd (inR (↑(g.nodes.map Node.e).length:Int) 1 8) with h2 | h2
 ·skip
  have c3:=qbB g.workers 1 4
  rcases zd (inR g.workers 1 4) with h4 | h4
  ·skip
   have c5:=qbB g.cap 1 4
   rcases zd (inR g.cap 1 4) with h6 | h6
   ·skip
    rcases qGL g hg (by grind[inR]) with⟨hL,l⟩ | ⟨hL,l⟩
    ·skip
     rw[show qaw g=false from by grind[qaw]]
     exact qDI ⟨c1,(by rw[h2];rfl),c3,(by rw[h4];rfl),c5,(by rw[h6];rfl),l,trivial⟩
    ·skip
     rw[show qaw g=true from by grind[qaw]]
     exact qDJ ⟨c1,(by rw[h2];rfl),c3,(by rw[h4];rfl),c5,(by rw[h6];rfl),l,trivial⟩
   ·skip
    rw[show qaw g=false from by grind[qaw]]
    exact qDp ⟨c1,(by rw[h2];rfl),c3,(by rw[h4];rfl),c5,(by rw[h6];rfl),trivial⟩
  ·skip
   rw[show qaw g=false from by grind[qaw]]
   exact qDo ⟨c1,(by rw[h2];rfl),c3,(by rw[h4];rfl),trivial⟩
 ·skip
  rw[show qaw g=false from by grind[qaw]]
  exact qDn ⟨c1,(by rw[h2];rfl),trivial⟩
theorem qGM(x:Node)(k v:Int)(hx:x.outs.length≤8388608):Rt 235 [.agg x.e,.one (I k),.one (I v)] [.one (I ((qag x k v).1)),.one (I ((qag x k v).2.1)),.one (B ((qag x k v).2.2))]:=by
 have c1:=qoN x (by grind)
 rcases zd (qab x) with h2 | h2
 ·skip
  have c3:=qbf k 0 99
  rcases zd (inR k 0 99) with h4 | h4
  ·skip
   have c5:=qbf v 0 999
   rcases zd (inR v 0 999) with h6 | h6
   ·skip
    rcases zd (x.kind==2) with h7 | h7
    ·skip
     have c8:=qGH (v+x.a) 999
     rw[show qag x k v=(k,less (v+x.a) 999,true) from by grind[qag,qaC,less,qab,abOk]]
     exact qD4 ⟨c1,(by rw[h2];rfl),c3,(by rw[h4];rfl),c5,(by rw[h6];rfl),h7,(by grind[qab,abOk,inR,inInt,qaC]),c8,trivial⟩
    ·skip
     rcases zd (x.kind==4) with h9 | h9
     ·skip
      rw[show qag x k v=((k+x.a).tmod 100,v,true) from by grind[qag,qaC,less,qab,abOk]]
      exact qD5 ⟨c1,(by rw[h2];rfl),c3,(by rw[h4];rfl),c5,(by rw[h6];rfl),h7,h9,(by grind[qab,abOk,inR,inInt,qaC]),(by grind[qab,abOk,inR,inInt,qaC]),trivial⟩
     ·skip
      rcases zd (x.kind==3) with h10 | h10
      ·skip
       rw[show qag x k v=(k,v,k.tmod x.a==x.b) from by grind[qag,qaC,less,qab,abOk]]
       exact qD6 ⟨c1,(by rw[h2];rfl),c3,(by rw[h4];rfl),c5,(by rw[h6];rfl),h7,h9,h10,(by grind[qab,abOk,inR,inInt,qaC]),trivial⟩
      ·skip
       rw[show qag x k v=(k,v,x.kind != 8) from by grind[qag,qaC,less,qab,abOk]]
       exact qD7 ⟨c1,(by rw[h2];rfl),c3,(by rw[h4];rfl),c5,(by rw[h6];rfl),h7,h9,h10,trivial⟩
   ·skip
    rw[show qag x k v=(k,v,false) from by grind[qag,qaC,less,qab,abOk]]
    exact qD3 ⟨c1,(by rw[h2];rfl),c3,(by rw[h4];rfl),c5,(by rw[h6];rfl),trivial⟩
  ·skip
   rw[show qag x k v=(k,v,false) from by grind[qag,qaC,less,qab,abOk]]
   exact qD2 ⟨c1,(by rw[h2];rfl),c3,(by rw[h4];rfl),trivial⟩
 ·skip
  rw[show qag x k v=(k,v,false) from by grind[qag,qaC,less,qab,abOk]]
  exact qD1 ⟨c1,(by rw[h2];rfl),trivial⟩
theorem qGN(x:Node)(k v:Int)(hx:x.outs.length≤8388608):Rt 239 [.agg x.e,.one (I k),.one (I v)] [.one (I ((qag x k v).1)),.one (I ((qag x k v).2.1)),.one (B ((qag x k v).2.2))]:=by
 have c1:=qoO x (by grind)
 rcases zd (qab x) with h2 | h2
 ·skip
  have c3:=qoM k v
  rcases zd (qaC k v) with h4 | h4
  ·skip
   rcases zd (x.kind==2) with h5 | h5
   ·skip
    rw[show qag x k v=(k,if v+x.a<999 then v+x.a else 999,true) from by grind[qag,qaC,less,qab,abOk]]
    exact qEa ⟨c1,(by rw[h2];rfl),c3,(by rw[h4];rfl),h5,(by grind[qab,abOk,inR,inInt,qaC]),trivial⟩
   ·skip
    rcases zd (x.kind==4) with h6 | h6
    ·skip
     rw[show qag x k v=((k+x.a).tmod 100,v,true) from by grind[qag,qaC,less,qab,abOk]]
     exact qEb ⟨c1,(by rw[h2];rfl),c3,(by rw[h4];rfl),h5,h6,(by grind[qab,abOk,inR,inInt,qaC]),(by grind[qab,abOk,inR,inInt,qaC]),trivial⟩
    ·skip
     rcases zd (x.kind==3) with h7 | h7
     ·skip
      rw[show qag x k v=(k,v,k.tmod x.a==x.b) from by grind[qag,qaC,less,qab,abOk]]
      exact qEc ⟨c1,(by rw[h2];rfl),c3,(by rw[h4];rfl),h5,h6,h7,(by grind[qab,abOk,inR,inInt,qaC]),trivial⟩
     ·skip
      rw[show qag x k v=(k,v,x.kind != 8) from by grind[qag,qaC,less,qab,abOk]]
      exact qEd ⟨c1,(by rw[h2];rfl),c3,(by rw[h4];rfl),h5,h6,h7,trivial⟩
  ·skip
   rw[show qag x k v=(k,v,false) from by grind[qag,qaC,less,qab,abOk]]
   exact qD9 ⟨c1,(by rw[h2];rfl),c3,(by rw[h4];rfl),trivial⟩
 ·skip
  rw[show qag x k v=(k,v,false) from by grind[qag,qaC,less,qab,abOk]]
  exact qD8 ⟨c1,(by rw[h2];rfl),trivial⟩
def qax(a b:Cell):Bool:=a.op==b.op&&a.epoch==b.epoch&&a.key==b.key
def qa0(op ep key:Int)(s:Int×Bool)(a:Cell):Int×Bool:=if a.op=op∧a.epoch=ep∧a.key=key∧(s.2=false∨a.val<s.1) then (a.val,true) else s
def qcR(xs:List Cell)(op ep key:Int):Int×Bool:=xs.foldl (qa0 op ep key) (0,false)
theorem qoT(a b:Cell):Rt 258 [.agg a.e,.agg b.e] [.one (B (qax a b))]:=by
 rcases zd (a.op==b.op) with h1 | h1
 ·skip
  rcases zd (a.epoch==b.epoch) with h2 | h2
  ·skip
   rw[show qax a b=(a.key==b.key) from by grind[qax]]
   exact qxp ⟨h1,h2,trivial⟩
  ·skip
   rw[show qax a b=false from by grind[qax]]
   exact qxq ⟨h1,h2,trivial⟩
 ·skip
  rw[show qax a b=false from by grind[qax]]
  exact qxr ⟨h1,trivial⟩
theorem qGO(xs:List Cell)(hl:xs.length≤8388608)(op ep key m:Int)(f:Bool)(i:Nat)(a:Cell)(ha:xs[i]?=some a):Tr prog (qaa f248 0) (qbK (xs.map Cell.e) op ep key i f m) .normal (qbK (xs.map Cell.e) op ep key ((i+1:Nat):Int) (qa0 op ep key (m,f) a).2 (qa0 op ep key (m,f) a).1):=by
 have hj:=lt_of ha
 have hk1:xs[(i:Int).toNat]?=some a:=by simpa using ha
 have hj1:decide ((i:Int)<(↑(xs.map Cell.e).length:Int))=true:=lt1 hj
 rcases zd (a.op==op) with h1 | h1
 ·skip
  rcases zd (a.epoch==ep) with h2 | h2
  ·skip
   rcases zd (a.key==key) with h3 | h3
   ·skip
    rcases zd (f) with h4 | h4
    ·skip
     rcases zd (decide (a.val<m)) with h5 | h5
     ·skip
      rw[show qa0 op ep key (m,f) a=(a.val,true) from by grind[qa0,qax]]
      exact qx3 ⟨hj1,(by grind[inInt]),(by grind[inInt]),(qad Cell.e hk1),h1,h2,h3,(by rw[h4];rfl),h5,(by grind[inInt]),trivial⟩
     ·skip
      rw[show qa0 op ep key (m,f) a=(m,f) from by grind[qa0,qax]]
      exact qx4 ⟨hj1,(by grind[inInt]),(by grind[inInt]),(qad Cell.e hk1),h1,h2,h3,(by rw[h4];rfl),h5,(by grind[inInt]),trivial⟩
    ·skip
     rw[show qa0 op ep key (m,f) a=(a.val,true) from by grind[qa0,qax]]
     exact qx2 ⟨hj1,(by grind[inInt]),(by grind[inInt]),(qad Cell.e hk1),h1,h2,h3,(by rw[h4];rfl),(by grind[inInt]),trivial⟩
   ·skip
    rw[show qa0 op ep key (m,f) a=(m,f) from by grind[qa0,qax]]
    exact qx5 ⟨hj1,(by grind[inInt]),(by grind[inInt]),(qad Cell.e hk1),h1,h2,h3,(by grind[inInt]),trivial⟩
  ·skip
   rw[show qa0 op ep key (m,f) a=(m,f) from by grind[qa0,qax]]
   exact qx6 ⟨hj1,(by grind[inInt]),(by grind[inInt]),(qad Cell.e hk1),h1,h2,(by grind[inInt]),trivial⟩
 ·skip
  rw[show qa0 op ep key (m,f) a=(m,f) from by grind[qa0,qax]]
  exact qx7 ⟨hj1,(by grind[inInt]),(by grind[inInt]),(qad Cell.e hk1),h1,(by grind[inInt]),trivial⟩
theorem qGP(xs:List Cell)(hl:xs.length≤8388608)(op ep key m:Int)(f:Bool)(i:Nat)(a:Cell)(ha:xs[i]?=some a):Tr prog (qaa f255 0) (qcl (xs.map Cell.e) op ep key i f m) .normal (qcl (xs.map Cell.e) op ep key ((i+1:Nat):Int) (qa0 op ep key (m,f) a).2 (qa0 op ep key (m,f) a).1):=by
 have hj:=lt_of ha
 have hk1:xs[(i:Int).toNat]?=some a:=by simpa using ha
 have hj1:decide ((i:Int)<(↑(xs.map Cell.e).length:Int))=true:=lt1 hj
 have c1:=qoT a (⟨op,ep,key,0⟩:Cell)
 rcases zd (qax a (⟨op,ep,key,0⟩:Cell)) with h2 | h2
 ·skip
  rcases zd (f) with h3 | h3
  ·skip
   rcases zd (decide (a.val<m)) with h4 | h4
   ·skip
    rw[show qa0 op ep key (m,f) a=(a.val,true) from by grind[qa0,qax]]
    exact qxz ⟨hj1,(by grind[inInt]),(by grind[inInt]),(qad Cell.e hk1),c1,h2,(by rw[h3];rfl),h4,(by grind[inInt]),trivial⟩
   ·skip
    rw[show qa0 op ep key (m,f) a=(m,f) from by grind[qa0,qax]]
    exact qxA ⟨hj1,(by grind[inInt]),(by grind[inInt]),(qad Cell.e hk1),c1,h2,(by rw[h3];rfl),h4,(by grind[inInt]),trivial⟩
  ·skip
   rw[show qa0 op ep key (m,f) a=(a.val,true) from by grind[qa0,qax]]
   exact qxy ⟨hj1,(by grind[inInt]),(by grind[inInt]),(qad Cell.e hk1),c1,h2,(by rw[h3];rfl),(by grind[inInt]),trivial⟩
 ·skip
  rw[show qa0 op ep key (m,f) a=(m,f) from by grind[qa0,qax]]
  exact qxB ⟨hj1,(by grind[inInt]),(by grind[inInt]),(qad Cell.e hk1),c1,h2,(by grind[inInt]),trivial⟩
theorem qoU(xs:List Cell)(op ep key:Int)(hl:xs.length≤8388608):Rt 248 [.one (.sl 4 (xs.map Cell.e)),.one (I op),.one (I ep),.one (I key)] [.one (I (qcR xs op ep key).1),.one (B (qcR xs op ep key).2)]:=by
 have l:=qat (P:=prog) (c:=(qaa f248 0)) (qaf 0) xs.length (fun i:Nat=>qbK (xs.map Cell.e) op ep key i (qdq (qa0 op ep key) (0,false) xs i).2 (qdq (qa0 op ep key) (0,false) xs i).1) (fun i hi=>by
  obtain⟨a,ha⟩:=qah hi
  rw[qmI ha]
  exact qGO xs hl op ep key _ _ i a ha) (qx8 ⟨ge1,trivial⟩)
 rw[qmJ]at l
 exact qx9 ⟨l,trivial⟩
theorem qGQ(xs:List Cell)(op ep key:Int)(hl:xs.length≤8388608):Rt 255 [.one (.sl 4 (xs.map Cell.e)),.one (I op),.one (I ep),.one (I key)] [.one (I (qcR xs op ep key).1),.one (B (qcR xs op ep key).2)]:=by
 have l:=qat (P:=prog) (c:=(qaa f255 0)) (qaf 0) xs.length (fun i:Nat=>qcl (xs.map Cell.e) op ep key i (qdq (qa0 op ep key) (0,false) xs i).2 (qdq (qa0 op ep key) (0,false) xs i).1) (fun i hi=>by
  obtain⟨a,ha⟩:=qah hi
  rw[qmI ha]
  exact qGP xs hl op ep key _ _ i a ha) (qxC ⟨ge1,trivial⟩)
 rw[qmJ]at l
 exact qxD ⟨l,trivial⟩
end Go.Proofs.YtdanpadojemjeaaGreat
namespace Go.Proofs.YtdanpadojemjeaaGreat
open Go.Sx Go.RowKit Go.Proofs.Tryz
theorem qGR{P:Program}{f:Nat}{args:List GA}{k:Nat}{l l':List (List D)}(h:RetG P f args [.one (.sl k l)])(hl:l=l'):RetG P f args [.one (.sl k l')]:=hl▸h
theorem qkL(xs:List Cell)(p:Cell→Bool)(g:Nat)(caps:List D)(hl:xs.length≤8388608)(hc:qa6 prog g=true)(hp:∀x∈xs,∀r,p x=r→Rt g ([.agg x.e]++caps.map .one) [.one (B r)]):
  ∀(n i:Nat) (ys:List Cell),n+i=xs.length→ys.length=xs.length→ys.drop i=xs.drop i→ys.take ((xs.take i).filter fun a=>!p a).length=(xs.take i).filter (fun a=>!p a)→
  ∃zs:List Cell,qam prog (qaa f256 0) (qdH g caps i ((xs.take i).filter fun a=>!p a).length (ys.map Cell.e)) (.exit 0) (qka (zs.map Cell.e) (xs.filter fun a=>!p a).length)∧zs.length=xs.length∧zs.take (xs.filter fun a=>!p a).length=xs.filter (fun a=>!p a)
 | 0,i,ys,hi,hy,_,ht=>by
  have e:xs.take i=xs:=zbi (by omega)
  rw[e]at ht ⊢
  exact⟨ys,.last (qaf 0) (qxw _ _ _ _ _ ⟨dF (by simp;omega),trivial⟩),hy,ht⟩
 | n+1,i,ys,hi,hy,hd,ht=>by
  obtain⟨a,ha⟩:=qah (xs:=xs) (i:=i) (by omega)
  have hya:ys[i]?=some a:=by
   have e1:ys[i]?=(ys.drop i)[0]?:=by simp
   have e2:xs[i]?=(xs.drop i)[0]?:=by simp
   rw[e1,hd,←e2,ha]
  have hf:=qgu (fun a=>!p a) ha
  have hle:=qhV (fun a=>!p a) xs i
  have hdn:ys.drop (i+1)=xs.drop (i+1):=by
   have:=congrArg (List.drop 1) hd
   simpa[List.drop_drop,Nat.add_comm]using this
  cases h:p a with
  | true=>
   rw[h]at hf
   simp only[zY,zam,zcp,zbe]at hf
   obtain⟨zs,h1,h2,h3⟩:=qkL xs p g caps hl hc hp n (i+1) ys (by omega) hy hdn (by rw[hf];exact ht)
   rw[hf]at h1
   exact⟨zs,.more (qxv _ _ _ _ _ _ _ _ _ _ ⟨dT (by simp;omega),lt0,by simp;omega,qac Cell.e hya,hc,hp a (qaq ha) true h,rfl,⟨by omega,by omega⟩,trivial⟩) h1,h2,h3⟩
  | false=>
   rw[h]at hf
   simp only[zaz,zaw]at hf
   generalize hj:((xs.take i).filter fun a=>!p a).length=j at*
   obtain⟨b,hb⟩:=qah (xs:=ys) (i:=j) (by omega)
   obtain⟨zs,h1,h2,h3⟩:=qkL xs p g caps hl hc hp n (i+1) (ys.set j a) (by omega) (by simpa using hy) (by rw[List.drop_set_of_lt (by omega)];exact hdn) (by
    rw[hf,zaf,hj,List.length_singleton,List.take_set,←ht]
    have hjl:j<ys.length:=by omega
    rw[List.take_succ_eq_append_getElem hjl,List.set_append_right _ _ (by simp;omega)]
    simp[zay,Nat.min_eq_left (Nat.le_of_lt hjl)])
   rw[hf,zaf,hj,List.length_singleton]at h1
   refine⟨zs,.more (tr_to (fun l=>qdH g caps ((i+1:Nat):Int) ((j+1:Nat):Int) l) (qxu _ _ _ _ _ _ _ _ _ _ _ _ _ _ ⟨dT (by simp;omega),lt0,by simp;omega,qac Cell.e hya,hc,hp a (qaq ha) false h,rfl,lt0,by simp;omega,qac Cell.e hb,⟨by omega,by omega⟩,⟨by omega,by omega⟩,trivial⟩) ?_) h1,h2,h3⟩
   show List.set _ _ a.e=_
   rw[zbb,←zaq]
theorem qGS(xs:List Cell)(p:Cell→Bool)(g:Nat)(caps:List D)(hl:xs.length≤8388608)(hc:qa6 prog g=true)(hp:∀x∈xs,Rt g ([.agg x.e]++caps.map .one) [.one (B (p x))]):
  RetG prog 256 [.one (.gv 4 (xs.map Cell.e) none),.one (.ro (.cl g caps))] [.one (.sl 4 ((xs.filter fun a=>!p a).map Cell.e))]:=by
 have hp':∀x∈xs,∀r,p x=r→Rt g ([.agg x.e]++caps.map .one) [.one (B r)]:=fun x hx r h=>h▸hp x hx
 have ix:=qyB xs p g caps hl hc hp
 unfold idxI at ix
 cases h:xs.findIdx? p with
 | none=>
  rw[h]at ix
  rw[zbr]at h
  have e:(xs.filter fun a=>!p a)=xs:=List.filter_eq_self.2 fun a ha=>by simp[h a ha]
  rw[e]
  exact qxt _ _ _ _ ⟨ix,rfl,trivial⟩
 | some i=>
  rw[h]at ix
  change Ret _ _ _ [.one (I (i:Int))]at ix
  rw[zad]at h
  obtain⟨hi,h2,h3⟩:=h
  have hx:xs[i]?=some xs[i]:=zt hi
  have e0:(xs.take i).filter (fun a=>!p a)=xs.take i:=List.filter_eq_self.2 fun a ha=>by
   obtain⟨j,hj,rfl⟩:=List.getElem_of_mem ha
   have hji:j<i:=by simp at hj;omega
   have:=h3 j hji
   simpa using this
  have e1:=qgu (fun a=>!p a) hx
  rw[h2]at e1
  simp only[zY,zam,zcp,zbe]at e1
  rw[e0]at e1
  have e2:(xs.take i).length=i:=by rw[zay];omega
  obtain⟨zs,l,hz,ht⟩:=qkL xs p g caps hl hc hp' (xs.length-(i+1)) (i+1) xs (by omega) rfl rfl (by rw[e1,e2])
  rw[e1,e2]at l
  have hlt:(xs.filter fun a=>!p a).length<xs.length:=by
   have e3:xs.filter (fun a=>!p a)=xs.take i++(xs.drop (i+1)).filter fun a=>!p a:=by
    have:=zca (i+1) xs
    rw[←this,List.filter_append,this,e1]
   rw[e3,zaf,e2]
   have:=zax (fun a=>!p a) (xs.drop (i+1))
   rw[List.length_drop]at this
   omega
  generalize xs.filter (fun a=>!p a)=fs at*
  refine qGR (qxx _ _ _ _ _ _ ⟨ix,zbp.2 (by omega),⟨by omega,by omega⟩,l,by simp,by simp;omega,qae _ Cell.flat _,by simp,by simp,by simp;omega,trivial⟩) ?_
  simp only[zU,zbb,Nat.sub_zero,zcj,←zcn]
  rw[ht,zbv (by simp),zbi (by simp)]
def qaL(k:Int):Bool:=k==5||k==6||k==8
def qbj(xs:List Cell)(x:Cell):List Cell×Bool:=
 if (qcR xs x.op x.epoch x.key).2&&decide ((qcR xs x.op x.epoch x.key).1≤x.val) then (xs,false) else (qbv (xs.filter fun a=>!qax x a) x,true)
def qaj(kind:Int)(xs:List Cell)(x:Cell):List Cell×Bool:=
 if kind=6 then (if qcm xs x then (xs,false) else (qbv xs x,true))
 else if kind=5∨kind=8 then qbj xs x
 else (xs,true)
theorem qoV(k:Int):Rt 236 [.one (I k)] [.one (B (qaL k))]:=by
 rcases zd (k==5) with h1 | h1
 ·skip
  rw[show qaL k=true from by grind[qaL]]
  exact qya ⟨h1,trivial⟩
 ·skip
  rcases zd (k==6) with h2 | h2
  ·skip
   rw[show qaL k=true from by grind[qaL]]
   exact qyb ⟨h1,h2,trivial⟩
  ·skip
   rw[show qaL k=(k==8) from by grind[qaL]]
   exact qyc ⟨h1,h2,trivial⟩
theorem qoW(xs:List Cell)(x:Cell)(hl:xs.length≤8388608):Rt 249 [.one (.sl 4 (xs.map Cell.e)),.agg x.e] [.one (.sl 4 ((qbj xs x).1.map Cell.e)),.one (B (qbj xs x).2)]:=by
 have c:=qGQ xs x.op x.epoch x.key hl
 have cp:=qdI xs hl
 have d:=qGS xs (qax x) 257 [D.ptr x.e] hl (by kernel_rfl) (fun y _=>qxs ⟨qoT x y,trivial⟩)
 have pc:=qor (xs.filter fun a=>!qax x a) x (zcd (zax ..) hl)
 unfold qbj
 generalize qcR xs x.op x.epoch x.key=m at*
 obtain⟨v,f⟩:=m
 cases f with
 | false=>exact qxG ⟨c,rfl,cp,d,pc,trivial⟩
 | true=>
  by_cases h:v≤x.val
  ·rw[dT h]
   exact qxE ⟨c,rfl,dT h,cp,trivial⟩
  ·rw[dF h]
   exact qxF ⟨c,rfl,dF h,cp,d,pc,trivial⟩
theorem qGT(xs acc:List Cell)(x:Cell)(hl:xs.length≤8388608)(i:Nat)(hc:acc.length≤i)(a:Cell)(ha:xs[i]?=some a):Tr prog (qaa f237 0) (qbL (xs.map Cell.e) x.op x.epoch x.key x.val i (acc.map Cell.e)) .normal (qbL (xs.map Cell.e) x.op x.epoch x.key x.val ((i+1:Nat):Int) ((acc++(bif qax x a then [] else [a])).map Cell.e)):=by
 have hj:=lt_of ha
 have hk1:xs[(i:Int).toNat]?=some a:=by simpa using ha
 have hj1:decide ((i:Int)<(↑(xs.map Cell.e).length:Int))=true:=lt1 hj
 rcases zd (a.op != x.op) with h1 | h1
 ·skip
  have hs:qax x a=false:=by grind[qax]
  rw[hs]
  rw[show (acc++(bif false then [] else [a])).map Cell.e=acc.map Cell.e++[a.e] from by simp]
  exact qyg ⟨hj1,(by first | omega | (simp only[zb,zr,zh];omega) | exact qas a.flat | (exact⟨by omega,by omega⟩)),(by first | omega | (simp only[zb,zr,zh];omega) | exact qas a.flat | (exact⟨by omega,by omega⟩)),(qad Cell.e hk1),h1,(by first | omega | (simp only[zb,zr,zh];omega) | exact qas a.flat | (exact⟨by omega,by omega⟩)),(by first | omega | (simp only[zb,zr,zh];omega) | exact qas a.flat | (exact⟨by omega,by omega⟩)),(qad Cell.e hk1),(by first | omega | (simp only[zb,zr,zh];omega) | exact qas a.flat | (exact⟨by omega,by omega⟩)),(by first | omega | (simp only[zb,zr,zh];omega) | exact qas a.flat | (exact⟨by omega,by omega⟩)),(by first | omega | (simp only[zb,zr,zh];omega) | exact qas a.flat | (exact⟨by omega,by omega⟩)),(by first | omega | (simp only[zb,zr,zh];omega) | exact qas a.flat | (exact⟨by omega,by omega⟩)),trivial⟩
 ·skip
  rcases zd (a.epoch != x.epoch) with h2 | h2
  ·skip
   have hs:qax x a=false:=by grind[qax]
   rw[hs]
   rw[show (acc++(bif false then [] else [a])).map Cell.e=acc.map Cell.e++[a.e] from by simp]
   exact qyh ⟨hj1,(by first | omega | (simp only[zb,zr,zh];omega) | exact qas a.flat | (exact⟨by omega,by omega⟩)),(by first | omega | (simp only[zb,zr,zh];omega) | exact qas a.flat | (exact⟨by omega,by omega⟩)),(qad Cell.e hk1),h1,(by first | omega | (simp only[zb,zr,zh];omega) | exact qas a.flat | (exact⟨by omega,by omega⟩)),(by first | omega | (simp only[zb,zr,zh];omega) | exact qas a.flat | (exact⟨by omega,by omega⟩)),(qad Cell.e hk1),h2,(by first | omega | (simp only[zb,zr,zh];omega) | exact qas a.flat | (exact⟨by omega,by omega⟩)),(by first | omega | (simp only[zb,zr,zh];omega) | exact qas a.flat | (exact⟨by omega,by omega⟩)),(qad Cell.e hk1),(by first | omega | (simp only[zb,zr,zh];omega) | exact qas a.flat | (exact⟨by omega,by omega⟩)),(by first | omega | (simp only[zb,zr,zh];omega) | exact qas a.flat | (exact⟨by omega,by omega⟩)),(by first | omega | (simp only[zb,zr,zh];omega) | exact qas a.flat | (exact⟨by omega,by omega⟩)),(by first | omega | (simp only[zb,zr,zh];omega) | exact qas a.flat | (exact⟨by omega,by omega⟩)),trivial⟩
  ·skip
   rcases zd (a.key != x.key) with h3 | h3
   ·skip
    have hs:qax x a=false:=by grind[qax]
    rw[hs]
    rw[show (acc++(bif false then [] else [a])).map Cell.e=acc.map Cell.e++[a.e] from by simp]
    exact qyi ⟨hj1,(by first | omega | (simp only[zb,zr,zh];omega) | exact qas a.flat | (exact⟨by omega,by omega⟩)),(by first | omega | (simp only[zb,zr,zh];omega) | exact qas a.flat | (exact⟨by omega,by omega⟩)),(qad Cell.e hk1),h1,(by first | omega | (simp only[zb,zr,zh];omega) | exact qas a.flat | (exact⟨by omega,by omega⟩)),(by first | omega | (simp only[zb,zr,zh];omega) | exact qas a.flat | (exact⟨by omega,by omega⟩)),(qad Cell.e hk1),h2,(by first | omega | (simp only[zb,zr,zh];omega) | exact qas a.flat | (exact⟨by omega,by omega⟩)),(by first | omega | (simp only[zb,zr,zh];omega) | exact qas a.flat | (exact⟨by omega,by omega⟩)),(qad Cell.e hk1),h3,(by first | omega | (simp only[zb,zr,zh];omega) | exact qas a.flat | (exact⟨by omega,by omega⟩)),(by first | omega | (simp only[zb,zr,zh];omega) | exact qas a.flat | (exact⟨by omega,by omega⟩)),(qad Cell.e hk1),(by first | omega | (simp only[zb,zr,zh];omega) | exact qas a.flat | (exact⟨by omega,by omega⟩)),(by first | omega | (simp only[zb,zr,zh];omega) | exact qas a.flat | (exact⟨by omega,by omega⟩)),(by first | omega | (simp only[zb,zr,zh];omega) | exact qas a.flat | (exact⟨by omega,by omega⟩)),(by first | omega | (simp only[zb,zr,zh];omega) | exact qas a.flat | (exact⟨by omega,by omega⟩)),trivial⟩
   ·skip
    have hs:qax x a=true:=by grind[qax]
    rw[hs]
    rw[show (acc++(bif true then [] else [a])).map Cell.e=acc.map Cell.e from by simp]
    exact qyj ⟨hj1,(by first | omega | (simp only[zb,zr,zh];omega) | exact qas a.flat | (exact⟨by omega,by omega⟩)),(by first | omega | (simp only[zb,zr,zh];omega) | exact qas a.flat | (exact⟨by omega,by omega⟩)),(qad Cell.e hk1),h1,(by first | omega | (simp only[zb,zr,zh];omega) | exact qas a.flat | (exact⟨by omega,by omega⟩)),(by first | omega | (simp only[zb,zr,zh];omega) | exact qas a.flat | (exact⟨by omega,by omega⟩)),(qad Cell.e hk1),h2,(by first | omega | (simp only[zb,zr,zh];omega) | exact qas a.flat | (exact⟨by omega,by omega⟩)),(by first | omega | (simp only[zb,zr,zh];omega) | exact qas a.flat | (exact⟨by omega,by omega⟩)),(qad Cell.e hk1),h3,(by first | omega | (simp only[zb,zr,zh];omega) | exact qas a.flat | (exact⟨by omega,by omega⟩)),trivial⟩
theorem qGU(p:Cell→Bool){xs:List Cell}{i:Nat}{a:Cell}(h:xs[i]?=some a):(xs.take (i+1)).filter (fun b=>!p b)=(xs.take i).filter (fun b=>!p b)++(bif p a then [] else [a]):=by
 rw[qgu _ h]
 cases p a<;>rfl
theorem qii(xs:List Cell)(x:Cell)(hl:xs.length≤8388608):qam prog (qaa f237 0) (qbL (xs.map Cell.e) x.op x.epoch x.key x.val 0 []) (.exit 1) (qfN x.op x.epoch x.key x.val ((xs.filter fun a=>!qax x a).map Cell.e)):=by
 have l:=qat (P:=prog) (c:=(qaa f237 0)) (qaf 1) xs.length (fun i:Nat=>qbL (xs.map Cell.e) x.op x.epoch x.key x.val i (((xs.take i).filter fun a=>!qax x a).map Cell.e)) (fun i hi=>by
  obtain⟨a,ha⟩:=qah hi
  rw[qGU (qax x) ha]
  exact qGT xs _ x hl i (qhV _ xs i) a ha) (qyk ⟨ge1,trivial⟩)
 rw[zG]at l
 exact l
theorem qoX(kind:Int)(xs:List Cell)(x:Cell)(hl:xs.length≤8388608):Rt 237 [.one (I kind),.one (.sl 4 (xs.map Cell.e)),.agg x.e] [.one (.sl 4 (((qaj kind xs x).1).map Cell.e)),.one (B ((qaj kind xs x).2))]:=by
 have hf:=zax (fun a=>!qax x a) xs
 rcases zd (kind==6) with h1 | h1
 ·skip
  have c2:=qon xs x (by omega)
  rcases zd (qcm xs x) with h3 | h3
  ·skip
   rw[show qaj kind xs x=(xs,false) from by grind[qaj,qbj]]
   exact qyd ⟨(by first | omega | (simp only[zb,zh];omega) | exact qae _ Cell.flat _ | grind[inInt]),(by first | omega | (simp only[zb,zh];omega) | exact qae _ Cell.flat _ | grind[inInt]),(by first | omega | (simp only[zb,zh];omega) | exact qae _ Cell.flat _ | grind[inInt]),h1,c2,h3,trivial⟩
  ·skip
   have c4:=qgK xs x (by omega)
   rw[show qaj kind xs x=((qbv xs x),true) from by grind[qaj,qbj]]
   exact qye ⟨(by first | omega | (simp only[zb,zh];omega) | exact qae _ Cell.flat _ | grind[inInt]),(by first | omega | (simp only[zb,zh];omega) | exact qae _ Cell.flat _ | grind[inInt]),(by first | omega | (simp only[zb,zh];omega) | exact qae _ Cell.flat _ | grind[inInt]),h1,c2,h3,c4,trivial⟩
 ·skip
  rcases zd (kind==5) with h5 | h5
  ·skip
   have c6:=qoU xs x.op x.epoch x.key (by omega)
   rcases zd ((qcR xs x.op x.epoch x.key).2) with h7 | h7
   ·skip
    rcases zd (decide (((qcR xs x.op x.epoch x.key).1)≤x.val)) with h8 | h8
    ·skip
     rw[show qaj kind xs x=(xs,false) from by grind[qaj,qbj]]
     exact qyf ⟨(by first | omega | (simp only[zb,zh];omega) | exact qae _ Cell.flat _ | grind[inInt]),(by first | omega | (simp only[zb,zh];omega) | exact qae _ Cell.flat _ | grind[inInt]),(by first | omega | (simp only[zb,zh];omega) | exact qae _ Cell.flat _ | grind[inInt]),h1,h5,h5,c6,h7,h8,trivial⟩
    ·skip
     
     have c9:=qgK (xs.filter fun a=>!qax x a) x (by omega)
     rw[show qaj kind xs x=((qbv (xs.filter fun a=>!qax x a) x),true) from by grind[qaj,qbj]]
     exact qyl ⟨(by first | omega | (simp only[zb,zh];omega) | exact qae _ Cell.flat _ | grind[inInt]),(by first | omega | (simp only[zb,zh];omega) | exact qae _ Cell.flat _ | grind[inInt]),(by first | omega | (simp only[zb,zh];omega) | exact qae _ Cell.flat _ | grind[inInt]),h1,h5,h5,c6,h7,h8,(qii xs x hl),c9,trivial⟩
   ·skip
    
    have c10:=qgK (xs.filter fun a=>!qax x a) x (by omega)
    rw[show qaj kind xs x=((qbv (xs.filter fun a=>!qax x a) x),true) from by grind[qaj,qbj]]
    exact qym ⟨(by first | omega | (simp only[zb,zh];omega) | exact qae _ Cell.flat _ | grind[inInt]),(by first | omega | (simp only[zb,zh];omega) | exact qae _ Cell.flat _ | grind[inInt]),(by first | omega | (simp only[zb,zh];omega) | exact qae _ Cell.flat _ | grind[inInt]),h1,h5,h5,c6,h7,(qii xs x hl),c10,trivial⟩
  ·skip
   rcases zd (kind==8) with h11 | h11
   ·skip
    have c12:=qoU xs x.op x.epoch x.key (by omega)
    rcases zd ((qcR xs x.op x.epoch x.key).2) with h13 | h13
    ·skip
     rcases zd (decide (((qcR xs x.op x.epoch x.key).1)≤x.val)) with h14 | h14
     ·skip
      rw[show qaj kind xs x=(xs,false) from by grind[qaj,qbj]]
      exact qyn ⟨(by first | omega | (simp only[zb,zh];omega) | exact qae _ Cell.flat _ | grind[inInt]),(by first | omega | (simp only[zb,zh];omega) | exact qae _ Cell.flat _ | grind[inInt]),(by first | omega | (simp only[zb,zh];omega) | exact qae _ Cell.flat _ | grind[inInt]),h1,h5,h11,c12,h13,h14,trivial⟩
     ·skip
      
      have c15:=qgK (xs.filter fun a=>!qax x a) x (by omega)
      rw[show qaj kind xs x=((qbv (xs.filter fun a=>!qax x a) x),true) from by grind[qaj,qbj]]
      exact qyo ⟨(by first | omega | (simp only[zb,zh];omega) | exact qae _ Cell.flat _ | grind[inInt]),(by first | omega | (simp only[zb,zh];omega) | exact qae _ Cell.flat _ | grind[inInt]),(by first | omega | (simp only[zb,zh];omega) | exact qae _ Cell.flat _ | grind[inInt]),h1,h5,h11,c12,h13,h14,(qii xs x hl),c15,trivial⟩
    ·skip
     
     have c16:=qgK (xs.filter fun a=>!qax x a) x (by omega)
     rw[show qaj kind xs x=((qbv (xs.filter fun a=>!qax x a) x),true) from by grind[qaj,qbj]]
     exact qyp ⟨(by first | omega | (simp only[zb,zh];omega) | exact qae _ Cell.flat _ | grind[inInt]),(by first | omega | (simp only[zb,zh];omega) | exact qae _ Cell.flat _ | grind[inInt]),(by first | omega | (simp only[zb,zh];omega) | exact qae _ Cell.flat _ | grind[inInt]),h1,h5,h11,c12,h13,(qii xs x hl),c16,trivial⟩
   ·skip
    rw[show qaj kind xs x=(xs,true) from by grind[qaj,qbj]]
    exact qyq ⟨(by first | omega | (simp only[zb,zh];omega) | exact qae _ Cell.flat _ | grind[inInt]),(by first | omega | (simp only[zb,zh];omega) | exact qae _ Cell.flat _ | grind[inInt]),(by first | omega | (simp only[zb,zh];omega) | exact qae _ Cell.flat _ | grind[inInt]),h1,h5,h11,trivial⟩
theorem qoY(kind:Int)(xs:List Cell)(x:Cell)(hl:xs.length≤8388608):Rt 240 [.one (I kind),.one (.sl 4 (xs.map Cell.e)),.agg x.e] [.one (.sl 4 (((qaj kind xs x).1).map Cell.e)),.one (B ((qaj kind xs x).2))]:=by
 rcases zd (kind==5) with h1 | h1
 ·skip
  have c2:=qoW xs x (by omega)
  rw[show qaj kind xs x=(((qbj xs x).1),(qbj xs x).2) from by grind[qaj,qbj,qbv]]
  exact qxH ⟨h1,h1,c2,trivial⟩
 ·skip
  rcases zd (kind==8) with h3 | h3
  ·skip
   have c4:=qoW xs x (by omega)
   rw[show qaj kind xs x=(((qbj xs x).1),(qbj xs x).2) from by grind[qaj,qbj,qbv]]
   exact qxI ⟨h1,h3,c4,trivial⟩
  ·skip
   rcases zd (kind==6) with h5 | h5
   ·skip
    have c6:=qor xs x (by omega)
    have c7:=qop xs x (by omega)
    rw[show qaj kind xs x=((qbv xs x),!(qcm xs x)) from by grind[qaj,qbj,qbv]]
    exact qxJ ⟨h1,h3,h5,c6,c7,trivial⟩
   ·skip
    have c8:=qdI xs (by omega)
    rw[show qaj kind xs x=(xs,true) from by grind[qaj,qbj,qbv]]
    exact qxK ⟨h1,h3,h5,c8,trivial⟩
def sends(x:Node)(s:Stamp)(key val:Int):List Record:=x.outs.map fun k=>⟨k,s,key,val⟩
def cellOf(r:Record):Cell:=⟨r.op,r.stamp.epoch,r.key,r.val⟩
def qar(g:Graph)(cs:List Cell)(r:Record)(x:Node):List Cell×List Record×Bool:=
 if qaw g&&qaF r then
  if !(qag x r.key r.val).2.2&&x.kind != 8 then (cs,[],true)
  else if !(qaj x.kind cs ⟨r.op,r.stamp.epoch,r.key,r.val⟩).2 then ((qaj x.kind cs ⟨r.op,r.stamp.epoch,r.key,r.val⟩).1,[],true)
  else if x.kind=7 then
   ((qaj x.kind cs ⟨r.op,r.stamp.epoch,r.key,r.val⟩).1,(bif (qaA r.stamp).2 then sends x (qaA r.stamp).1 (qag x r.key r.val).1 (qag x r.key r.val).2.1 else []),true)
  else ((qaj x.kind cs ⟨r.op,r.stamp.epoch,r.key,r.val⟩).1,sends x r.stamp (qag x r.key r.val).1 (qag x r.key r.val).2.1,true)
 else (cs,[],false)
theorem qf0(x:Node)(s:Stamp)(key val:Int){i:Nat}{k:Int}(h:x.outs[i]?=some k):(((x.outs.take (i+1)).map fun k=>(⟨k,s,key,val⟩:Record)).map Record.e)=(((x.outs.take i).map fun k=>(⟨k,s,key,val⟩:Record)).map Record.e)++[(⟨k,s,key,val⟩:Record).e]:=by
 simp[zbj,h]
theorem qoZ(x:Node)(hx:x.outs.length≤8388608)(s:Stamp)(key val:Int)(nx:List (List D)):qam prog (qaa f210 0) (qeU x.kind x.a x.b (x.outs.map eI) key val nx s.epoch s.turn 0 []) (.exit 0) (qdV nx ((sends x s key val).map Record.e)):=by
 have l:=qat (P:=prog) (c:=(qaa f210 0)) (qaf 0) x.outs.length (fun i:Nat=>qeU x.kind x.a x.b (x.outs.map eI) key val nx s.epoch s.turn i (((x.outs.take i).map fun k=>(⟨k,s,key,val⟩:Record)).map Record.e)) (fun i hi=>by
  obtain⟨k,hk⟩:=qah hi
  rw[qf0 x s key val hk]
  exact qHg ⟨lt1 hi,lt0,lt2 hi,qac eI hk,by simp;omega,by simp;omega,qas (Record.flat ⟨k,s,key,val⟩),up1 hi hx,trivial⟩) (qHh ⟨ge1,trivial⟩)
 rw[zG]at l
 exact l
theorem qo0(x:Node)(hx:x.outs.length≤8388608)(s:Stamp)(key val:Int)(nx:List (List D)):qam prog (qaa f210 0) (qeV s.epoch s.turn x.kind x.a x.b (x.outs.map eI) key val nx 0 []) (.exit 0) (qdV nx ((sends x s key val).map Record.e)):=by
 have l:=qat (P:=prog) (c:=(qaa f210 0)) (qaf 0) x.outs.length (fun i:Nat=>qeV s.epoch s.turn x.kind x.a x.b (x.outs.map eI) key val nx i (((x.outs.take i).map fun k=>(⟨k,s,key,val⟩:Record)).map Record.e)) (fun i hi=>by
  obtain⟨k,hk⟩:=qah hi
  rw[qf0 x s key val hk]
  exact qHj ⟨lt1 hi,lt0,lt2 hi,qac eI hk,by simp;omega,by simp;omega,qas (Record.flat ⟨k,s,key,val⟩),up1 hi hx,trivial⟩) (qHk ⟨ge1,trivial⟩)
 rw[zG]at l
 exact l
theorem qo1(x:Node)(hx:x.outs.length≤8388608)(s:Stamp)(key val:Int)(nx:List (List D)):qam prog (qaa f210 0) (qeW nx x.kind x.a x.b (x.outs.map eI) key val s.epoch s.turn 0 []) (.exit 0) (qdW nx ((sends x s key val).map Record.e)):=by
 have l:=qat (P:=prog) (c:=(qaa f210 0)) (qaf 0) x.outs.length (fun i:Nat=>qeW nx x.kind x.a x.b (x.outs.map eI) key val s.epoch s.turn i (((x.outs.take i).map fun k=>(⟨k,s,key,val⟩:Record)).map Record.e)) (fun i hi=>by
  obtain⟨k,hk⟩:=qah hi
  rw[qf0 x s key val hk]
  exact qHn ⟨lt1 hi,lt0,lt2 hi,qac eI hk,by simp;omega,by simp;omega,qas (Record.flat ⟨k,s,key,val⟩),up1 hi hx,trivial⟩) (qHo ⟨ge1,trivial⟩)
 rw[zG]at l
 exact l
theorem qo2(x:Node)(hx:x.outs.length≤8388608)(s:Stamp)(key val:Int)(nx:List (List D)):qam prog (qaa f210 0) (qeX nx s.epoch s.turn x.kind x.a x.b (x.outs.map eI) key val 0 []) (.exit 0) (qdW nx ((sends x s key val).map Record.e)):=by
 have l:=qat (P:=prog) (c:=(qaa f210 0)) (qaf 0) x.outs.length (fun i:Nat=>qeX nx s.epoch s.turn x.kind x.a x.b (x.outs.map eI) key val i (((x.outs.take i).map fun k=>(⟨k,s,key,val⟩:Record)).map Record.e)) (fun i hi=>by
  obtain⟨k,hk⟩:=qah hi
  rw[qf0 x s key val hk]
  exact qHq ⟨lt1 hi,lt0,lt2 hi,qac eI hk,by simp;omega,by simp;omega,qas (Record.flat ⟨k,s,key,val⟩),up1 hi hx,trivial⟩) (qHr ⟨ge1,trivial⟩)
 rw[zG]at l
 exact l
theorem qo3(x:Node)(hx:x.outs.length≤8388608)(s:Stamp)(key val:Int)(nx:List (List D)):qam prog (qaa f218 0) (qeY s.epoch s.turn (x.outs.map eI) key val nx 0 []) (.exit 0) (qdX nx ((sends x s key val).map Record.e)):=by
 have l:=qat (P:=prog) (c:=(qaa f218 0)) (qaf 0) x.outs.length (fun i:Nat=>qeY s.epoch s.turn (x.outs.map eI) key val nx i (((x.outs.take i).map fun k=>(⟨k,s,key,val⟩:Record)).map Record.e)) (fun i hi=>by
  obtain⟨k,hk⟩:=qah hi
  rw[qf0 x s key val hk]
  exact qHG ⟨lt1 hi,lt0,lt2 hi,qac eI hk,rfl,by simp;omega,by simp;omega,qas (Record.flat ⟨k,s,key,val⟩),up1 hi hx,trivial⟩) (qHH ⟨ge1,trivial⟩)
 rw[zG]at l
 exact l
theorem qo4(x:Node)(hx:x.outs.length≤8388608)(b:Bool)(s:Stamp)(key val:Int)(nx:List (List D)):qam prog (qaa f218 0) (qdd (x.outs.map eI) key val nx s.epoch s.turn b 0 []) (.exit 0) (qdX nx ((bif b then sends x s key val else []).map Record.e)):=by
 cases b with
 | true=>
  have l:=qat (P:=prog) (c:=(qaa f218 0)) (qaf 0) x.outs.length (fun i:Nat=>qdd (x.outs.map eI) key val nx s.epoch s.turn true i (((x.outs.take i).map fun k=>(⟨k,s,key,val⟩:Record)).map Record.e)) (fun i hi=>by
   obtain⟨k,hk⟩:=qah hi
   rw[qf0 x s key val hk]
   exact qHD ⟨lt1 hi,lt0,lt2 hi,qac eI hk,rfl,by simp;omega,by simp;omega,qas (Record.flat ⟨k,s,key,val⟩),up1 hi hx,trivial⟩) (qo7 ⟨ge1,trivial⟩)
  rw[zG]at l
  exact l
 | false=>
  exact qat (P:=prog) (c:=(qaa f218 0)) (qaf 0) x.outs.length (fun i:Nat=>qdd (x.outs.map eI) key val nx s.epoch s.turn false i []) (fun i hi=>by
   obtain⟨k,hk⟩:=qah hi
   exact qHE ⟨lt1 hi,lt0,lt2 hi,qac eI hk,rfl,up1 hi hx,trivial⟩) (qo7 ⟨ge1,trivial⟩)
theorem qGV(g:Graph)(cs:List Cell)(r:Record)(x:Node)(hg:g.sz≤8388608)(hl:cs.length≤8388608)(hn:qaM g r.op=some x):Rt 210 [.agg g.e,.one (.sl 4 (cs.map Cell.e)),.agg r.e] [.one (.sl 4 ((qar g cs r x).1.map Cell.e)),.one (.sl 5 ((qar g cs r x).2.1.map Record.e)),.one (B (qar g cs r x).2.2)]:=by
 have hx:=Graph.outs_le hg (qkj hn)
 obtain⟨hk0,hk2,_,_⟩:=qh1 hn
 have hk1:g.nodes[r.op.toNat]?=some x:=by have:=hn;unfold qaM at this;rwa[zq hk0]at this
 have c1:=qh3 g r.op (x,true) (by unfold qdJ;rw[hn]) hg
 have c2:=qkK g hg
 rcases zd (qaw g) with h3 | h3
 ·skip
  have c4:=qeT r
  rcases zd (qaF r) with h5 | h5
  ·skip
   have c6:=qGM x r.key r.val hx
   rcases zd ((qag x r.key r.val).2.2) with h7 | h7
   ·skip
    have c8:=qoV x.kind
    rcases zd (qaL x.kind) with h9 | h9
    ·skip
     have c10:=qoX x.kind cs (⟨r.op,r.stamp.epoch,r.key,r.val⟩:Cell) (by omega)
     rcases zd ((qaj x.kind cs (⟨r.op,r.stamp.epoch,r.key,r.val⟩:Cell)).2) with h11 | h11
     ·skip
      rcases zd (x.kind==7) with h12 | h12
      ·skip
       have c13:=qfY r.stamp
       rcases zd ((qaA r.stamp).2) with h14 | h14
       ·skip
        
        rw[show qar g cs r x=(((qaj x.kind cs (⟨r.op,r.stamp.epoch,r.key,r.val⟩:Cell)).1),(sends x ((qaA r.stamp).1) ((qag x r.key r.val).1) ((qag x r.key r.val).2.1)),true) from by grind[qar,qaL,qaj]]
        exact qHv ⟨(by first | omega | (simp only[zb,zh];omega) | exact qae _ Cell.flat _ | grind[inInt]),(by first | omega | (simp only[zb,zh];omega) | exact qae _ Cell.flat _ | grind[inInt]),(by first | omega | (simp only[zb,zh];omega) | exact qae _ Cell.flat _ | grind[inInt]),c1,rfl,c2,(by rw[h3];rfl),c4,(by rw[h5];rfl),c6,(by rw[h7];rfl),c8,h9,c10,(by rw[h11];rfl),h12,c13,(by rw[h14];rfl),(qoZ x hx ((qaA r.stamp).1) ((qag x r.key r.val).1) ((qag x r.key r.val).2.1) _),trivial⟩
       ·skip
        rw[show qar g cs r x=(((qaj x.kind cs (⟨r.op,r.stamp.epoch,r.key,r.val⟩:Cell)).1),([]:List Record),true) from by grind[qar,qaL,qaj]]
        exact qHu ⟨(by first | omega | (simp only[zb,zh];omega) | exact qae _ Cell.flat _ | grind[inInt]),(by first | omega | (simp only[zb,zh];omega) | exact qae _ Cell.flat _ | grind[inInt]),(by first | omega | (simp only[zb,zh];omega) | exact qae _ Cell.flat _ | grind[inInt]),c1,rfl,c2,(by rw[h3];rfl),c4,(by rw[h5];rfl),c6,(by rw[h7];rfl),c8,h9,c10,(by rw[h11];rfl),h12,c13,(by rw[h14];rfl),trivial⟩
      ·skip
       
       rw[show qar g cs r x=(((qaj x.kind cs (⟨r.op,r.stamp.epoch,r.key,r.val⟩:Cell)).1),(sends x r.stamp ((qag x r.key r.val).1) ((qag x r.key r.val).2.1)),true) from by grind[qar,qaL,qaj]]
       exact qHw ⟨(by first | omega | (simp only[zb,zh];omega) | exact qae _ Cell.flat _ | grind[inInt]),(by first | omega | (simp only[zb,zh];omega) | exact qae _ Cell.flat _ | grind[inInt]),(by first | omega | (simp only[zb,zh];omega) | exact qae _ Cell.flat _ | grind[inInt]),c1,rfl,c2,(by rw[h3];rfl),c4,(by rw[h5];rfl),c6,(by rw[h7];rfl),c8,h9,c10,(by rw[h11];rfl),h12,(qo0 x hx r.stamp ((qag x r.key r.val).1) ((qag x r.key r.val).2.1) _),trivial⟩
     ·skip
      rw[show qar g cs r x=(((qaj x.kind cs (⟨r.op,r.stamp.epoch,r.key,r.val⟩:Cell)).1),([]:List Record),true) from by grind[qar,qaL,qaj]]
      exact qHt ⟨(by first | omega | (simp only[zb,zh];omega) | exact qae _ Cell.flat _ | grind[inInt]),(by first | omega | (simp only[zb,zh];omega) | exact qae _ Cell.flat _ | grind[inInt]),(by first | omega | (simp only[zb,zh];omega) | exact qae _ Cell.flat _ | grind[inInt]),c1,rfl,c2,(by rw[h3];rfl),c4,(by rw[h5];rfl),c6,(by rw[h7];rfl),c8,h9,c10,(by rw[h11];rfl),trivial⟩
    ·skip
     rcases zd (x.kind==7) with h15 | h15
     ·skip
      have c16:=qfY r.stamp
      rcases zd ((qaA r.stamp).2) with h17 | h17
      ·skip
       
       rw[show qar g cs r x=(cs,(sends x ((qaA r.stamp).1) ((qag x r.key r.val).1) ((qag x r.key r.val).2.1)),true) from by grind[qar,qaL,qaj]]
       exact qHy ⟨(by first | omega | (simp only[zb,zh];omega) | exact qae _ Cell.flat _ | grind[inInt]),(by first | omega | (simp only[zb,zh];omega) | exact qae _ Cell.flat _ | grind[inInt]),(by first | omega | (simp only[zb,zh];omega) | exact qae _ Cell.flat _ | grind[inInt]),c1,rfl,c2,(by rw[h3];rfl),c4,(by rw[h5];rfl),c6,(by rw[h7];rfl),c8,h9,h15,c16,(by rw[h17];rfl),(qo1 x hx ((qaA r.stamp).1) ((qag x r.key r.val).1) ((qag x r.key r.val).2.1) _),trivial⟩
      ·skip
       rw[show qar g cs r x=(cs,([]:List Record),true) from by grind[qar,qaL,qaj]]
       exact qHx ⟨(by first | omega | (simp only[zb,zh];omega) | exact qae _ Cell.flat _ | grind[inInt]),(by first | omega | (simp only[zb,zh];omega) | exact qae _ Cell.flat _ | grind[inInt]),(by first | omega | (simp only[zb,zh];omega) | exact qae _ Cell.flat _ | grind[inInt]),c1,rfl,c2,(by rw[h3];rfl),c4,(by rw[h5];rfl),c6,(by rw[h7];rfl),c8,h9,h15,c16,(by rw[h17];rfl),trivial⟩
     ·skip
      
      rw[show qar g cs r x=(cs,(sends x r.stamp ((qag x r.key r.val).1) ((qag x r.key r.val).2.1)),true) from by grind[qar,qaL,qaj]]
      exact qHz ⟨(by first | omega | (simp only[zb,zh];omega) | exact qae _ Cell.flat _ | grind[inInt]),(by first | omega | (simp only[zb,zh];omega) | exact qae _ Cell.flat _ | grind[inInt]),(by first | omega | (simp only[zb,zh];omega) | exact qae _ Cell.flat _ | grind[inInt]),c1,rfl,c2,(by rw[h3];rfl),c4,(by rw[h5];rfl),c6,(by rw[h7];rfl),c8,h9,h15,(qo2 x hx r.stamp ((qag x r.key r.val).1) ((qag x r.key r.val).2.1) _),trivial⟩
   ·skip
    rcases zd (x.kind != 8) with h18 | h18
    ·skip
     rw[show qar g cs r x=(cs,([]:List Record),true) from by grind[qar,qaL,qaj]]
     exact qHd ⟨(by first | omega | (simp only[zb,zh];omega) | exact qae _ Cell.flat _ | grind[inInt]),(by first | omega | (simp only[zb,zh];omega) | exact qae _ Cell.flat _ | grind[inInt]),(by first | omega | (simp only[zb,zh];omega) | exact qae _ Cell.flat _ | grind[inInt]),c1,rfl,c2,(by rw[h3];rfl),c4,(by rw[h5];rfl),c6,(by rw[h7];rfl),h18,trivial⟩
    ·skip
     have c19:=qoV x.kind
     rcases zd (qaL x.kind) with h20 | h20
     ·skip
      have c21:=qoX x.kind cs (⟨r.op,r.stamp.epoch,r.key,r.val⟩:Cell) (by omega)
      rcases zd ((qaj x.kind cs (⟨r.op,r.stamp.epoch,r.key,r.val⟩:Cell)).2) with h22 | h22
      ·skip
       rcases zd (x.kind==7) with h23 | h23
       ·skip
        have c24:=qfY r.stamp
        rcases zd ((qaA r.stamp).2) with h25 | h25
        ·skip
         
         rw[show qar g cs r x=(((qaj x.kind cs (⟨r.op,r.stamp.epoch,r.key,r.val⟩:Cell)).1),(sends x ((qaA r.stamp).1) ((qag x r.key r.val).1) ((qag x r.key r.val).2.1)),true) from by grind[qar,qaL,qaj]]
         exact qHi ⟨(by first | omega | (simp only[zb,zh];omega) | exact qae _ Cell.flat _ | grind[inInt]),(by first | omega | (simp only[zb,zh];omega) | exact qae _ Cell.flat _ | grind[inInt]),(by first | omega | (simp only[zb,zh];omega) | exact qae _ Cell.flat _ | grind[inInt]),c1,rfl,c2,(by rw[h3];rfl),c4,(by rw[h5];rfl),c6,(by rw[h7];rfl),h18,c19,h20,c21,(by rw[h22];rfl),h23,c24,(by rw[h25];rfl),(qoZ x hx ((qaA r.stamp).1) ((qag x r.key r.val).1) ((qag x r.key r.val).2.1) _),trivial⟩
        ·skip
         rw[show qar g cs r x=(((qaj x.kind cs (⟨r.op,r.stamp.epoch,r.key,r.val⟩:Cell)).1),([]:List Record),true) from by grind[qar,qaL,qaj]]
         exact qHf ⟨(by first | omega | (simp only[zb,zh];omega) | exact qae _ Cell.flat _ | grind[inInt]),(by first | omega | (simp only[zb,zh];omega) | exact qae _ Cell.flat _ | grind[inInt]),(by first | omega | (simp only[zb,zh];omega) | exact qae _ Cell.flat _ | grind[inInt]),c1,rfl,c2,(by rw[h3];rfl),c4,(by rw[h5];rfl),c6,(by rw[h7];rfl),h18,c19,h20,c21,(by rw[h22];rfl),h23,c24,(by rw[h25];rfl),trivial⟩
       ·skip
        
        rw[show qar g cs r x=(((qaj x.kind cs (⟨r.op,r.stamp.epoch,r.key,r.val⟩:Cell)).1),(sends x r.stamp ((qag x r.key r.val).1) ((qag x r.key r.val).2.1)),true) from by grind[qar,qaL,qaj]]
        exact qHl ⟨(by first | omega | (simp only[zb,zh];omega) | exact qae _ Cell.flat _ | grind[inInt]),(by first | omega | (simp only[zb,zh];omega) | exact qae _ Cell.flat _ | grind[inInt]),(by first | omega | (simp only[zb,zh];omega) | exact qae _ Cell.flat _ | grind[inInt]),c1,rfl,c2,(by rw[h3];rfl),c4,(by rw[h5];rfl),c6,(by rw[h7];rfl),h18,c19,h20,c21,(by rw[h22];rfl),h23,(qo0 x hx r.stamp ((qag x r.key r.val).1) ((qag x r.key r.val).2.1) _),trivial⟩
      ·skip
       rw[show qar g cs r x=(((qaj x.kind cs (⟨r.op,r.stamp.epoch,r.key,r.val⟩:Cell)).1),([]:List Record),true) from by grind[qar,qaL,qaj]]
       exact qHe ⟨(by first | omega | (simp only[zb,zh];omega) | exact qae _ Cell.flat _ | grind[inInt]),(by first | omega | (simp only[zb,zh];omega) | exact qae _ Cell.flat _ | grind[inInt]),(by first | omega | (simp only[zb,zh];omega) | exact qae _ Cell.flat _ | grind[inInt]),c1,rfl,c2,(by rw[h3];rfl),c4,(by rw[h5];rfl),c6,(by rw[h7];rfl),h18,c19,h20,c21,(by rw[h22];rfl),trivial⟩
     ·skip
      rcases zd (x.kind==7) with h26 | h26
      ·skip
       have c27:=qfY r.stamp
       rcases zd ((qaA r.stamp).2) with h28 | h28
       ·skip
        
        rw[show qar g cs r x=(cs,(sends x ((qaA r.stamp).1) ((qag x r.key r.val).1) ((qag x r.key r.val).2.1)),true) from by grind[qar,qaL,qaj]]
        exact qHp ⟨(by first | omega | (simp only[zb,zh];omega) | exact qae _ Cell.flat _ | grind[inInt]),(by first | omega | (simp only[zb,zh];omega) | exact qae _ Cell.flat _ | grind[inInt]),(by first | omega | (simp only[zb,zh];omega) | exact qae _ Cell.flat _ | grind[inInt]),c1,rfl,c2,(by rw[h3];rfl),c4,(by rw[h5];rfl),c6,(by rw[h7];rfl),h18,c19,h20,h26,c27,(by rw[h28];rfl),(qo1 x hx ((qaA r.stamp).1) ((qag x r.key r.val).1) ((qag x r.key r.val).2.1) _),trivial⟩
       ·skip
        rw[show qar g cs r x=(cs,([]:List Record),true) from by grind[qar,qaL,qaj]]
        exact qHm ⟨(by first | omega | (simp only[zb,zh];omega) | exact qae _ Cell.flat _ | grind[inInt]),(by first | omega | (simp only[zb,zh];omega) | exact qae _ Cell.flat _ | grind[inInt]),(by first | omega | (simp only[zb,zh];omega) | exact qae _ Cell.flat _ | grind[inInt]),c1,rfl,c2,(by rw[h3];rfl),c4,(by rw[h5];rfl),c6,(by rw[h7];rfl),h18,c19,h20,h26,c27,(by rw[h28];rfl),trivial⟩
      ·skip
       
       rw[show qar g cs r x=(cs,(sends x r.stamp ((qag x r.key r.val).1) ((qag x r.key r.val).2.1)),true) from by grind[qar,qaL,qaj]]
       exact qHs ⟨(by first | omega | (simp only[zb,zh];omega) | exact qae _ Cell.flat _ | grind[inInt]),(by first | omega | (simp only[zb,zh];omega) | exact qae _ Cell.flat _ | grind[inInt]),(by first | omega | (simp only[zb,zh];omega) | exact qae _ Cell.flat _ | grind[inInt]),c1,rfl,c2,(by rw[h3];rfl),c4,(by rw[h5];rfl),c6,(by rw[h7];rfl),h18,c19,h20,h26,(qo2 x hx r.stamp ((qag x r.key r.val).1) ((qag x r.key r.val).2.1) _),trivial⟩
  ·skip
   rw[show qar g cs r x=(cs,([]:List Record),false) from by grind[qar,qaL,qaj]]
   exact qHc ⟨(by first | omega | (simp only[zb,zh];omega) | exact qae _ Cell.flat _ | grind[inInt]),(by first | omega | (simp only[zb,zh];omega) | exact qae _ Cell.flat _ | grind[inInt]),(by first | omega | (simp only[zb,zh];omega) | exact qae _ Cell.flat _ | grind[inInt]),c1,rfl,c2,(by rw[h3];rfl),c4,(by rw[h5];rfl),trivial⟩
 ·skip
  rw[show qar g cs r x=(cs,([]:List Record),false) from by grind[qar,qaL,qaj]]
  exact qHb ⟨(by first | omega | (simp only[zb,zh];omega) | exact qae _ Cell.flat _ | grind[inInt]),(by first | omega | (simp only[zb,zh];omega) | exact qae _ Cell.flat _ | grind[inInt]),(by first | omega | (simp only[zb,zh];omega) | exact qae _ Cell.flat _ | grind[inInt]),c1,rfl,c2,(by rw[h3];rfl),trivial⟩
theorem qGW(g:Graph)(cs:List Cell)(r:Record)(x:Node)(hg:g.sz≤8388608)(hl:cs.length≤8388608)(hn:qaM g r.op=some x):Rt 218 [.agg g.e,.one (.sl 4 (cs.map Cell.e)),.agg r.e] [.one (.sl 4 ((qar g cs r x).1.map Cell.e)),.one (.sl 5 ((qar g cs r x).2.1.map Record.e)),.one (B (qar g cs r x).2.2)]:=by
 have hx:=Graph.outs_le hg (qkj hn)
 obtain⟨hk0,hk2,_,_⟩:=qh1 hn
 have hk1:g.nodes[r.op.toNat]?=some x:=by have:=hn;unfold qaM at this;rwa[zq hk0]at this
 have c1:=qfZ g hg
 rcases zd (qaw g) with h2 | h2
 ·skip
  have c3:=qdU r
  rcases zd (qaF r) with h4 | h4
  ·skip
   have c5:=qfO g r.op true (by rw[hn];rfl) hg
   have c6:=qGN x r.key r.val hx
   rcases zd ((qag x r.key r.val).2.2) with h7 | h7
   ·skip
    have c8:=qoY x.kind cs (⟨r.op,r.stamp.epoch,r.key,r.val⟩:Cell) (by omega)
    rcases zd ((qaj x.kind cs (⟨r.op,r.stamp.epoch,r.key,r.val⟩:Cell)).2) with h9 | h9
    ·skip
     rcases zd (x.kind==7) with h10 | h10
     ·skip
      have c11:=qkI r.stamp
      
      rw[show qar g cs r x=(((qaj x.kind cs (⟨r.op,r.stamp.epoch,r.key,r.val⟩:Cell)).1),(bif (qaA r.stamp).2 then sends x ((qaA r.stamp).1) ((qag x r.key r.val).1) ((qag x r.key r.val).2.1) else []),true) from by grind[qar,qaL,qaj]]
      exact qHK ⟨c1,(by rw[h2];rfl),c3,(by rw[h4];rfl),c5,rfl,(by first | omega | (simp only[zb,zh];omega) | exact qae _ Cell.flat _ | grind[inInt]),(by first | omega | (simp only[zb,zh];omega) | exact qae _ Cell.flat _ | grind[inInt]),(qad Node.e hk1),c6,(by rw[h7];rfl),c8,(by rw[h9];rfl),h10,c11,(qo4 x hx ((qaA r.stamp).2) ((qaA r.stamp).1) ((qag x r.key r.val).1) ((qag x r.key r.val).2.1) _),trivial⟩
     ·skip
      
      rw[show qar g cs r x=(((qaj x.kind cs (⟨r.op,r.stamp.epoch,r.key,r.val⟩:Cell)).1),(sends x r.stamp ((qag x r.key r.val).1) ((qag x r.key r.val).2.1)),true) from by grind[qar,qaL,qaj]]
      exact qHL ⟨c1,(by rw[h2];rfl),c3,(by rw[h4];rfl),c5,rfl,(by first | omega | (simp only[zb,zh];omega) | exact qae _ Cell.flat _ | grind[inInt]),(by first | omega | (simp only[zb,zh];omega) | exact qae _ Cell.flat _ | grind[inInt]),(qad Node.e hk1),c6,(by rw[h7];rfl),c8,(by rw[h9];rfl),h10,(qo3 x hx r.stamp ((qag x r.key r.val).1) ((qag x r.key r.val).2.1) _),trivial⟩
    ·skip
     rw[show qar g cs r x=(((qaj x.kind cs (⟨r.op,r.stamp.epoch,r.key,r.val⟩:Cell)).1),([]:List Record),true) from by grind[qar,qaL,qaj]]
     exact qHJ ⟨c1,(by rw[h2];rfl),c3,(by rw[h4];rfl),c5,rfl,(by first | omega | (simp only[zb,zh];omega) | exact qae _ Cell.flat _ | grind[inInt]),(by first | omega | (simp only[zb,zh];omega) | exact qae _ Cell.flat _ | grind[inInt]),(qad Node.e hk1),c6,(by rw[h7];rfl),c8,(by rw[h9];rfl),trivial⟩
   ·skip
    rcases zd (x.kind != 8) with h12 | h12
    ·skip
     have c13:=qdI cs (by omega)
     rw[show qar g cs r x=(cs,([]:List Record),true) from by grind[qar,qaL,qaj]]
     exact qHB ⟨c1,(by rw[h2];rfl),c3,(by rw[h4];rfl),c5,rfl,(by first | omega | (simp only[zb,zh];omega) | exact qae _ Cell.flat _ | grind[inInt]),(by first | omega | (simp only[zb,zh];omega) | exact qae _ Cell.flat _ | grind[inInt]),(qad Node.e hk1),c6,(by rw[h7];rfl),h12,c13,trivial⟩
    ·skip
     have c14:=qoY x.kind cs (⟨r.op,r.stamp.epoch,r.key,r.val⟩:Cell) (by omega)
     rcases zd ((qaj x.kind cs (⟨r.op,r.stamp.epoch,r.key,r.val⟩:Cell)).2) with h15 | h15
     ·skip
      rcases zd (x.kind==7) with h16 | h16
      ·skip
       have c17:=qkI r.stamp
       
       rw[show qar g cs r x=(((qaj x.kind cs (⟨r.op,r.stamp.epoch,r.key,r.val⟩:Cell)).1),(bif (qaA r.stamp).2 then sends x ((qaA r.stamp).1) ((qag x r.key r.val).1) ((qag x r.key r.val).2.1) else []),true) from by grind[qar,qaL,qaj]]
       exact qHF ⟨c1,(by rw[h2];rfl),c3,(by rw[h4];rfl),c5,rfl,(by first | omega | (simp only[zb,zh];omega) | exact qae _ Cell.flat _ | grind[inInt]),(by first | omega | (simp only[zb,zh];omega) | exact qae _ Cell.flat _ | grind[inInt]),(qad Node.e hk1),c6,(by rw[h7];rfl),h12,c14,(by rw[h15];rfl),h16,c17,(qo4 x hx ((qaA r.stamp).2) ((qaA r.stamp).1) ((qag x r.key r.val).1) ((qag x r.key r.val).2.1) _),trivial⟩
      ·skip
       
       rw[show qar g cs r x=(((qaj x.kind cs (⟨r.op,r.stamp.epoch,r.key,r.val⟩:Cell)).1),(sends x r.stamp ((qag x r.key r.val).1) ((qag x r.key r.val).2.1)),true) from by grind[qar,qaL,qaj]]
       exact qHI ⟨c1,(by rw[h2];rfl),c3,(by rw[h4];rfl),c5,rfl,(by first | omega | (simp only[zb,zh];omega) | exact qae _ Cell.flat _ | grind[inInt]),(by first | omega | (simp only[zb,zh];omega) | exact qae _ Cell.flat _ | grind[inInt]),(qad Node.e hk1),c6,(by rw[h7];rfl),h12,c14,(by rw[h15];rfl),h16,(qo3 x hx r.stamp ((qag x r.key r.val).1) ((qag x r.key r.val).2.1) _),trivial⟩
     ·skip
      rw[show qar g cs r x=(((qaj x.kind cs (⟨r.op,r.stamp.epoch,r.key,r.val⟩:Cell)).1),([]:List Record),true) from by grind[qar,qaL,qaj]]
      exact qHC ⟨c1,(by rw[h2];rfl),c3,(by rw[h4];rfl),c5,rfl,(by first | omega | (simp only[zb,zh];omega) | exact qae _ Cell.flat _ | grind[inInt]),(by first | omega | (simp only[zb,zh];omega) | exact qae _ Cell.flat _ | grind[inInt]),(qad Node.e hk1),c6,(by rw[h7];rfl),h12,c14,(by rw[h15];rfl),trivial⟩
  ·skip
   have c18:=qdI cs (by omega)
   rw[show qar g cs r x=(cs,([]:List Record),false) from by grind[qar,qaL,qaj]]
   exact qo6 ⟨c1,(by rw[h2];rfl),c3,(by rw[h4];rfl),c18,trivial⟩
 ·skip
  have c19:=qdI cs (by omega)
  rw[show qar g cs r x=(cs,([]:List Record),false) from by grind[qar,qaL,qaj]]
  exact qo5 ⟨c1,(by rw[h2];rfl),c19,trivial⟩
end Go.Proofs.YtdanpadojemjeaaGreat
namespace Go.Proofs.YtdanpadojemjeaaGreat
open Go.Sx Go.RowKit Go.Proofs.Tryz
def qay(g:Graph)(cs:List Cell)(r:Record):List Cell×List Record×Bool:=match qaM g r.op with | some x=>qar g cs r x | none=>(cs,[],false)
theorem qGX(g:Graph)(cs:List Cell)(r:Record)(hg:g.sz≤8388608)(hl:cs.length≤8388608):Rt 210 [.agg g.e,.one (.sl 4 (cs.map Cell.e)),.agg r.e] [.one (.sl 4 ((qay g cs r).1.map Cell.e)),.one (.sl 5 ((qay g cs r).2.1.map Record.e)),.one (B (qay g cs r).2.2)]:=by
 unfold qay
 cases h:qaM g r.op with
 | some x=>exact qGV g cs r x hg hl h
 | none=>exact qHa ⟨by simp<;>omega,by simp<;>omega,qae _ Cell.flat _,qh3 g r.op (⟨0,0,0,[]⟩,false) (by unfold qdJ;rw[h]) hg,rfl,trivial⟩
theorem qGY(g:Graph)(cs:List Cell)(r:Record)(hg:g.sz≤8388608)(hl:cs.length≤8388608):Rt 218 [.agg g.e,.one (.sl 4 (cs.map Cell.e)),.agg r.e] [.one (.sl 4 ((qay g cs r).1.map Cell.e)),.one (.sl 5 ((qay g cs r).2.1.map Record.e)),.one (B (qay g cs r).2.2)]:=by
 unfold qay
 cases h:qaM g r.op with
 | some x=>exact qGW g cs r x hg hl h
 | none=>
  have c1:=qfZ g hg
  have c2:=qdU r
  have c3:=qfO g r.op false (by rw[h];rfl) hg
  have cp:=qdI cs hl
  generalize qaw g=b1 at*
  generalize qaF r=b2 at*
  cases b1 with
  | false=>exact qo5 ⟨c1,rfl,cp,trivial⟩
  | true=>
   cases b2 with
   | false=>exact qo6 ⟨c1,rfl,c2,rfl,cp,trivial⟩
   | true=>exact qHA ⟨c1,rfl,c2,rfl,c3,rfl,cp,trivial⟩
def qbs(g:Graph)(r:Record)(x:Node):Bool:=qaw g&&qaF r&&x.kind==7&&decide (0<x.outs.length)&&!(qaA r.stamp).2
def capped(g:Graph)(r:Record):Bool:=match qaM g r.op with | some x=>qbs g r x | none=>false
theorem qGZ(g:Graph)(r:Record)(x:Node)(hg:g.sz≤8388608)(hn:qaM g r.op=some x):Rt 211 [.agg g.e,.agg r.e] [.one (B (qbs g r x))]:=by
 have c1:=qh3 g r.op (x,true) (by unfold qdJ;rw[hn]) hg
 have c2:=qfY r.stamp
 have c3:=qkK g hg
 rcases zd (qaw g) with h4 | h4
 ·skip
  have c5:=qeT r
  rcases zd (qaF r) with h6 | h6
  ·skip
   rcases zd (x.kind==7) with h7 | h7
   ·skip
    rcases zd (decide ((↑(x.outs.map eI).length:Int)>0)) with h8 | h8
    ·skip
     rw[show qbs g r x=(!((qaA r.stamp).2)) from by grind[qbs]]
     exact qG4 ⟨c1,c2,rfl,c3,h4,c5,h6,h7,h8,trivial⟩
    ·skip
     rw[show qbs g r x=false from by grind[qbs]]
     exact qG5 ⟨c1,c2,rfl,c3,h4,c5,h6,h7,h8,trivial⟩
   ·skip
    rw[show qbs g r x=false from by grind[qbs]]
    exact qG6 ⟨c1,c2,rfl,c3,h4,c5,h6,h7,trivial⟩
  ·skip
   rw[show qbs g r x=false from by grind[qbs]]
   exact qG7 ⟨c1,c2,rfl,c3,h4,c5,h6,trivial⟩
 ·skip
  rw[show qbs g r x=false from by grind[qbs]]
  exact qG8 ⟨c1,c2,rfl,c3,h4,trivial⟩
theorem qG0(g:Graph)(r:Record)(hg:g.sz≤8388608):Rt 211 [.agg g.e,.agg r.e] [.one (B (capped g r))]:=by
 unfold capped
 cases h:qaM g r.op with
 | some x=>exact qGZ g r x hg h
 | none=>exact qG9 ⟨qh3 g r.op (⟨0,0,0,[]⟩,false) (by unfold qdJ;rw[h]) hg,qfY r.stamp,rfl,trivial⟩
theorem qkM{g:Graph}(h:qaw g=true){op:Int}{x:Node}(hn:qaM g op=some x):qab x=true:=by
 simp only[qaw,zj,zS]at h
 unfold qaM at hn
 split at hn
 ·have:=qhN h.2 op.toNat x hn
  simp only[qbw,zy,zW]at this
  exact this.1.1
 ·cases hn
theorem qG1{x:Node}(h:qab x=true):x.outs.length≤2:=by
 simp only[qab,zj,zi]at h
 exact h.1.1.1.2
theorem qG2(kind:Int)(cs:List Cell)(x:Cell):(qaj kind cs x).1.length≤cs.length+1:=by
 have h1:=qom cs x
 have h2:=qom (cs.filter fun a=>!qax x a) x
 have h3:=zax (fun a=>!qax x a) cs
 unfold qaj
 split
 ·split<;>simp<;>omega
 ·split
  ·unfold qbj
   split<;>simp<;>omega
  ·simp
theorem qG3{g:Graph}(hg:qaw g=true)(cs:List Cell)(r:Record):(qay g cs r).1.length≤cs.length+1∧(qay g cs r).2.1.length≤2:=by
 unfold qay
 cases h:qaM g r.op with
 | none=>exact⟨by simp,by simp⟩
 | some x=>
  have hx:=qG1 (qkM hg h)
  have hr:=qG2 x.kind cs ⟨r.op,r.stamp.epoch,r.key,r.val⟩
  have hs:∀s k v,(sends x s k v).length≤2:=fun s k v=>by simpa[sends]using hx
  simp only[qar]
  split
  ·split
   ·exact⟨by simp,by simp⟩
   ·split
    ·exact⟨hr,by simp⟩
    ·split
     ·refine⟨hr,?_⟩
      cases (qaA r.stamp).2 with
      | true=>exact hs _ _ _
      | false=>simp
     ·exact⟨hr,hs _ _ _⟩
  ·exact⟨by simp,by simp⟩
end Go.Proofs.YtdanpadojemjeaaGreat
