/- GraphOk, Changed, LeastOf: what program and reference compute (cases put together by gentree.py). -/
import Derived.Test.YtdanpadojemjeaaGreatP15
import Derived.Test.YtdanpadojemjeaaGreatC0
import Derived.Test.YtdanpadojemjeaaGreatGS
set_option linter.unusedVariables false
set_option linter.unusedSimpArgs false
namespace Go.Proofs.YtdanpadojemjeaaGreat
open Go.Sx Go.RowKit Go.Proofs.Tryz
def qbf(g:Graph)(k:Int):Int:=match g.nodes[k.toNat]? with | some y=>y.kind | none=>0
def qaQ(g:Graph)(i:Nat)(x:Node)(k:Int):Bool:=
 decide ((g.nodes.length:Int)≤k)||(if x.kind=7 then decide ((i:Int)<k)||(qbf g k != 5&&qbf g k != 6) else decide (k≤i))
def qbE(g:Graph)(i:Nat)(x:Node):Bool:=!qab x||(decide (x.kind=1) != decide ((i:Int)=0))||x.outs.any (qaQ g i x)
def qaz(g:Graph):Bool:=inR g.nodes.length 1 8&&inR g.workers 1 4&&inR g.cap 1 4&&!(anyI (qbE g) 0 g.nodes)
def qai(x:Node)(k v:Int):Int×Int×Bool:=
 if qab x&&qaF k v then
  if x.kind=2 then (k,less (v+x.a) 999,true)
  else if x.kind=4 then ((k+x.a).tmod 100,v,true)
  else if x.kind=3 then (k,v,k.tmod x.a==x.b)
  else (k,v,x.kind != 8)
 else (k,v,false)
theorem qlB{l:List Int}(h:okAll l=true){k:Int}(hk:k∈l):inR k 0 7=true:=by
 simp only[okAll,zS,zP]at h
 simpa using h k hk
theorem qqi(g:Graph)(hg:g.sz≤8388608)(i:Nat)(hi:i<8)(x:Node)(hx:g.nodes[i]?=some x)(hok:qab x=true)(j:Nat)(k:Int)(hk:x.outs[j]?=some k)(r:Bool)(hr:qaQ g i x k=r):Tr prog (qaa f163 1) (qbd i (g.nodes.map Node.e) g.workers g.cap x.kind x.a x.b (x.outs.map eI) (j:Int)) (bif r then .ret else .normal) (bif r then qdr false else qbd i (g.nodes.map Node.e) g.workers g.cap x.kind x.a x.b (x.outs.map eI) ((j+1:Nat):Int)):=by
 have hj:=lt_of hk
 have hl:x.outs.length≤2:=by grind[qab]
 have hk0:inR k 0 7=true:=qlB (by grind[qab]) (qas hk)
 have hk1:x.outs[(j:Int).toNat]?=some k:=by simpa using hk
 have hj1:decide ((j:Int)<(↑(x.outs.map eI).length:Int))=true:=lt1 hj
 rcases ze (decide (k≥(↑(g.nodes.map Node.e).length:Int))) with h1 | h1
 ·skip
  obtain rfl:r=true:=by rw[←hr];grind[qaQ,qbf,inR]
  exact qFC ⟨hj1,(by grind[inR,inInt,qab]),(by grind[inR,inInt,qab]),(qad eI hk1),h1,trivial⟩
 ·skip
  rcases ze (x.kind != 7) with h2 | h2
  ·skip
   rcases ze (decide (k≤(i:Int))) with h3 | h3
   ·skip
    obtain rfl:r=true:=by rw[←hr];grind[qaQ,qbf,inR]
    exact qFD ⟨hj1,(by grind[inR,inInt,qab]),(by grind[inR,inInt,qab]),(qad eI hk1),h1,h2,h3,trivial⟩
   ·skip
    obtain⟨y4,hy4⟩:=look (xs:=g.nodes) (i:=k) (by grind[inR,inInt,qab]) (by grind[inR,inInt,qab])
    rcases ze (x.kind==7) with h5 | h5
    ·skip
     rcases ze (decide (k>(i:Int))) with h6 | h6
     ·skip
      obtain rfl:r=true:=by rw[←hr];grind[qaQ,qbf,inR]
      exact qFE ⟨hj1,(by grind[inR,inInt,qab]),(by grind[inR,inInt,qab]),(qad eI hk1),h1,h2,h3,(by grind[inR,inInt,qab]),(by grind[inR,inInt,qab]),(qad Node.e hy4),h5,h6,trivial⟩
     ·skip
      rcases ze (y4.kind != 5) with h7 | h7
      ·skip
       rcases ze (y4.kind != 6) with h8 | h8
       ·skip
        obtain rfl:r=true:=by rw[←hr];grind[qaQ,qbf,inR]
        exact qFF ⟨hj1,(by grind[inR,inInt,qab]),(by grind[inR,inInt,qab]),(qad eI hk1),h1,h2,h3,(by grind[inR,inInt,qab]),(by grind[inR,inInt,qab]),(qad Node.e hy4),h5,h6,h7,h8,trivial⟩
       ·skip
        obtain rfl:r=false:=by rw[←hr];grind[qaQ,qbf,inR]
        exact qFG ⟨hj1,(by grind[inR,inInt,qab]),(by grind[inR,inInt,qab]),(qad eI hk1),h1,h2,h3,(by grind[inR,inInt,qab]),(by grind[inR,inInt,qab]),(qad Node.e hy4),h5,h6,h7,h8,(by grind[inR,inInt,qab]),trivial⟩
      ·skip
       obtain rfl:r=false:=by rw[←hr];grind[qaQ,qbf,inR]
       exact qFH ⟨hj1,(by grind[inR,inInt,qab]),(by grind[inR,inInt,qab]),(qad eI hk1),h1,h2,h3,(by grind[inR,inInt,qab]),(by grind[inR,inInt,qab]),(qad Node.e hy4),h5,h6,h7,(by grind[inR,inInt,qab]),trivial⟩
    ·skip
     obtain rfl:r=false:=by rw[←hr];grind[qaQ,qbf,inR]
     exact qFI ⟨hj1,(by grind[inR,inInt,qab]),(by grind[inR,inInt,qab]),(qad eI hk1),h1,h2,h3,(by grind[inR,inInt,qab]),(by grind[inR,inInt,qab]),(qad Node.e hy4),h5,(by grind[inR,inInt,qab]),trivial⟩
  ·skip
   obtain⟨y9,hy9⟩:=look (xs:=g.nodes) (i:=k) (by grind[inR,inInt,qab]) (by grind[inR,inInt,qab])
   rcases ze (x.kind==7) with h10 | h10
   ·skip
    rcases ze (decide (k>(i:Int))) with h11 | h11
    ·skip
     obtain rfl:r=true:=by rw[←hr];grind[qaQ,qbf,inR]
     exact qFJ ⟨hj1,(by grind[inR,inInt,qab]),(by grind[inR,inInt,qab]),(qad eI hk1),h1,h2,(by grind[inR,inInt,qab]),(by grind[inR,inInt,qab]),(qad Node.e hy9),h10,h11,trivial⟩
    ·skip
     rcases ze (y9.kind != 5) with h12 | h12
     ·skip
      rcases ze (y9.kind != 6) with h13 | h13
      ·skip
       obtain rfl:r=true:=by rw[←hr];grind[qaQ,qbf,inR]
       exact qFK ⟨hj1,(by grind[inR,inInt,qab]),(by grind[inR,inInt,qab]),(qad eI hk1),h1,h2,(by grind[inR,inInt,qab]),(by grind[inR,inInt,qab]),(qad Node.e hy9),h10,h11,h12,h13,trivial⟩
      ·skip
       obtain rfl:r=false:=by rw[←hr];grind[qaQ,qbf,inR]
       exact qFL ⟨hj1,(by grind[inR,inInt,qab]),(by grind[inR,inInt,qab]),(qad eI hk1),h1,h2,(by grind[inR,inInt,qab]),(by grind[inR,inInt,qab]),(qad Node.e hy9),h10,h11,h12,h13,(by grind[inR,inInt,qab]),trivial⟩
     ·skip
      obtain rfl:r=false:=by rw[←hr];grind[qaQ,qbf,inR]
      exact qFM ⟨hj1,(by grind[inR,inInt,qab]),(by grind[inR,inInt,qab]),(qad eI hk1),h1,h2,(by grind[inR,inInt,qab]),(by grind[inR,inInt,qab]),(qad Node.e hy9),h10,h11,h12,(by grind[inR,inInt,qab]),trivial⟩
   ·skip
    obtain rfl:r=false:=by rw[←hr];grind[qaQ,qbf,inR]
    exact qFN ⟨hj1,(by grind[inR,inInt,qab]),(by grind[inR,inInt,qab]),(qad eI hk1),h1,h2,(by grind[inR,inInt,qab]),(by grind[inR,inInt,qab]),(qad Node.e hy9),h10,(by grind[inR,inInt,qab]),trivial⟩
theorem qqj(g:Graph)(hg:g.sz≤8388608)(i:Nat)(hi:i<8)(x:Node)(hx:g.nodes[i]?=some x)(hok:qab x=true)(j:Nat)(k:Int)(hk:x.outs[j]?=some k)(r:Bool)(hr:qaQ g i x k=r):Tr prog (qaa f122 1) (qbe (g.nodes.map Node.e) i (g.nodes.map Node.e) g.workers g.cap x.kind x.a x.b (x.outs.map eI) (j:Int)) (bif r then .ret else .normal) (bif r then qds false else qbe (g.nodes.map Node.e) i (g.nodes.map Node.e) g.workers g.cap x.kind x.a x.b (x.outs.map eI) ((j+1:Nat):Int)):=by
 have hj:=lt_of hk
 have hl:x.outs.length≤2:=by grind[qab]
 have hk0:inR k 0 7=true:=qlB (by grind[qab]) (qas hk)
 have hk1:x.outs[(j:Int).toNat]?=some k:=by simpa using hk
 have hj1:decide ((j:Int)<(↑(x.outs.map eI).length:Int))=true:=lt1 hj
 rcases ze (decide (k≥(↑(g.nodes.map Node.e).length:Int))) with h1 | h1
 ·skip
  obtain rfl:r=true:=by rw[←hr];grind[qaQ,qbf,inR]
  exact qFZ ⟨hj1,(by grind[inR,inInt,qab]),(by grind[inR,inInt,qab]),(qad eI hk1),h1,trivial⟩
 ·skip
  obtain⟨y2,hy2⟩:=look (xs:=g.nodes) (i:=k) (by grind[inR,inInt,qab]) (by grind[inR,inInt,qab])
  rcases ze (x.kind==7) with h3 | h3
  ·skip
   rcases ze (decide (k>(i:Int))) with h4 | h4
   ·skip
    obtain rfl:r=true:=by rw[←hr];grind[qaQ,qbf,inR]
    exact qF0 ⟨hj1,(by grind[inR,inInt,qab]),(by grind[inR,inInt,qab]),(qad eI hk1),h1,(by grind[inR,inInt,qab]),(by grind[inR,inInt,qab]),(qad Node.e hy2),h3,h4,trivial⟩
   ·skip
    rcases ze (y2.kind != 5) with h5 | h5
    ·skip
     rcases ze (y2.kind != 6) with h6 | h6
     ·skip
      obtain rfl:r=true:=by rw[←hr];grind[qaQ,qbf,inR]
      exact qF1 ⟨hj1,(by grind[inR,inInt,qab]),(by grind[inR,inInt,qab]),(qad eI hk1),h1,(by grind[inR,inInt,qab]),(by grind[inR,inInt,qab]),(qad Node.e hy2),h3,h4,h5,h6,trivial⟩
     ·skip
      rcases ze (x.kind != 7) with h7 | h7
      ·skip
       rcases ze (decide (k≤(i:Int))) with h8 | h8
       ·skip
        obtain rfl:r=true:=by rw[←hr];grind[qaQ,qbf,inR]
        exact qF2 ⟨hj1,(by grind[inR,inInt,qab]),(by grind[inR,inInt,qab]),(qad eI hk1),h1,(by grind[inR,inInt,qab]),(by grind[inR,inInt,qab]),(qad Node.e hy2),h3,h4,h5,h6,h7,h8,trivial⟩
       ·skip
        obtain rfl:r=false:=by rw[←hr];grind[qaQ,qbf,inR]
        exact qF3 ⟨hj1,(by grind[inR,inInt,qab]),(by grind[inR,inInt,qab]),(qad eI hk1),h1,(by grind[inR,inInt,qab]),(by grind[inR,inInt,qab]),(qad Node.e hy2),h3,h4,h5,h6,h7,h8,(by grind[inR,inInt,qab]),trivial⟩
      ·skip
       obtain rfl:r=false:=by rw[←hr];grind[qaQ,qbf,inR]
       exact qF4 ⟨hj1,(by grind[inR,inInt,qab]),(by grind[inR,inInt,qab]),(qad eI hk1),h1,(by grind[inR,inInt,qab]),(by grind[inR,inInt,qab]),(qad Node.e hy2),h3,h4,h5,h6,h7,(by grind[inR,inInt,qab]),trivial⟩
    ·skip
     rcases ze (x.kind != 7) with h9 | h9
     ·skip
      rcases ze (decide (k≤(i:Int))) with h10 | h10
      ·skip
       obtain rfl:r=true:=by rw[←hr];grind[qaQ,qbf,inR]
       exact qF5 ⟨hj1,(by grind[inR,inInt,qab]),(by grind[inR,inInt,qab]),(qad eI hk1),h1,(by grind[inR,inInt,qab]),(by grind[inR,inInt,qab]),(qad Node.e hy2),h3,h4,h5,h9,h10,trivial⟩
      ·skip
       obtain rfl:r=false:=by rw[←hr];grind[qaQ,qbf,inR]
       exact qF6 ⟨hj1,(by grind[inR,inInt,qab]),(by grind[inR,inInt,qab]),(qad eI hk1),h1,(by grind[inR,inInt,qab]),(by grind[inR,inInt,qab]),(qad Node.e hy2),h3,h4,h5,h9,h10,(by grind[inR,inInt,qab]),trivial⟩
     ·skip
      obtain rfl:r=false:=by rw[←hr];grind[qaQ,qbf,inR]
      exact qF7 ⟨hj1,(by grind[inR,inInt,qab]),(by grind[inR,inInt,qab]),(qad eI hk1),h1,(by grind[inR,inInt,qab]),(by grind[inR,inInt,qab]),(qad Node.e hy2),h3,h4,h5,h9,(by grind[inR,inInt,qab]),trivial⟩
  ·skip
   rcases ze (x.kind != 7) with h11 | h11
   ·skip
    rcases ze (decide (k≤(i:Int))) with h12 | h12
    ·skip
     obtain rfl:r=true:=by rw[←hr];grind[qaQ,qbf,inR]
     exact qF8 ⟨hj1,(by grind[inR,inInt,qab]),(by grind[inR,inInt,qab]),(qad eI hk1),h1,(by grind[inR,inInt,qab]),(by grind[inR,inInt,qab]),(qad Node.e hy2),h3,h11,h12,trivial⟩
    ·skip
     obtain rfl:r=false:=by rw[←hr];grind[qaQ,qbf,inR]
     exact qF9 ⟨hj1,(by grind[inR,inInt,qab]),(by grind[inR,inInt,qab]),(qad eI hk1),h1,(by grind[inR,inInt,qab]),(by grind[inR,inInt,qab]),(qad Node.e hy2),h3,h11,h12,(by grind[inR,inInt,qab]),trivial⟩
   ·skip
    obtain rfl:r=false:=by rw[←hr];grind[qaQ,qbf,inR]
    exact qGa ⟨hj1,(by grind[inR,inInt,qab]),(by grind[inR,inInt,qab]),(qad eI hk1),h1,(by grind[inR,inInt,qab]),(by grind[inR,inInt,qab]),(qad Node.e hy2),h3,h11,(by grind[inR,inInt,qab]),trivial⟩
theorem qJf(g:Graph)(hg:g.sz≤8388608)(i:Nat)(hi:i<8)(x:Node)(hx:g.nodes[i]?=some x)(hok:qab x=true):
  (x.outs.any (qaQ g i x)=true∧qan prog (qaa f163 1) (qbd i (g.nodes.map Node.e) g.workers g.cap x.kind x.a x.b (x.outs.map eI) 0) .ret (qdr false))∨(x.outs.any (qaQ g i x)=false∧qan prog (qaa f163 1) (qbd i (g.nodes.map Node.e) g.workers g.cap x.kind x.a x.b (x.outs.map eI) 0) (.exit 2) (qlu i (g.nodes.map Node.e) g.workers g.cap)):=by
 have l:=qaS (P:=prog) (c:=(qaa f163 1)) x.outs (qaQ g i x) (fun j=>qbd i (g.nodes.map Node.e) g.workers g.cap x.kind x.a x.b (x.outs.map eI) j) (X:=fun _ _=>qdr false) qaw (qaf 2)
  (fun j k hk h=>qqi g hg i hi x hx hok j k hk false h)
  (fun j k hk h=>qqi g hg i hi x hx hok j k hk true h)
  (qFO ⟨ge1,trivial⟩)
 rcases l with⟨_,_,h1,h2⟩ | ⟨j,k,_,_,_,_,h1,h2⟩
 ·exact .inr ⟨h1,h2⟩
 ·exact .inl ⟨h1,h2⟩
theorem qJg(g:Graph)(hg:g.sz≤8388608)(i:Nat)(hi:i<8)(x:Node)(hx:g.nodes[i]?=some x)(hok:qab x=true):
  (x.outs.any (qaQ g i x)=true∧qan prog (qaa f122 1) (qbe (g.nodes.map Node.e) i (g.nodes.map Node.e) g.workers g.cap x.kind x.a x.b (x.outs.map eI) 0) .ret (qds false))∨(x.outs.any (qaQ g i x)=false∧qan prog (qaa f122 1) (qbe (g.nodes.map Node.e) i (g.nodes.map Node.e) g.workers g.cap x.kind x.a x.b (x.outs.map eI) 0) (.exit 2) (qlw (g.nodes.map Node.e) i (g.nodes.map Node.e) g.workers g.cap)):=by
 have l:=qaS (P:=prog) (c:=(qaa f122 1)) x.outs (qaQ g i x) (fun j=>qbe (g.nodes.map Node.e) i (g.nodes.map Node.e) g.workers g.cap x.kind x.a x.b (x.outs.map eI) j) (X:=fun _ _=>qds false) qaw (qaf 2)
  (fun j k hk h=>qqj g hg i hi x hx hok j k hk false h)
  (fun j k hk h=>qqj g hg i hi x hx hok j k hk true h)
  (qGb ⟨ge1,trivial⟩)
 rcases l with⟨_,_,h1,h2⟩ | ⟨j,k,_,_,_,_,h1,h2⟩
 ·exact .inr ⟨h1,h2⟩
 ·exact .inl ⟨h1,h2⟩
theorem qqk(g:Graph)(hg:g.sz≤8388608)(i:Nat)(hi:i<8)(x:Node)(hx:g.nodes[i]?=some x)(r:Bool)(hr:qbE g i x=r):Tr prog (qaa f163 0) (qcw ((i:Nat):Int) (g.nodes.map Node.e) g.workers g.cap) (bif r then .ret else .normal) (bif r then qfc false else qcw ((i+1:Nat):Int) (g.nodes.map Node.e) g.workers g.cap):=by
 have hj:=lt_of hx
 have ho:=Graph.outs_le hg (qas hx)
 have hk1:g.nodes[(i:Int).toNat]?=some x:=by simpa using hx
 have hj1:decide ((i:Int)<(↑(g.nodes.map Node.e).length:Int))=true:=lt1 hj
 have c1:=qqg x (by grind)
 rcases ze (qab x) with h2 | h2
 ·skip
  rcases ze ((x.kind==1)==((i:Int)==0)) with h3 | h3
  ·skip
   rcases qJf g hg i hi x hx (by grind) with⟨hL,l⟩ | ⟨hL,l⟩
   ·skip
    obtain rfl:r=true:=by rw[←hr];grind[qbE]
    exact qFP ⟨hj1,(by grind[inR,inInt,qab]),(by grind[inR,inInt,qab]),(qad Node.e hk1),c1,(by rw[h2];rfl),(by rw[h3];rfl),l,trivial⟩
   ·skip
    obtain rfl:r=false:=by rw[←hr];grind[qbE]
    exact qFQ ⟨hj1,(by grind[inR,inInt,qab]),(by grind[inR,inInt,qab]),(qad Node.e hk1),c1,(by rw[h2];rfl),(by rw[h3];rfl),l,(by grind[inR,inInt,qab]),trivial⟩
  ·skip
   obtain rfl:r=true:=by rw[←hr];grind[qbE]
   exact qFB ⟨hj1,(by grind[inR,inInt,qab]),(by grind[inR,inInt,qab]),(qad Node.e hk1),c1,(by rw[h2];rfl),(by rw[h3];rfl),trivial⟩
 ·skip
  obtain rfl:r=true:=by rw[←hr];grind[qbE]
  exact qFA ⟨hj1,(by grind[inR,inInt,qab]),(by grind[inR,inInt,qab]),(qad Node.e hk1),c1,(by rw[h2];rfl),trivial⟩
theorem qql(g:Graph)(hg:g.sz≤8388608)(i:Nat)(hi:i<8)(x:Node)(hx:g.nodes[i]?=some x)(r:Bool)(hr:qbE g i x=r):Tr prog (qaa f122 0) (qcx (g.nodes.map Node.e) ((i:Nat):Int) (g.nodes.map Node.e) g.workers g.cap) (bif r then .ret else .normal) (bif r then qfd false else qcx (g.nodes.map Node.e) ((i+1:Nat):Int) (g.nodes.map Node.e) g.workers g.cap):=by
 have hj:=lt_of hx
 have ho:=Graph.outs_le hg (qas hx)
 have hk1:g.nodes[(i:Int).toNat]?=some x:=by simpa using hx
 have hj1:decide ((i:Int)<(↑(g.nodes.map Node.e).length:Int))=true:=lt1 hj
 have c1:=qqh x (by grind)
 rcases ze (qab x) with h2 | h2
 ·skip
  rcases ze ((x.kind==1)==((i:Int)==0)) with h3 | h3
  ·skip
   rcases qJg g hg i hi x hx (by grind) with⟨hL,l⟩ | ⟨hL,l⟩
   ·skip
    obtain rfl:r=true:=by rw[←hr];grind[qbE]
    exact qGc ⟨hj1,(by grind[inR,inInt,qab]),(by grind[inR,inInt,qab]),(qad Node.e hk1),c1,(by rw[h2];rfl),(by rw[h3];rfl),l,trivial⟩
   ·skip
    obtain rfl:r=false:=by rw[←hr];grind[qbE]
    exact qGd ⟨hj1,(by grind[inR,inInt,qab]),(by grind[inR,inInt,qab]),(qad Node.e hk1),c1,(by rw[h2];rfl),(by rw[h3];rfl),l,(by grind[inR,inInt,qab]),trivial⟩
  ·skip
   obtain rfl:r=true:=by rw[←hr];grind[qbE]
   exact qFY ⟨hj1,(by grind[inR,inInt,qab]),(by grind[inR,inInt,qab]),(qad Node.e hk1),c1,(by rw[h2];rfl),(by rw[h3];rfl),trivial⟩
 ·skip
  obtain rfl:r=true:=by rw[←hr];grind[qbE]
  exact qFX ⟨hj1,(by grind[inR,inInt,qab]),(by grind[inR,inInt,qab]),(qad Node.e hk1),c1,(by rw[h2];rfl),trivial⟩
theorem qJh(g:Graph)(hg:g.sz≤8388608)(h8:g.nodes.length≤8):
  (anyI (qbE g) 0 g.nodes=true∧qan prog (qaa f163 0) (qcw 0 (g.nodes.map Node.e) g.workers g.cap) .ret (qfc false))∨(anyI (qbE g) 0 g.nodes=false∧qan prog (qaa f163 0) (qcw 0 (g.nodes.map Node.e) g.workers g.cap) (.exit 0) qlv):=by
 have l:=qdT (P:=prog) (c:=(qaa f163 0)) g.nodes (qbE g) (fun i=>qcw (i:Nat) (g.nodes.map Node.e) g.workers g.cap) (X:=qfc false) qaw (qaf 0)
  (fun i x hx h=>qqk g hg i (by have:=lt_of hx;omega) x hx false h)
  (fun i x hx h=>qqk g hg i (by have:=lt_of hx;omega) x hx true h)
  (qFR ⟨ge1,trivial⟩)
 rcases l with⟨h1,h2⟩ | ⟨h1,h2⟩
 ·exact .inr ⟨h1,h2⟩
 ·exact .inl ⟨h1,h2⟩
theorem qJi(g:Graph)(hg:g.sz≤8388608)(h8:g.nodes.length≤8):
  (anyI (qbE g) 0 g.nodes=true∧qan prog (qaa f122 0) (qcx (g.nodes.map Node.e) 0 (g.nodes.map Node.e) g.workers g.cap) .ret (qfd false))∨(anyI (qbE g) 0 g.nodes=false∧qan prog (qaa f122 0) (qcx (g.nodes.map Node.e) 0 (g.nodes.map Node.e) g.workers g.cap) (.exit 0) qlx):=by
 have l:=qdT (P:=prog) (c:=(qaa f122 0)) g.nodes (qbE g) (fun i=>qcx (g.nodes.map Node.e) (i:Nat) (g.nodes.map Node.e) g.workers g.cap) (X:=qfd false) qaw (qaf 0)
  (fun i x hx h=>qql g hg i (by have:=lt_of hx;omega) x hx false h)
  (fun i x hx h=>qql g hg i (by have:=lt_of hx;omega) x hx true h)
  (qGe ⟨ge1,trivial⟩)
 rcases l with⟨h1,h2⟩ | ⟨h1,h2⟩
 ·exact .inr ⟨h1,h2⟩
 ·exact .inl ⟨h1,h2⟩
theorem qlC(g:Graph)(hg:g.sz≤8388608):Rt 163 [.agg g.e] [.one (B (qaz g))]:=by
 have c1:=qbi (↑(g.nodes.map Node.e).length:Int) 1 8
 rcases ze (inR (↑(g.nodes.map Node.e).length:Int) 1 8) with h2 | h2
 ·skip
  have c3:=qbi g.workers 1 4
  rcases ze (inR g.workers 1 4) with h4 | h4
  ·skip
   have c5:=qbi g.cap 1 4
   rcases ze (inR g.cap 1 4) with h6 | h6
   ·skip
    rcases qJh g hg (by grind[inR]) with⟨hL,l⟩ | ⟨hL,l⟩
    ·skip
     rw[show qaz g=false from by grind[qaz]]
     exact qFS ⟨c1,(by rw[h2];rfl),c3,(by rw[h4];rfl),c5,(by rw[h6];rfl),l,trivial⟩
    ·skip
     rw[show qaz g=true from by grind[qaz]]
     exact qFT ⟨c1,(by rw[h2];rfl),c3,(by rw[h4];rfl),c5,(by rw[h6];rfl),l,trivial⟩
   ·skip
    rw[show qaz g=false from by grind[qaz]]
    exact qFz ⟨c1,(by rw[h2];rfl),c3,(by rw[h4];rfl),c5,(by rw[h6];rfl),trivial⟩
  ·skip
   rw[show qaz g=false from by grind[qaz]]
   exact qFy ⟨c1,(by rw[h2];rfl),c3,(by rw[h4];rfl),trivial⟩
 ·skip
  rw[show qaz g=false from by grind[qaz]]
  exact qFx ⟨c1,(by rw[h2];rfl),trivial⟩
theorem qgp(g:Graph)(hg:g.sz≤8388608):Rt 122 [.agg g.e] [.one (B (qaz g))]:=by
 have c1:=qbF (↑(g.nodes.map Node.e).length:Int) 1 8
 rcases ze (inR (↑(g.nodes.map Node.e).length:Int) 1 8) with h2 | h2
 ·skip
  have c3:=qbF g.workers 1 4
  rcases ze (inR g.workers 1 4) with h4 | h4
  ·skip
   have c5:=qbF g.cap 1 4
   rcases ze (inR g.cap 1 4) with h6 | h6
   ·skip
    rcases qJi g hg (by grind[inR]) with⟨hL,l⟩ | ⟨hL,l⟩
    ·skip
     rw[show qaz g=false from by grind[qaz]]
     exact qGf ⟨c1,(by rw[h2];rfl),c3,(by rw[h4];rfl),c5,(by rw[h6];rfl),l,trivial⟩
    ·skip
     rw[show qaz g=true from by grind[qaz]]
     exact qGg ⟨c1,(by rw[h2];rfl),c3,(by rw[h4];rfl),c5,(by rw[h6];rfl),l,trivial⟩
   ·skip
    rw[show qaz g=false from by grind[qaz]]
    exact qFW ⟨c1,(by rw[h2];rfl),c3,(by rw[h4];rfl),c5,(by rw[h6];rfl),trivial⟩
  ·skip
   rw[show qaz g=false from by grind[qaz]]
   exact qFV ⟨c1,(by rw[h2];rfl),c3,(by rw[h4];rfl),trivial⟩
 ·skip
  rw[show qaz g=false from by grind[qaz]]
  exact qFU ⟨c1,(by rw[h2];rfl),trivial⟩
theorem qJj(x:Node)(k v:Int)(hx:x.outs.length≤8388608):Rt 235 [.agg x.e,.one (I k),.one (I v)] [.one (I ((qai x k v).1)),.one (I ((qai x k v).2.1)),.one (B ((qai x k v).2.2))]:=by
 have c1:=qqg x (by grind)
 rcases ze (qab x) with h2 | h2
 ·skip
  have c3:=qbi k 0 99
  rcases ze (inR k 0 99) with h4 | h4
  ·skip
   have c5:=qbi v 0 999
   rcases ze (inR v 0 999) with h6 | h6
   ·skip
    rcases ze (x.kind==2) with h7 | h7
    ·skip
     have c8:=qJe (v+x.a) 999
     rw[show qai x k v=(k,less (v+x.a) 999,true) from by grind[qai,qaF,less,qab,abOk]]
     exact qGB ⟨c1,(by rw[h2];rfl),c3,(by rw[h4];rfl),c5,(by rw[h6];rfl),h7,(by grind[qab,abOk,inR,inInt,qaF]),c8,trivial⟩
    ·skip
     rcases ze (x.kind==4) with h9 | h9
     ·skip
      rw[show qai x k v=((k+x.a).tmod 100,v,true) from by grind[qai,qaF,less,qab,abOk]]
      exact qGC ⟨c1,(by rw[h2];rfl),c3,(by rw[h4];rfl),c5,(by rw[h6];rfl),h7,h9,(by grind[qab,abOk,inR,inInt,qaF]),(by grind[qab,abOk,inR,inInt,qaF]),trivial⟩
     ·skip
      rcases ze (x.kind==3) with h10 | h10
      ·skip
       rw[show qai x k v=(k,v,k.tmod x.a==x.b) from by grind[qai,qaF,less,qab,abOk]]
       exact qGD ⟨c1,(by rw[h2];rfl),c3,(by rw[h4];rfl),c5,(by rw[h6];rfl),h7,h9,h10,(by grind[qab,abOk,inR,inInt,qaF]),trivial⟩
      ·skip
       rw[show qai x k v=(k,v,x.kind != 8) from by grind[qai,qaF,less,qab,abOk]]
       exact qGE ⟨c1,(by rw[h2];rfl),c3,(by rw[h4];rfl),c5,(by rw[h6];rfl),h7,h9,h10,trivial⟩
   ·skip
    rw[show qai x k v=(k,v,false) from by grind[qai,qaF,less,qab,abOk]]
    exact qGA ⟨c1,(by rw[h2];rfl),c3,(by rw[h4];rfl),c5,(by rw[h6];rfl),trivial⟩
  ·skip
   rw[show qai x k v=(k,v,false) from by grind[qai,qaF,less,qab,abOk]]
   exact qGz ⟨c1,(by rw[h2];rfl),c3,(by rw[h4];rfl),trivial⟩
 ·skip
  rw[show qai x k v=(k,v,false) from by grind[qai,qaF,less,qab,abOk]]
  exact qGy ⟨c1,(by rw[h2];rfl),trivial⟩
theorem qJk(x:Node)(k v:Int)(hx:x.outs.length≤8388608):Rt 239 [.agg x.e,.one (I k),.one (I v)] [.one (I ((qai x k v).1)),.one (I ((qai x k v).2.1)),.one (B ((qai x k v).2.2))]:=by
 have c1:=qqh x (by grind)
 rcases ze (qab x) with h2 | h2
 ·skip
  have c3:=qqf k v
  rcases ze (qaF k v) with h4 | h4
  ·skip
   rcases ze (x.kind==2) with h5 | h5
   ·skip
    rw[show qai x k v=(k,if v+x.a<999 then v+x.a else 999,true) from by grind[qai,qaF,less,qab,abOk]]
    exact qGH ⟨c1,(by rw[h2];rfl),c3,(by rw[h4];rfl),h5,(by grind[qab,abOk,inR,inInt,qaF]),trivial⟩
   ·skip
    rcases ze (x.kind==4) with h6 | h6
    ·skip
     rw[show qai x k v=((k+x.a).tmod 100,v,true) from by grind[qai,qaF,less,qab,abOk]]
     exact qGI ⟨c1,(by rw[h2];rfl),c3,(by rw[h4];rfl),h5,h6,(by grind[qab,abOk,inR,inInt,qaF]),(by grind[qab,abOk,inR,inInt,qaF]),trivial⟩
    ·skip
     rcases ze (x.kind==3) with h7 | h7
     ·skip
      rw[show qai x k v=(k,v,k.tmod x.a==x.b) from by grind[qai,qaF,less,qab,abOk]]
      exact qGJ ⟨c1,(by rw[h2];rfl),c3,(by rw[h4];rfl),h5,h6,h7,(by grind[qab,abOk,inR,inInt,qaF]),trivial⟩
     ·skip
      rw[show qai x k v=(k,v,x.kind != 8) from by grind[qai,qaF,less,qab,abOk]]
      exact qGK ⟨c1,(by rw[h2];rfl),c3,(by rw[h4];rfl),h5,h6,h7,trivial⟩
  ·skip
   rw[show qai x k v=(k,v,false) from by grind[qai,qaF,less,qab,abOk]]
   exact qGG ⟨c1,(by rw[h2];rfl),c3,(by rw[h4];rfl),trivial⟩
 ·skip
  rw[show qai x k v=(k,v,false) from by grind[qai,qaF,less,qab,abOk]]
  exact qGF ⟨c1,(by rw[h2];rfl),trivial⟩
def qaA(a b:Cell):Bool:=a.op==b.op&&a.epoch==b.epoch&&a.key==b.key
def qa5(op ep key:Int)(s:Int×Bool)(a:Cell):Int×Bool:=if a.op=op∧a.epoch=ep∧a.key=key∧(s.2=false∨a.val<s.1) then (a.val,true) else s
def qc3(xs:List Cell)(op ep key:Int):Int×Bool:=xs.foldl (qa5 op ep key) (0,false)
theorem qqm(a b:Cell):Rt 258 [.agg a.e,.agg b.e] [.one (B (qaA a b))]:=by
 rcases ze (a.op==b.op) with h1 | h1
 ·skip
  rcases ze (a.epoch==b.epoch) with h2 | h2
  ·skip
   rw[show qaA a b=(a.key==b.key) from by grind[qaA]]
   exact qzZ ⟨h1,h2,trivial⟩
  ·skip
   rw[show qaA a b=false from by grind[qaA]]
   exact qz0 ⟨h1,h2,trivial⟩
 ·skip
  rw[show qaA a b=false from by grind[qaA]]
  exact qz1 ⟨h1,trivial⟩
theorem qJl(xs:List Cell)(hl:xs.length≤8388608)(op ep key m:Int)(f:Bool)(i:Nat)(a:Cell)(ha:xs[i]?=some a):Tr prog (qaa f248 0) (qbP (xs.map Cell.e) op ep key i f m) .normal (qbP (xs.map Cell.e) op ep key ((i+1:Nat):Int) (qa5 op ep key (m,f) a).2 (qa5 op ep key (m,f) a).1):=by
 have hj:=lt_of ha
 have hk1:xs[(i:Int).toNat]?=some a:=by simpa using ha
 have hj1:decide ((i:Int)<(↑(xs.map Cell.e).length:Int))=true:=lt1 hj
 rcases ze (a.op==op) with h1 | h1
 ·skip
  rcases ze (a.epoch==ep) with h2 | h2
  ·skip
   rcases ze (a.key==key) with h3 | h3
   ·skip
    rcases ze (f) with h4 | h4
    ·skip
     rcases ze (decide (a.val<m)) with h5 | h5
     ·skip
      rw[show qa5 op ep key (m,f) a=(a.val,true) from by grind[qa5,qaA]]
      exact qAD ⟨hj1,(by grind[inInt]),(by grind[inInt]),(qad Cell.e hk1),h1,h2,h3,(by rw[h4];rfl),h5,(by grind[inInt]),trivial⟩
     ·skip
      rw[show qa5 op ep key (m,f) a=(m,f) from by grind[qa5,qaA]]
      exact qAE ⟨hj1,(by grind[inInt]),(by grind[inInt]),(qad Cell.e hk1),h1,h2,h3,(by rw[h4];rfl),h5,(by grind[inInt]),trivial⟩
    ·skip
     rw[show qa5 op ep key (m,f) a=(a.val,true) from by grind[qa5,qaA]]
     exact qAC ⟨hj1,(by grind[inInt]),(by grind[inInt]),(qad Cell.e hk1),h1,h2,h3,(by rw[h4];rfl),(by grind[inInt]),trivial⟩
   ·skip
    rw[show qa5 op ep key (m,f) a=(m,f) from by grind[qa5,qaA]]
    exact qAF ⟨hj1,(by grind[inInt]),(by grind[inInt]),(qad Cell.e hk1),h1,h2,h3,(by grind[inInt]),trivial⟩
  ·skip
   rw[show qa5 op ep key (m,f) a=(m,f) from by grind[qa5,qaA]]
   exact qAG ⟨hj1,(by grind[inInt]),(by grind[inInt]),(qad Cell.e hk1),h1,h2,(by grind[inInt]),trivial⟩
 ·skip
  rw[show qa5 op ep key (m,f) a=(m,f) from by grind[qa5,qaA]]
  exact qAH ⟨hj1,(by grind[inInt]),(by grind[inInt]),(qad Cell.e hk1),h1,(by grind[inInt]),trivial⟩
theorem qJm(xs:List Cell)(hl:xs.length≤8388608)(op ep key m:Int)(f:Bool)(i:Nat)(a:Cell)(ha:xs[i]?=some a):Tr prog (qaa f255 0) (qct (xs.map Cell.e) op ep key i f m) .normal (qct (xs.map Cell.e) op ep key ((i+1:Nat):Int) (qa5 op ep key (m,f) a).2 (qa5 op ep key (m,f) a).1):=by
 have hj:=lt_of ha
 have hk1:xs[(i:Int).toNat]?=some a:=by simpa using ha
 have hj1:decide ((i:Int)<(↑(xs.map Cell.e).length:Int))=true:=lt1 hj
 have c1:=qqm a (⟨op,ep,key,0⟩:Cell)
 rcases ze (qaA a (⟨op,ep,key,0⟩:Cell)) with h2 | h2
 ·skip
  rcases ze (f) with h3 | h3
  ·skip
   rcases ze (decide (a.val<m)) with h4 | h4
   ·skip
    rw[show qa5 op ep key (m,f) a=(a.val,true) from by grind[qa5,qaA]]
    exact qz9 ⟨hj1,(by grind[inInt]),(by grind[inInt]),(qad Cell.e hk1),c1,h2,(by rw[h3];rfl),h4,(by grind[inInt]),trivial⟩
   ·skip
    rw[show qa5 op ep key (m,f) a=(m,f) from by grind[qa5,qaA]]
    exact qAa ⟨hj1,(by grind[inInt]),(by grind[inInt]),(qad Cell.e hk1),c1,h2,(by rw[h3];rfl),h4,(by grind[inInt]),trivial⟩
  ·skip
   rw[show qa5 op ep key (m,f) a=(a.val,true) from by grind[qa5,qaA]]
   exact qz8 ⟨hj1,(by grind[inInt]),(by grind[inInt]),(qad Cell.e hk1),c1,h2,(by rw[h3];rfl),(by grind[inInt]),trivial⟩
 ·skip
  rw[show qa5 op ep key (m,f) a=(m,f) from by grind[qa5,qaA]]
  exact qAb ⟨hj1,(by grind[inInt]),(by grind[inInt]),(qad Cell.e hk1),c1,h2,(by grind[inInt]),trivial⟩
theorem qqn(xs:List Cell)(op ep key:Int)(hl:xs.length≤8388608):Rt 248 [.one (.sl 4 (xs.map Cell.e)),.one (I op),.one (I ep),.one (I key)] [.one (I (qc3 xs op ep key).1),.one (B (qc3 xs op ep key).2)]:=by
 have l:=qaq (P:=prog) (c:=(qaa f248 0)) (qaf 0) xs.length (fun i:Nat=>qbP (xs.map Cell.e) op ep key i (qdB (qa5 op ep key) (0,false) xs i).2 (qdB (qa5 op ep key) (0,false) xs i).1) (fun i hi=>by
  obtain⟨a,ha⟩:=qag hi
  rw[qnX ha]
  exact qJl xs hl op ep key _ _ i a ha) (qAI ⟨ge1,trivial⟩)
 rw[qnY]at l
 exact qAJ ⟨l,trivial⟩
theorem qJn(xs:List Cell)(op ep key:Int)(hl:xs.length≤8388608):Rt 255 [.one (.sl 4 (xs.map Cell.e)),.one (I op),.one (I ep),.one (I key)] [.one (I (qc3 xs op ep key).1),.one (B (qc3 xs op ep key).2)]:=by
 have l:=qaq (P:=prog) (c:=(qaa f255 0)) (qaf 0) xs.length (fun i:Nat=>qct (xs.map Cell.e) op ep key i (qdB (qa5 op ep key) (0,false) xs i).2 (qdB (qa5 op ep key) (0,false) xs i).1) (fun i hi=>by
  obtain⟨a,ha⟩:=qag hi
  rw[qnX ha]
  exact qJm xs hl op ep key _ _ i a ha) (qAc ⟨ge1,trivial⟩)
 rw[qnY]at l
 exact qAd ⟨l,trivial⟩
end Go.Proofs.YtdanpadojemjeaaGreat
namespace Go.Proofs.YtdanpadojemjeaaGreat
open Go.Sx Go.RowKit Go.Proofs.Tryz
theorem qKc{P:Program}{f:Nat}{args:List GA}{k:Nat}{l l':List (List D)}(h:RetG P f args [.one (.sl k l)])(hl:l=l'):RetG P f args [.one (.sl k l')]:=hl▸h
theorem qlD(xs:List Cell)(p:Cell→Bool)(g:Nat)(caps:List D)(hl:xs.length≤8388608)(hc:qaX prog g=true)(hp:∀x∈xs,∀r,p x=r→Rt g ([.agg x.e]++caps.map .one) [.one (B r)]):
  ∀(n i:Nat) (ys:List Cell),n+i=xs.length→ys.length=xs.length→ys.drop i=xs.drop i→ys.take ((xs.take i).filter fun a=>!p a).length=(xs.take i).filter (fun a=>!p a)→
  ∃zs:List Cell,qan prog (qaa f256 0) (qdX g caps i ((xs.take i).filter fun a=>!p a).length (ys.map Cell.e)) (.exit 0) (qk4 (zs.map Cell.e) (xs.filter fun a=>!p a).length)∧zs.length=xs.length∧zs.take (xs.filter fun a=>!p a).length=xs.filter (fun a=>!p a)
 | 0,i,ys,hi,hy,_,ht=>by
  have e:xs.take i=xs:=zbk (by omega)
  rw[e]at ht ⊢
  exact⟨ys,.last (qaf 0) (qz6 _ _ _ _ _ ⟨dF (by simp;omega),trivial⟩),hy,ht⟩
 | n+1,i,ys,hi,hy,hd,ht=>by
  obtain⟨a,ha⟩:=qag (xs:=xs) (i:=i) (by omega)
  have hya:ys[i]?=some a:=by
   have e1:ys[i]?=(ys.drop i)[0]?:=by simp
   have e2:xs[i]?=(xs.drop i)[0]?:=by simp
   rw[e1,hd,←e2,ha]
  have hf:=qgX (fun a=>!p a) ha
  have hle:=qiM (fun a=>!p a) xs i
  have hdn:ys.drop (i+1)=xs.drop (i+1):=by
   have:=congrArg (List.drop 1) hd
   simpa[List.drop_drop,Nat.add_comm]using this
  cases h:p a with
  | true=>
   rw[h]at hf
   simp only[zZ,zao,zci,zaa]at hf
   obtain⟨zs,h1,h2,h3⟩:=qlD xs p g caps hl hc hp n (i+1) ys (by omega) hy hdn (by rw[hf];exact ht)
   rw[hf]at h1
   exact⟨zs,.more (qz5 _ _ _ _ _ _ _ _ _ _ ⟨dT (by simp;omega),lt0,by simp;omega,qac Cell.e hya,hc,hp a (qas ha) true h,rfl,⟨by omega,by omega⟩,trivial⟩) h1,h2,h3⟩
  | false=>
   rw[h]at hf
   simp only[zbc,zbb]at hf
   generalize hj:((xs.take i).filter fun a=>!p a).length=j at*
   obtain⟨b,hb⟩:=qag (xs:=ys) (i:=j) (by omega)
   obtain⟨zs,h1,h2,h3⟩:=qlD xs p g caps hl hc hp n (i+1) (ys.set j a) (by omega) (by simpa using hy) (by rw[List.drop_set_of_lt (by omega)];exact hdn) (by
    rw[hf,zab,hj,List.length_singleton,List.take_set,←ht]
    have hjl:j<ys.length:=by omega
    rw[List.take_succ_eq_append_getElem hjl,List.set_append_right _ _ (by simp;omega)]
    simp[zay,Nat.min_eq_left (Nat.le_of_lt hjl)])
   rw[hf,zab,hj,List.length_singleton]at h1
   refine⟨zs,.more (tr_to (fun l=>qdX g caps ((i+1:Nat):Int) ((j+1:Nat):Int) l) (qz4 _ _ _ _ _ _ _ _ _ _ _ _ _ _ ⟨dT (by simp;omega),lt0,by simp;omega,qac Cell.e hya,hc,hp a (qas ha) false h,rfl,lt0,by simp;omega,qac Cell.e hb,⟨by omega,by omega⟩,⟨by omega,by omega⟩,trivial⟩) ?_) h1,h2,h3⟩
   show List.set _ _ a.e=_
   rw[zae,←zau]
theorem qKd(xs:List Cell)(p:Cell→Bool)(g:Nat)(caps:List D)(hl:xs.length≤8388608)(hc:qaX prog g=true)(hp:∀x∈xs,Rt g ([.agg x.e]++caps.map .one) [.one (B (p x))]):
  RetG prog 256 [.one (.gv 4 (xs.map Cell.e) none),.one (.ro (.cl g caps))] [.one (.sl 4 ((xs.filter fun a=>!p a).map Cell.e))]:=by
 have hp':∀x∈xs,∀r,p x=r→Rt g ([.agg x.e]++caps.map .one) [.one (B r)]:=fun x hx r h=>h▸hp x hx
 have ix:=qCN xs p g caps hl hc hp
 unfold idxI at ix
 cases h:xs.findIdx? p with
 | none=>
  rw[h]at ix
  rw[zbs]at h
  have e:(xs.filter fun a=>!p a)=xs:=List.filter_eq_self.2 fun a ha=>by simp[h a ha]
  rw[e]
  exact qz3 _ _ _ _ ⟨ix,rfl,trivial⟩
 | some i=>
  rw[h]at ix
  change Ret _ _ _ [.one (I (i:Int))]at ix
  rw[zai]at h
  obtain⟨hi,h2,h3⟩:=h
  have hx:xs[i]?=some xs[i]:=zu hi
  have e0:(xs.take i).filter (fun a=>!p a)=xs.take i:=List.filter_eq_self.2 fun a ha=>by
   obtain⟨j,hj,rfl⟩:=List.getElem_of_mem ha
   have hji:j<i:=by simp at hj;omega
   have:=h3 j hji
   simpa using this
  have e1:=qgX (fun a=>!p a) hx
  rw[h2]at e1
  simp only[zZ,zao,zci,zaa]at e1
  rw[e0]at e1
  have e2:(xs.take i).length=i:=by rw[zay];omega
  obtain⟨zs,l,hz,ht⟩:=qlD xs p g caps hl hc hp' (xs.length-(i+1)) (i+1) xs (by omega) rfl rfl (by rw[e1,e2])
  rw[e1,e2]at l
  have hlt:(xs.filter fun a=>!p a).length<xs.length:=by
   have e3:xs.filter (fun a=>!p a)=xs.take i++(xs.drop (i+1)).filter fun a=>!p a:=by
    have:=zcb (i+1) xs
    rw[←this,List.filter_append,this,e1]
   rw[e3,zab,e2]
   have:=zat (fun a=>!p a) (xs.drop (i+1))
   rw[List.length_drop]at this
   omega
  generalize xs.filter (fun a=>!p a)=fs at*
  refine qKc (qz7 _ _ _ _ _ _ ⟨ix,zbq.2 (by omega),⟨by omega,by omega⟩,l,by simp,by simp;omega,qae _ Cell.flat _,by simp,by simp,by simp;omega,trivial⟩) ?_
  simp only[zV,zae,Nat.sub_zero,zck,←zcr]
  rw[ht,zbw (by simp),zbk (by simp)]
def qaN(k:Int):Bool:=k==5||k==6||k==8
def qbm(xs:List Cell)(x:Cell):List Cell×Bool:=
 if (qc3 xs x.op x.epoch x.key).2&&decide ((qc3 xs x.op x.epoch x.key).1≤x.val) then (xs,false) else (qbD (xs.filter fun a=>!qaA x a) x,true)
def qaj(kind:Int)(xs:List Cell)(x:Cell):List Cell×Bool:=
 if kind=6 then (if qcu xs x then (xs,false) else (qbD xs x,true))
 else if kind=5∨kind=8 then qbm xs x
 else (xs,true)
theorem qqr(k:Int):Rt 236 [.one (I k)] [.one (B (qaN k))]:=by
 rcases ze (k==5) with h1 | h1
 ·skip
  rw[show qaN k=true from by grind[qaN]]
  exact qAK ⟨h1,trivial⟩
 ·skip
  rcases ze (k==6) with h2 | h2
  ·skip
   rw[show qaN k=true from by grind[qaN]]
   exact qAL ⟨h1,h2,trivial⟩
  ·skip
   rw[show qaN k=(k==8) from by grind[qaN]]
   exact qAM ⟨h1,h2,trivial⟩
theorem qqs(xs:List Cell)(x:Cell)(hl:xs.length≤8388608):Rt 249 [.one (.sl 4 (xs.map Cell.e)),.agg x.e] [.one (.sl 4 ((qbm xs x).1.map Cell.e)),.one (B (qbm xs x).2)]:=by
 have c:=qJn xs x.op x.epoch x.key hl
 have cp:=qdY xs hl
 have d:=qKd xs (qaA x) 257 [D.ptr x.e] hl (by kernel_rfl) (fun y _=>qz2 ⟨qqm x y,trivial⟩)
 have pc:=qpV (xs.filter fun a=>!qaA x a) x (zce (zat ..) hl)
 unfold qbm
 generalize qc3 xs x.op x.epoch x.key=m at*
 obtain⟨v,f⟩:=m
 cases f with
 | false=>exact qAg ⟨c,rfl,cp,d,pc,trivial⟩
 | true=>
  by_cases h:v≤x.val
  ·rw[dT h]
   exact qAe ⟨c,rfl,dT h,cp,trivial⟩
  ·rw[dF h]
   exact qAf ⟨c,rfl,dF h,cp,d,pc,trivial⟩
theorem qKe(xs acc:List Cell)(x:Cell)(hl:xs.length≤8388608)(i:Nat)(hc:acc.length≤i)(a:Cell)(ha:xs[i]?=some a):Tr prog (qaa f237 0) (qbQ (xs.map Cell.e) x.op x.epoch x.key x.val i (acc.map Cell.e)) .normal (qbQ (xs.map Cell.e) x.op x.epoch x.key x.val ((i+1:Nat):Int) ((acc++(bif qaA x a then [] else [a])).map Cell.e)):=by
 have hj:=lt_of ha
 have hk1:xs[(i:Int).toNat]?=some a:=by simpa using ha
 have hj1:decide ((i:Int)<(↑(xs.map Cell.e).length:Int))=true:=lt1 hj
 rcases ze (a.op != x.op) with h1 | h1
 ·skip
  have hs:qaA x a=false:=by grind[qaA]
  rw[hs]
  rw[show (acc++(bif false then [] else [a])).map Cell.e=acc.map Cell.e++[a.e] from by simp]
  exact qAQ ⟨hj1,(by first | omega | (simp only[zb,zq,zh];omega) | exact qau a.flat | (exact⟨by omega,by omega⟩)),(by first | omega | (simp only[zb,zq,zh];omega) | exact qau a.flat | (exact⟨by omega,by omega⟩)),(qad Cell.e hk1),h1,(by first | omega | (simp only[zb,zq,zh];omega) | exact qau a.flat | (exact⟨by omega,by omega⟩)),(by first | omega | (simp only[zb,zq,zh];omega) | exact qau a.flat | (exact⟨by omega,by omega⟩)),(qad Cell.e hk1),(by first | omega | (simp only[zb,zq,zh];omega) | exact qau a.flat | (exact⟨by omega,by omega⟩)),(by first | omega | (simp only[zb,zq,zh];omega) | exact qau a.flat | (exact⟨by omega,by omega⟩)),(by first | omega | (simp only[zb,zq,zh];omega) | exact qau a.flat | (exact⟨by omega,by omega⟩)),(by first | omega | (simp only[zb,zq,zh];omega) | exact qau a.flat | (exact⟨by omega,by omega⟩)),trivial⟩
 ·skip
  rcases ze (a.epoch != x.epoch) with h2 | h2
  ·skip
   have hs:qaA x a=false:=by grind[qaA]
   rw[hs]
   rw[show (acc++(bif false then [] else [a])).map Cell.e=acc.map Cell.e++[a.e] from by simp]
   exact qAR ⟨hj1,(by first | omega | (simp only[zb,zq,zh];omega) | exact qau a.flat | (exact⟨by omega,by omega⟩)),(by first | omega | (simp only[zb,zq,zh];omega) | exact qau a.flat | (exact⟨by omega,by omega⟩)),(qad Cell.e hk1),h1,(by first | omega | (simp only[zb,zq,zh];omega) | exact qau a.flat | (exact⟨by omega,by omega⟩)),(by first | omega | (simp only[zb,zq,zh];omega) | exact qau a.flat | (exact⟨by omega,by omega⟩)),(qad Cell.e hk1),h2,(by first | omega | (simp only[zb,zq,zh];omega) | exact qau a.flat | (exact⟨by omega,by omega⟩)),(by first | omega | (simp only[zb,zq,zh];omega) | exact qau a.flat | (exact⟨by omega,by omega⟩)),(qad Cell.e hk1),(by first | omega | (simp only[zb,zq,zh];omega) | exact qau a.flat | (exact⟨by omega,by omega⟩)),(by first | omega | (simp only[zb,zq,zh];omega) | exact qau a.flat | (exact⟨by omega,by omega⟩)),(by first | omega | (simp only[zb,zq,zh];omega) | exact qau a.flat | (exact⟨by omega,by omega⟩)),(by first | omega | (simp only[zb,zq,zh];omega) | exact qau a.flat | (exact⟨by omega,by omega⟩)),trivial⟩
  ·skip
   rcases ze (a.key != x.key) with h3 | h3
   ·skip
    have hs:qaA x a=false:=by grind[qaA]
    rw[hs]
    rw[show (acc++(bif false then [] else [a])).map Cell.e=acc.map Cell.e++[a.e] from by simp]
    exact qAS ⟨hj1,(by first | omega | (simp only[zb,zq,zh];omega) | exact qau a.flat | (exact⟨by omega,by omega⟩)),(by first | omega | (simp only[zb,zq,zh];omega) | exact qau a.flat | (exact⟨by omega,by omega⟩)),(qad Cell.e hk1),h1,(by first | omega | (simp only[zb,zq,zh];omega) | exact qau a.flat | (exact⟨by omega,by omega⟩)),(by first | omega | (simp only[zb,zq,zh];omega) | exact qau a.flat | (exact⟨by omega,by omega⟩)),(qad Cell.e hk1),h2,(by first | omega | (simp only[zb,zq,zh];omega) | exact qau a.flat | (exact⟨by omega,by omega⟩)),(by first | omega | (simp only[zb,zq,zh];omega) | exact qau a.flat | (exact⟨by omega,by omega⟩)),(qad Cell.e hk1),h3,(by first | omega | (simp only[zb,zq,zh];omega) | exact qau a.flat | (exact⟨by omega,by omega⟩)),(by first | omega | (simp only[zb,zq,zh];omega) | exact qau a.flat | (exact⟨by omega,by omega⟩)),(qad Cell.e hk1),(by first | omega | (simp only[zb,zq,zh];omega) | exact qau a.flat | (exact⟨by omega,by omega⟩)),(by first | omega | (simp only[zb,zq,zh];omega) | exact qau a.flat | (exact⟨by omega,by omega⟩)),(by first | omega | (simp only[zb,zq,zh];omega) | exact qau a.flat | (exact⟨by omega,by omega⟩)),(by first | omega | (simp only[zb,zq,zh];omega) | exact qau a.flat | (exact⟨by omega,by omega⟩)),trivial⟩
   ·skip
    have hs:qaA x a=true:=by grind[qaA]
    rw[hs]
    rw[show (acc++(bif true then [] else [a])).map Cell.e=acc.map Cell.e from by simp]
    exact qAT ⟨hj1,(by first | omega | (simp only[zb,zq,zh];omega) | exact qau a.flat | (exact⟨by omega,by omega⟩)),(by first | omega | (simp only[zb,zq,zh];omega) | exact qau a.flat | (exact⟨by omega,by omega⟩)),(qad Cell.e hk1),h1,(by first | omega | (simp only[zb,zq,zh];omega) | exact qau a.flat | (exact⟨by omega,by omega⟩)),(by first | omega | (simp only[zb,zq,zh];omega) | exact qau a.flat | (exact⟨by omega,by omega⟩)),(qad Cell.e hk1),h2,(by first | omega | (simp only[zb,zq,zh];omega) | exact qau a.flat | (exact⟨by omega,by omega⟩)),(by first | omega | (simp only[zb,zq,zh];omega) | exact qau a.flat | (exact⟨by omega,by omega⟩)),(qad Cell.e hk1),h3,(by first | omega | (simp only[zb,zq,zh];omega) | exact qau a.flat | (exact⟨by omega,by omega⟩)),trivial⟩
theorem qKf(p:Cell→Bool){xs:List Cell}{i:Nat}{a:Cell}(h:xs[i]?=some a):(xs.take (i+1)).filter (fun b=>!p b)=(xs.take i).filter (fun b=>!p b)++(bif p a then [] else [a]):=by
 rw[qgX _ h]
 cases p a<;>rfl
theorem qi7(xs:List Cell)(x:Cell)(hl:xs.length≤8388608):qan prog (qaa f237 0) (qbQ (xs.map Cell.e) x.op x.epoch x.key x.val 0 []) (.exit 1) (qgd x.op x.epoch x.key x.val ((xs.filter fun a=>!qaA x a).map Cell.e)):=by
 have l:=qaq (P:=prog) (c:=(qaa f237 0)) (qaf 1) xs.length (fun i:Nat=>qbQ (xs.map Cell.e) x.op x.epoch x.key x.val i (((xs.take i).filter fun a=>!qaA x a).map Cell.e)) (fun i hi=>by
  obtain⟨a,ha⟩:=qag hi
  rw[qKf (qaA x) ha]
  exact qKe xs _ x hl i (qiM _ xs i) a ha) (qAU ⟨ge1,trivial⟩)
 rw[zC]at l
 exact l
theorem qqt(kind:Int)(xs:List Cell)(x:Cell)(hl:xs.length≤8388608):Rt 237 [.one (I kind),.one (.sl 4 (xs.map Cell.e)),.agg x.e] [.one (.sl 4 (((qaj kind xs x).1).map Cell.e)),.one (B ((qaj kind xs x).2))]:=by
 have hf:=zat (fun a=>!qaA x a) xs
 rcases ze (kind==6) with h1 | h1
 ·skip
  have c2:=qpR xs x (by omega)
  rcases ze (qcu xs x) with h3 | h3
  ·skip
   rw[show qaj kind xs x=(xs,false) from by grind[qaj,qbm]]
   exact qAN ⟨(by first | omega | (simp only[zb,zh];omega) | exact qae _ Cell.flat _ | grind[inInt]),(by first | omega | (simp only[zb,zh];omega) | exact qae _ Cell.flat _ | grind[inInt]),(by first | omega | (simp only[zb,zh];omega) | exact qae _ Cell.flat _ | grind[inInt]),h1,c2,h3,trivial⟩
  ·skip
   have c4:=qhv xs x (by omega)
   rw[show qaj kind xs x=((qbD xs x),true) from by grind[qaj,qbm]]
   exact qAO ⟨(by first | omega | (simp only[zb,zh];omega) | exact qae _ Cell.flat _ | grind[inInt]),(by first | omega | (simp only[zb,zh];omega) | exact qae _ Cell.flat _ | grind[inInt]),(by first | omega | (simp only[zb,zh];omega) | exact qae _ Cell.flat _ | grind[inInt]),h1,c2,h3,c4,trivial⟩
 ·skip
  rcases ze (kind==5) with h5 | h5
  ·skip
   have c6:=qqn xs x.op x.epoch x.key (by omega)
   rcases ze ((qc3 xs x.op x.epoch x.key).2) with h7 | h7
   ·skip
    rcases ze (decide (((qc3 xs x.op x.epoch x.key).1)≤x.val)) with h8 | h8
    ·skip
     rw[show qaj kind xs x=(xs,false) from by grind[qaj,qbm]]
     exact qAP ⟨(by first | omega | (simp only[zb,zh];omega) | exact qae _ Cell.flat _ | grind[inInt]),(by first | omega | (simp only[zb,zh];omega) | exact qae _ Cell.flat _ | grind[inInt]),(by first | omega | (simp only[zb,zh];omega) | exact qae _ Cell.flat _ | grind[inInt]),h1,h5,h5,c6,h7,h8,trivial⟩
    ·skip
     
     have c9:=qhv (xs.filter fun a=>!qaA x a) x (by omega)
     rw[show qaj kind xs x=((qbD (xs.filter fun a=>!qaA x a) x),true) from by grind[qaj,qbm]]
     exact qAV ⟨(by first | omega | (simp only[zb,zh];omega) | exact qae _ Cell.flat _ | grind[inInt]),(by first | omega | (simp only[zb,zh];omega) | exact qae _ Cell.flat _ | grind[inInt]),(by first | omega | (simp only[zb,zh];omega) | exact qae _ Cell.flat _ | grind[inInt]),h1,h5,h5,c6,h7,h8,(qi7 xs x hl),c9,trivial⟩
   ·skip
    
    have c10:=qhv (xs.filter fun a=>!qaA x a) x (by omega)
    rw[show qaj kind xs x=((qbD (xs.filter fun a=>!qaA x a) x),true) from by grind[qaj,qbm]]
    exact qAW ⟨(by first | omega | (simp only[zb,zh];omega) | exact qae _ Cell.flat _ | grind[inInt]),(by first | omega | (simp only[zb,zh];omega) | exact qae _ Cell.flat _ | grind[inInt]),(by first | omega | (simp only[zb,zh];omega) | exact qae _ Cell.flat _ | grind[inInt]),h1,h5,h5,c6,h7,(qi7 xs x hl),c10,trivial⟩
  ·skip
   rcases ze (kind==8) with h11 | h11
   ·skip
    have c12:=qqn xs x.op x.epoch x.key (by omega)
    rcases ze ((qc3 xs x.op x.epoch x.key).2) with h13 | h13
    ·skip
     rcases ze (decide (((qc3 xs x.op x.epoch x.key).1)≤x.val)) with h14 | h14
     ·skip
      rw[show qaj kind xs x=(xs,false) from by grind[qaj,qbm]]
      exact qAX ⟨(by first | omega | (simp only[zb,zh];omega) | exact qae _ Cell.flat _ | grind[inInt]),(by first | omega | (simp only[zb,zh];omega) | exact qae _ Cell.flat _ | grind[inInt]),(by first | omega | (simp only[zb,zh];omega) | exact qae _ Cell.flat _ | grind[inInt]),h1,h5,h11,c12,h13,h14,trivial⟩
     ·skip
      
      have c15:=qhv (xs.filter fun a=>!qaA x a) x (by omega)
      rw[show qaj kind xs x=((qbD (xs.filter fun a=>!qaA x a) x),true) from by grind[qaj,qbm]]
      exact qAY ⟨(by first | omega | (simp only[zb,zh];omega) | exact qae _ Cell.flat _ | grind[inInt]),(by first | omega | (simp only[zb,zh];omega) | exact qae _ Cell.flat _ | grind[inInt]),(by first | omega | (simp only[zb,zh];omega) | exact qae _ Cell.flat _ | grind[inInt]),h1,h5,h11,c12,h13,h14,(qi7 xs x hl),c15,trivial⟩
    ·skip
     
     have c16:=qhv (xs.filter fun a=>!qaA x a) x (by omega)
     rw[show qaj kind xs x=((qbD (xs.filter fun a=>!qaA x a) x),true) from by grind[qaj,qbm]]
     exact qAZ ⟨(by first | omega | (simp only[zb,zh];omega) | exact qae _ Cell.flat _ | grind[inInt]),(by first | omega | (simp only[zb,zh];omega) | exact qae _ Cell.flat _ | grind[inInt]),(by first | omega | (simp only[zb,zh];omega) | exact qae _ Cell.flat _ | grind[inInt]),h1,h5,h11,c12,h13,(qi7 xs x hl),c16,trivial⟩
   ·skip
    rw[show qaj kind xs x=(xs,true) from by grind[qaj,qbm]]
    exact qA0 ⟨(by first | omega | (simp only[zb,zh];omega) | exact qae _ Cell.flat _ | grind[inInt]),(by first | omega | (simp only[zb,zh];omega) | exact qae _ Cell.flat _ | grind[inInt]),(by first | omega | (simp only[zb,zh];omega) | exact qae _ Cell.flat _ | grind[inInt]),h1,h5,h11,trivial⟩
theorem qqu(kind:Int)(xs:List Cell)(x:Cell)(hl:xs.length≤8388608):Rt 240 [.one (I kind),.one (.sl 4 (xs.map Cell.e)),.agg x.e] [.one (.sl 4 (((qaj kind xs x).1).map Cell.e)),.one (B ((qaj kind xs x).2))]:=by
 rcases ze (kind==5) with h1 | h1
 ·skip
  have c2:=qqs xs x (by omega)
  rw[show qaj kind xs x=(((qbm xs x).1),(qbm xs x).2) from by grind[qaj,qbm,qbD]]
  exact qAh ⟨h1,h1,c2,trivial⟩
 ·skip
  rcases ze (kind==8) with h3 | h3
  ·skip
   have c4:=qqs xs x (by omega)
   rw[show qaj kind xs x=(((qbm xs x).1),(qbm xs x).2) from by grind[qaj,qbm,qbD]]
   exact qAi ⟨h1,h3,c4,trivial⟩
  ·skip
   rcases ze (kind==6) with h5 | h5
   ·skip
    have c6:=qpV xs x (by omega)
    have c7:=qpT xs x (by omega)
    rw[show qaj kind xs x=((qbD xs x),!(qcu xs x)) from by grind[qaj,qbm,qbD]]
    exact qAj ⟨h1,h3,h5,c6,c7,trivial⟩
   ·skip
    have c8:=qdY xs (by omega)
    rw[show qaj kind xs x=(xs,true) from by grind[qaj,qbm,qbD]]
    exact qAk ⟨h1,h3,h5,c8,trivial⟩
def sends(x:Node)(s:Stamp)(key val:Int):List Record:=x.outs.map fun k=>⟨k,s,key,val⟩
def cellOf(r:Record):Cell:=⟨r.op,r.stamp.epoch,r.key,r.val⟩
def qat(g:Graph)(cs:List Cell)(r:Record)(x:Node):List Cell×List Record×Bool:=
 if qaz g&&qaI r then
  if !(qai x r.key r.val).2.2&&x.kind != 8 then (cs,[],true)
  else if !(qaj x.kind cs ⟨r.op,r.stamp.epoch,r.key,r.val⟩).2 then ((qaj x.kind cs ⟨r.op,r.stamp.epoch,r.key,r.val⟩).1,[],true)
  else if x.kind=7 then
   ((qaj x.kind cs ⟨r.op,r.stamp.epoch,r.key,r.val⟩).1,(bif (qaE r.stamp).2 then sends x (qaE r.stamp).1 (qai x r.key r.val).1 (qai x r.key r.val).2.1 else []),true)
  else ((qaj x.kind cs ⟨r.op,r.stamp.epoch,r.key,r.val⟩).1,sends x r.stamp (qai x r.key r.val).1 (qai x r.key r.val).2.1,true)
 else (cs,[],false)
theorem qgq(x:Node)(s:Stamp)(key val:Int){i:Nat}{k:Int}(h:x.outs[i]?=some k):(((x.outs.take (i+1)).map fun k=>(⟨k,s,key,val⟩:Record)).map Record.e)=(((x.outs.take i).map fun k=>(⟨k,s,key,val⟩:Record)).map Record.e)++[(⟨k,s,key,val⟩:Record).e]:=by
 simp[zbe,h]
theorem qqv(x:Node)(hx:x.outs.length≤8388608)(s:Stamp)(key val:Int)(nx:List (List D)):qan prog (qaa f210 0) (qff x.kind x.a x.b (x.outs.map eI) key val nx s.epoch s.turn 0 []) (.exit 0) (qea nx ((sends x s key val).map Record.e)):=by
 have l:=qaq (P:=prog) (c:=(qaa f210 0)) (qaf 0) x.outs.length (fun i:Nat=>qff x.kind x.a x.b (x.outs.map eI) key val nx s.epoch s.turn i (((x.outs.take i).map fun k=>(⟨k,s,key,val⟩:Record)).map Record.e)) (fun i hi=>by
  obtain⟨k,hk⟩:=qag hi
  rw[qgq x s key val hk]
  exact qJA ⟨lt1 hi,lt0,lt2 hi,qac eI hk,by simp;omega,by simp;omega,qau (Record.flat ⟨k,s,key,val⟩),up1 hi hx,trivial⟩) (qJB ⟨ge1,trivial⟩)
 rw[zC]at l
 exact l
theorem qqw(x:Node)(hx:x.outs.length≤8388608)(s:Stamp)(key val:Int)(nx:List (List D)):qan prog (qaa f210 0) (qfg s.epoch s.turn x.kind x.a x.b (x.outs.map eI) key val nx 0 []) (.exit 0) (qea nx ((sends x s key val).map Record.e)):=by
 have l:=qaq (P:=prog) (c:=(qaa f210 0)) (qaf 0) x.outs.length (fun i:Nat=>qfg s.epoch s.turn x.kind x.a x.b (x.outs.map eI) key val nx i (((x.outs.take i).map fun k=>(⟨k,s,key,val⟩:Record)).map Record.e)) (fun i hi=>by
  obtain⟨k,hk⟩:=qag hi
  rw[qgq x s key val hk]
  exact qJD ⟨lt1 hi,lt0,lt2 hi,qac eI hk,by simp;omega,by simp;omega,qau (Record.flat ⟨k,s,key,val⟩),up1 hi hx,trivial⟩) (qJE ⟨ge1,trivial⟩)
 rw[zC]at l
 exact l
theorem qqx(x:Node)(hx:x.outs.length≤8388608)(s:Stamp)(key val:Int)(nx:List (List D)):qan prog (qaa f210 0) (qfh nx x.kind x.a x.b (x.outs.map eI) key val s.epoch s.turn 0 []) (.exit 0) (qeb nx ((sends x s key val).map Record.e)):=by
 have l:=qaq (P:=prog) (c:=(qaa f210 0)) (qaf 0) x.outs.length (fun i:Nat=>qfh nx x.kind x.a x.b (x.outs.map eI) key val s.epoch s.turn i (((x.outs.take i).map fun k=>(⟨k,s,key,val⟩:Record)).map Record.e)) (fun i hi=>by
  obtain⟨k,hk⟩:=qag hi
  rw[qgq x s key val hk]
  exact qJH ⟨lt1 hi,lt0,lt2 hi,qac eI hk,by simp;omega,by simp;omega,qau (Record.flat ⟨k,s,key,val⟩),up1 hi hx,trivial⟩) (qJI ⟨ge1,trivial⟩)
 rw[zC]at l
 exact l
theorem qqy(x:Node)(hx:x.outs.length≤8388608)(s:Stamp)(key val:Int)(nx:List (List D)):qan prog (qaa f210 0) (qfi nx s.epoch s.turn x.kind x.a x.b (x.outs.map eI) key val 0 []) (.exit 0) (qeb nx ((sends x s key val).map Record.e)):=by
 have l:=qaq (P:=prog) (c:=(qaa f210 0)) (qaf 0) x.outs.length (fun i:Nat=>qfi nx s.epoch s.turn x.kind x.a x.b (x.outs.map eI) key val i (((x.outs.take i).map fun k=>(⟨k,s,key,val⟩:Record)).map Record.e)) (fun i hi=>by
  obtain⟨k,hk⟩:=qag hi
  rw[qgq x s key val hk]
  exact qJK ⟨lt1 hi,lt0,lt2 hi,qac eI hk,by simp;omega,by simp;omega,qau (Record.flat ⟨k,s,key,val⟩),up1 hi hx,trivial⟩) (qJL ⟨ge1,trivial⟩)
 rw[zC]at l
 exact l
theorem qqz(x:Node)(hx:x.outs.length≤8388608)(s:Stamp)(key val:Int)(nx:List (List D)):qan prog (qaa f218 0) (qfj s.epoch s.turn (x.outs.map eI) key val nx 0 []) (.exit 0) (qec nx ((sends x s key val).map Record.e)):=by
 have l:=qaq (P:=prog) (c:=(qaa f218 0)) (qaf 0) x.outs.length (fun i:Nat=>qfj s.epoch s.turn (x.outs.map eI) key val nx i (((x.outs.take i).map fun k=>(⟨k,s,key,val⟩:Record)).map Record.e)) (fun i hi=>by
  obtain⟨k,hk⟩:=qag hi
  rw[qgq x s key val hk]
  exact qJ0 ⟨lt1 hi,lt0,lt2 hi,qac eI hk,rfl,by simp;omega,by simp;omega,qau (Record.flat ⟨k,s,key,val⟩),up1 hi hx,trivial⟩) (qJ1 ⟨ge1,trivial⟩)
 rw[zC]at l
 exact l
theorem qqA(x:Node)(hx:x.outs.length≤8388608)(b:Bool)(s:Stamp)(key val:Int)(nx:List (List D)):qan prog (qaa f218 0) (qdu (x.outs.map eI) key val nx s.epoch s.turn b 0 []) (.exit 0) (qec nx ((bif b then sends x s key val else []).map Record.e)):=by
 cases b with
 | true=>
  have l:=qaq (P:=prog) (c:=(qaa f218 0)) (qaf 0) x.outs.length (fun i:Nat=>qdu (x.outs.map eI) key val nx s.epoch s.turn true i (((x.outs.take i).map fun k=>(⟨k,s,key,val⟩:Record)).map Record.e)) (fun i hi=>by
   obtain⟨k,hk⟩:=qag hi
   rw[qgq x s key val hk]
   exact qJX ⟨lt1 hi,lt0,lt2 hi,qac eI hk,rfl,by simp;omega,by simp;omega,qau (Record.flat ⟨k,s,key,val⟩),up1 hi hx,trivial⟩) (qqq ⟨ge1,trivial⟩)
  rw[zC]at l
  exact l
 | false=>
  exact qaq (P:=prog) (c:=(qaa f218 0)) (qaf 0) x.outs.length (fun i:Nat=>qdu (x.outs.map eI) key val nx s.epoch s.turn false i []) (fun i hi=>by
   obtain⟨k,hk⟩:=qag hi
   exact qJY ⟨lt1 hi,lt0,lt2 hi,qac eI hk,rfl,up1 hi hx,trivial⟩) (qqq ⟨ge1,trivial⟩)
theorem qKg(g:Graph)(cs:List Cell)(r:Record)(x:Node)(hg:g.sz≤8388608)(hl:cs.length≤8388608)(hn:qaP g r.op=some x):Rt 210 [.agg g.e,.one (.sl 4 (cs.map Cell.e)),.agg r.e] [.one (.sl 4 ((qat g cs r x).1.map Cell.e)),.one (.sl 5 ((qat g cs r x).2.1.map Record.e)),.one (B (qat g cs r x).2.2)]:=by
 have hx:=Graph.outs_le hg (qla hn)
 obtain⟨hk0,hk2,_,_⟩:=qiS hn
 have hk1:g.nodes[r.op.toNat]?=some x:=by have:=hn;unfold qaP at this;rwa[zp hk0]at this
 have c1:=qiU g r.op (x,true) (by unfold qdZ;rw[hn]) hg
 have c2:=qlC g hg
 rcases ze (qaz g) with h3 | h3
 ·skip
  have c4:=qfe r
  rcases ze (qaI r) with h5 | h5
  ·skip
   have c6:=qJj x r.key r.val hx
   rcases ze ((qai x r.key r.val).2.2) with h7 | h7
   ·skip
    have c8:=qqr x.kind
    rcases ze (qaN x.kind) with h9 | h9
    ·skip
     have c10:=qqt x.kind cs (⟨r.op,r.stamp.epoch,r.key,r.val⟩:Cell) (by omega)
     rcases ze ((qaj x.kind cs (⟨r.op,r.stamp.epoch,r.key,r.val⟩:Cell)).2) with h11 | h11
     ·skip
      rcases ze (x.kind==7) with h12 | h12
      ·skip
       have c13:=qgo r.stamp
       rcases ze ((qaE r.stamp).2) with h14 | h14
       ·skip
        
        rw[show qat g cs r x=(((qaj x.kind cs (⟨r.op,r.stamp.epoch,r.key,r.val⟩:Cell)).1),(sends x ((qaE r.stamp).1) ((qai x r.key r.val).1) ((qai x r.key r.val).2.1)),true) from by grind[qat,qaN,qaj]]
        exact qJP ⟨(by first | omega | (simp only[zb,zh];omega) | exact qae _ Cell.flat _ | grind[inInt]),(by first | omega | (simp only[zb,zh];omega) | exact qae _ Cell.flat _ | grind[inInt]),(by first | omega | (simp only[zb,zh];omega) | exact qae _ Cell.flat _ | grind[inInt]),c1,rfl,c2,(by rw[h3];rfl),c4,(by rw[h5];rfl),c6,(by rw[h7];rfl),c8,h9,c10,(by rw[h11];rfl),h12,c13,(by rw[h14];rfl),(qqv x hx ((qaE r.stamp).1) ((qai x r.key r.val).1) ((qai x r.key r.val).2.1) _),trivial⟩
       ·skip
        rw[show qat g cs r x=(((qaj x.kind cs (⟨r.op,r.stamp.epoch,r.key,r.val⟩:Cell)).1),([]:List Record),true) from by grind[qat,qaN,qaj]]
        exact qJO ⟨(by first | omega | (simp only[zb,zh];omega) | exact qae _ Cell.flat _ | grind[inInt]),(by first | omega | (simp only[zb,zh];omega) | exact qae _ Cell.flat _ | grind[inInt]),(by first | omega | (simp only[zb,zh];omega) | exact qae _ Cell.flat _ | grind[inInt]),c1,rfl,c2,(by rw[h3];rfl),c4,(by rw[h5];rfl),c6,(by rw[h7];rfl),c8,h9,c10,(by rw[h11];rfl),h12,c13,(by rw[h14];rfl),trivial⟩
      ·skip
       
       rw[show qat g cs r x=(((qaj x.kind cs (⟨r.op,r.stamp.epoch,r.key,r.val⟩:Cell)).1),(sends x r.stamp ((qai x r.key r.val).1) ((qai x r.key r.val).2.1)),true) from by grind[qat,qaN,qaj]]
       exact qJQ ⟨(by first | omega | (simp only[zb,zh];omega) | exact qae _ Cell.flat _ | grind[inInt]),(by first | omega | (simp only[zb,zh];omega) | exact qae _ Cell.flat _ | grind[inInt]),(by first | omega | (simp only[zb,zh];omega) | exact qae _ Cell.flat _ | grind[inInt]),c1,rfl,c2,(by rw[h3];rfl),c4,(by rw[h5];rfl),c6,(by rw[h7];rfl),c8,h9,c10,(by rw[h11];rfl),h12,(qqw x hx r.stamp ((qai x r.key r.val).1) ((qai x r.key r.val).2.1) _),trivial⟩
     ·skip
      rw[show qat g cs r x=(((qaj x.kind cs (⟨r.op,r.stamp.epoch,r.key,r.val⟩:Cell)).1),([]:List Record),true) from by grind[qat,qaN,qaj]]
      exact qJN ⟨(by first | omega | (simp only[zb,zh];omega) | exact qae _ Cell.flat _ | grind[inInt]),(by first | omega | (simp only[zb,zh];omega) | exact qae _ Cell.flat _ | grind[inInt]),(by first | omega | (simp only[zb,zh];omega) | exact qae _ Cell.flat _ | grind[inInt]),c1,rfl,c2,(by rw[h3];rfl),c4,(by rw[h5];rfl),c6,(by rw[h7];rfl),c8,h9,c10,(by rw[h11];rfl),trivial⟩
    ·skip
     rcases ze (x.kind==7) with h15 | h15
     ·skip
      have c16:=qgo r.stamp
      rcases ze ((qaE r.stamp).2) with h17 | h17
      ·skip
       
       rw[show qat g cs r x=(cs,(sends x ((qaE r.stamp).1) ((qai x r.key r.val).1) ((qai x r.key r.val).2.1)),true) from by grind[qat,qaN,qaj]]
       exact qJS ⟨(by first | omega | (simp only[zb,zh];omega) | exact qae _ Cell.flat _ | grind[inInt]),(by first | omega | (simp only[zb,zh];omega) | exact qae _ Cell.flat _ | grind[inInt]),(by first | omega | (simp only[zb,zh];omega) | exact qae _ Cell.flat _ | grind[inInt]),c1,rfl,c2,(by rw[h3];rfl),c4,(by rw[h5];rfl),c6,(by rw[h7];rfl),c8,h9,h15,c16,(by rw[h17];rfl),(qqx x hx ((qaE r.stamp).1) ((qai x r.key r.val).1) ((qai x r.key r.val).2.1) _),trivial⟩
      ·skip
       rw[show qat g cs r x=(cs,([]:List Record),true) from by grind[qat,qaN,qaj]]
       exact qJR ⟨(by first | omega | (simp only[zb,zh];omega) | exact qae _ Cell.flat _ | grind[inInt]),(by first | omega | (simp only[zb,zh];omega) | exact qae _ Cell.flat _ | grind[inInt]),(by first | omega | (simp only[zb,zh];omega) | exact qae _ Cell.flat _ | grind[inInt]),c1,rfl,c2,(by rw[h3];rfl),c4,(by rw[h5];rfl),c6,(by rw[h7];rfl),c8,h9,h15,c16,(by rw[h17];rfl),trivial⟩
     ·skip
      
      rw[show qat g cs r x=(cs,(sends x r.stamp ((qai x r.key r.val).1) ((qai x r.key r.val).2.1)),true) from by grind[qat,qaN,qaj]]
      exact qJT ⟨(by first | omega | (simp only[zb,zh];omega) | exact qae _ Cell.flat _ | grind[inInt]),(by first | omega | (simp only[zb,zh];omega) | exact qae _ Cell.flat _ | grind[inInt]),(by first | omega | (simp only[zb,zh];omega) | exact qae _ Cell.flat _ | grind[inInt]),c1,rfl,c2,(by rw[h3];rfl),c4,(by rw[h5];rfl),c6,(by rw[h7];rfl),c8,h9,h15,(qqy x hx r.stamp ((qai x r.key r.val).1) ((qai x r.key r.val).2.1) _),trivial⟩
   ·skip
    rcases ze (x.kind != 8) with h18 | h18
    ·skip
     rw[show qat g cs r x=(cs,([]:List Record),true) from by grind[qat,qaN,qaj]]
     exact qJx ⟨(by first | omega | (simp only[zb,zh];omega) | exact qae _ Cell.flat _ | grind[inInt]),(by first | omega | (simp only[zb,zh];omega) | exact qae _ Cell.flat _ | grind[inInt]),(by first | omega | (simp only[zb,zh];omega) | exact qae _ Cell.flat _ | grind[inInt]),c1,rfl,c2,(by rw[h3];rfl),c4,(by rw[h5];rfl),c6,(by rw[h7];rfl),h18,trivial⟩
    ·skip
     have c19:=qqr x.kind
     rcases ze (qaN x.kind) with h20 | h20
     ·skip
      have c21:=qqt x.kind cs (⟨r.op,r.stamp.epoch,r.key,r.val⟩:Cell) (by omega)
      rcases ze ((qaj x.kind cs (⟨r.op,r.stamp.epoch,r.key,r.val⟩:Cell)).2) with h22 | h22
      ·skip
       rcases ze (x.kind==7) with h23 | h23
       ·skip
        have c24:=qgo r.stamp
        rcases ze ((qaE r.stamp).2) with h25 | h25
        ·skip
         
         rw[show qat g cs r x=(((qaj x.kind cs (⟨r.op,r.stamp.epoch,r.key,r.val⟩:Cell)).1),(sends x ((qaE r.stamp).1) ((qai x r.key r.val).1) ((qai x r.key r.val).2.1)),true) from by grind[qat,qaN,qaj]]
         exact qJC ⟨(by first | omega | (simp only[zb,zh];omega) | exact qae _ Cell.flat _ | grind[inInt]),(by first | omega | (simp only[zb,zh];omega) | exact qae _ Cell.flat _ | grind[inInt]),(by first | omega | (simp only[zb,zh];omega) | exact qae _ Cell.flat _ | grind[inInt]),c1,rfl,c2,(by rw[h3];rfl),c4,(by rw[h5];rfl),c6,(by rw[h7];rfl),h18,c19,h20,c21,(by rw[h22];rfl),h23,c24,(by rw[h25];rfl),(qqv x hx ((qaE r.stamp).1) ((qai x r.key r.val).1) ((qai x r.key r.val).2.1) _),trivial⟩
        ·skip
         rw[show qat g cs r x=(((qaj x.kind cs (⟨r.op,r.stamp.epoch,r.key,r.val⟩:Cell)).1),([]:List Record),true) from by grind[qat,qaN,qaj]]
         exact qJz ⟨(by first | omega | (simp only[zb,zh];omega) | exact qae _ Cell.flat _ | grind[inInt]),(by first | omega | (simp only[zb,zh];omega) | exact qae _ Cell.flat _ | grind[inInt]),(by first | omega | (simp only[zb,zh];omega) | exact qae _ Cell.flat _ | grind[inInt]),c1,rfl,c2,(by rw[h3];rfl),c4,(by rw[h5];rfl),c6,(by rw[h7];rfl),h18,c19,h20,c21,(by rw[h22];rfl),h23,c24,(by rw[h25];rfl),trivial⟩
       ·skip
        
        rw[show qat g cs r x=(((qaj x.kind cs (⟨r.op,r.stamp.epoch,r.key,r.val⟩:Cell)).1),(sends x r.stamp ((qai x r.key r.val).1) ((qai x r.key r.val).2.1)),true) from by grind[qat,qaN,qaj]]
        exact qJF ⟨(by first | omega | (simp only[zb,zh];omega) | exact qae _ Cell.flat _ | grind[inInt]),(by first | omega | (simp only[zb,zh];omega) | exact qae _ Cell.flat _ | grind[inInt]),(by first | omega | (simp only[zb,zh];omega) | exact qae _ Cell.flat _ | grind[inInt]),c1,rfl,c2,(by rw[h3];rfl),c4,(by rw[h5];rfl),c6,(by rw[h7];rfl),h18,c19,h20,c21,(by rw[h22];rfl),h23,(qqw x hx r.stamp ((qai x r.key r.val).1) ((qai x r.key r.val).2.1) _),trivial⟩
      ·skip
       rw[show qat g cs r x=(((qaj x.kind cs (⟨r.op,r.stamp.epoch,r.key,r.val⟩:Cell)).1),([]:List Record),true) from by grind[qat,qaN,qaj]]
       exact qJy ⟨(by first | omega | (simp only[zb,zh];omega) | exact qae _ Cell.flat _ | grind[inInt]),(by first | omega | (simp only[zb,zh];omega) | exact qae _ Cell.flat _ | grind[inInt]),(by first | omega | (simp only[zb,zh];omega) | exact qae _ Cell.flat _ | grind[inInt]),c1,rfl,c2,(by rw[h3];rfl),c4,(by rw[h5];rfl),c6,(by rw[h7];rfl),h18,c19,h20,c21,(by rw[h22];rfl),trivial⟩
     ·skip
      rcases ze (x.kind==7) with h26 | h26
      ·skip
       have c27:=qgo r.stamp
       rcases ze ((qaE r.stamp).2) with h28 | h28
       ·skip
        
        rw[show qat g cs r x=(cs,(sends x ((qaE r.stamp).1) ((qai x r.key r.val).1) ((qai x r.key r.val).2.1)),true) from by grind[qat,qaN,qaj]]
        exact qJJ ⟨(by first | omega | (simp only[zb,zh];omega) | exact qae _ Cell.flat _ | grind[inInt]),(by first | omega | (simp only[zb,zh];omega) | exact qae _ Cell.flat _ | grind[inInt]),(by first | omega | (simp only[zb,zh];omega) | exact qae _ Cell.flat _ | grind[inInt]),c1,rfl,c2,(by rw[h3];rfl),c4,(by rw[h5];rfl),c6,(by rw[h7];rfl),h18,c19,h20,h26,c27,(by rw[h28];rfl),(qqx x hx ((qaE r.stamp).1) ((qai x r.key r.val).1) ((qai x r.key r.val).2.1) _),trivial⟩
       ·skip
        rw[show qat g cs r x=(cs,([]:List Record),true) from by grind[qat,qaN,qaj]]
        exact qJG ⟨(by first | omega | (simp only[zb,zh];omega) | exact qae _ Cell.flat _ | grind[inInt]),(by first | omega | (simp only[zb,zh];omega) | exact qae _ Cell.flat _ | grind[inInt]),(by first | omega | (simp only[zb,zh];omega) | exact qae _ Cell.flat _ | grind[inInt]),c1,rfl,c2,(by rw[h3];rfl),c4,(by rw[h5];rfl),c6,(by rw[h7];rfl),h18,c19,h20,h26,c27,(by rw[h28];rfl),trivial⟩
      ·skip
       
       rw[show qat g cs r x=(cs,(sends x r.stamp ((qai x r.key r.val).1) ((qai x r.key r.val).2.1)),true) from by grind[qat,qaN,qaj]]
       exact qJM ⟨(by first | omega | (simp only[zb,zh];omega) | exact qae _ Cell.flat _ | grind[inInt]),(by first | omega | (simp only[zb,zh];omega) | exact qae _ Cell.flat _ | grind[inInt]),(by first | omega | (simp only[zb,zh];omega) | exact qae _ Cell.flat _ | grind[inInt]),c1,rfl,c2,(by rw[h3];rfl),c4,(by rw[h5];rfl),c6,(by rw[h7];rfl),h18,c19,h20,h26,(qqy x hx r.stamp ((qai x r.key r.val).1) ((qai x r.key r.val).2.1) _),trivial⟩
  ·skip
   rw[show qat g cs r x=(cs,([]:List Record),false) from by grind[qat,qaN,qaj]]
   exact qJw ⟨(by first | omega | (simp only[zb,zh];omega) | exact qae _ Cell.flat _ | grind[inInt]),(by first | omega | (simp only[zb,zh];omega) | exact qae _ Cell.flat _ | grind[inInt]),(by first | omega | (simp only[zb,zh];omega) | exact qae _ Cell.flat _ | grind[inInt]),c1,rfl,c2,(by rw[h3];rfl),c4,(by rw[h5];rfl),trivial⟩
 ·skip
  rw[show qat g cs r x=(cs,([]:List Record),false) from by grind[qat,qaN,qaj]]
  exact qJv ⟨(by first | omega | (simp only[zb,zh];omega) | exact qae _ Cell.flat _ | grind[inInt]),(by first | omega | (simp only[zb,zh];omega) | exact qae _ Cell.flat _ | grind[inInt]),(by first | omega | (simp only[zb,zh];omega) | exact qae _ Cell.flat _ | grind[inInt]),c1,rfl,c2,(by rw[h3];rfl),trivial⟩
theorem qKh(g:Graph)(cs:List Cell)(r:Record)(x:Node)(hg:g.sz≤8388608)(hl:cs.length≤8388608)(hn:qaP g r.op=some x):Rt 218 [.agg g.e,.one (.sl 4 (cs.map Cell.e)),.agg r.e] [.one (.sl 4 ((qat g cs r x).1.map Cell.e)),.one (.sl 5 ((qat g cs r x).2.1.map Record.e)),.one (B (qat g cs r x).2.2)]:=by
 have hx:=Graph.outs_le hg (qla hn)
 obtain⟨hk0,hk2,_,_⟩:=qiS hn
 have hk1:g.nodes[r.op.toNat]?=some x:=by have:=hn;unfold qaP at this;rwa[zp hk0]at this
 have c1:=qgp g hg
 rcases ze (qaz g) with h2 | h2
 ·skip
  have c3:=qd9 r
  rcases ze (qaI r) with h4 | h4
  ·skip
   have c5:=qge g r.op true (by rw[hn];rfl) hg
   have c6:=qJk x r.key r.val hx
   rcases ze ((qai x r.key r.val).2.2) with h7 | h7
   ·skip
    have c8:=qqu x.kind cs (⟨r.op,r.stamp.epoch,r.key,r.val⟩:Cell) (by omega)
    rcases ze ((qaj x.kind cs (⟨r.op,r.stamp.epoch,r.key,r.val⟩:Cell)).2) with h9 | h9
    ·skip
     rcases ze (x.kind==7) with h10 | h10
     ·skip
      have c11:=qlA r.stamp
      
      rw[show qat g cs r x=(((qaj x.kind cs (⟨r.op,r.stamp.epoch,r.key,r.val⟩:Cell)).1),(bif (qaE r.stamp).2 then sends x ((qaE r.stamp).1) ((qai x r.key r.val).1) ((qai x r.key r.val).2.1) else []),true) from by grind[qat,qaN,qaj]]
      exact qJ4 ⟨c1,(by rw[h2];rfl),c3,(by rw[h4];rfl),c5,rfl,(by first | omega | (simp only[zb,zh];omega) | exact qae _ Cell.flat _ | grind[inInt]),(by first | omega | (simp only[zb,zh];omega) | exact qae _ Cell.flat _ | grind[inInt]),(qad Node.e hk1),c6,(by rw[h7];rfl),c8,(by rw[h9];rfl),h10,c11,(qqA x hx ((qaE r.stamp).2) ((qaE r.stamp).1) ((qai x r.key r.val).1) ((qai x r.key r.val).2.1) _),trivial⟩
     ·skip
      
      rw[show qat g cs r x=(((qaj x.kind cs (⟨r.op,r.stamp.epoch,r.key,r.val⟩:Cell)).1),(sends x r.stamp ((qai x r.key r.val).1) ((qai x r.key r.val).2.1)),true) from by grind[qat,qaN,qaj]]
      exact qJ5 ⟨c1,(by rw[h2];rfl),c3,(by rw[h4];rfl),c5,rfl,(by first | omega | (simp only[zb,zh];omega) | exact qae _ Cell.flat _ | grind[inInt]),(by first | omega | (simp only[zb,zh];omega) | exact qae _ Cell.flat _ | grind[inInt]),(qad Node.e hk1),c6,(by rw[h7];rfl),c8,(by rw[h9];rfl),h10,(qqz x hx r.stamp ((qai x r.key r.val).1) ((qai x r.key r.val).2.1) _),trivial⟩
    ·skip
     rw[show qat g cs r x=(((qaj x.kind cs (⟨r.op,r.stamp.epoch,r.key,r.val⟩:Cell)).1),([]:List Record),true) from by grind[qat,qaN,qaj]]
     exact qJ3 ⟨c1,(by rw[h2];rfl),c3,(by rw[h4];rfl),c5,rfl,(by first | omega | (simp only[zb,zh];omega) | exact qae _ Cell.flat _ | grind[inInt]),(by first | omega | (simp only[zb,zh];omega) | exact qae _ Cell.flat _ | grind[inInt]),(qad Node.e hk1),c6,(by rw[h7];rfl),c8,(by rw[h9];rfl),trivial⟩
   ·skip
    rcases ze (x.kind != 8) with h12 | h12
    ·skip
     have c13:=qdY cs (by omega)
     rw[show qat g cs r x=(cs,([]:List Record),true) from by grind[qat,qaN,qaj]]
     exact qJV ⟨c1,(by rw[h2];rfl),c3,(by rw[h4];rfl),c5,rfl,(by first | omega | (simp only[zb,zh];omega) | exact qae _ Cell.flat _ | grind[inInt]),(by first | omega | (simp only[zb,zh];omega) | exact qae _ Cell.flat _ | grind[inInt]),(qad Node.e hk1),c6,(by rw[h7];rfl),h12,c13,trivial⟩
    ·skip
     have c14:=qqu x.kind cs (⟨r.op,r.stamp.epoch,r.key,r.val⟩:Cell) (by omega)
     rcases ze ((qaj x.kind cs (⟨r.op,r.stamp.epoch,r.key,r.val⟩:Cell)).2) with h15 | h15
     ·skip
      rcases ze (x.kind==7) with h16 | h16
      ·skip
       have c17:=qlA r.stamp
       
       rw[show qat g cs r x=(((qaj x.kind cs (⟨r.op,r.stamp.epoch,r.key,r.val⟩:Cell)).1),(bif (qaE r.stamp).2 then sends x ((qaE r.stamp).1) ((qai x r.key r.val).1) ((qai x r.key r.val).2.1) else []),true) from by grind[qat,qaN,qaj]]
       exact qJZ ⟨c1,(by rw[h2];rfl),c3,(by rw[h4];rfl),c5,rfl,(by first | omega | (simp only[zb,zh];omega) | exact qae _ Cell.flat _ | grind[inInt]),(by first | omega | (simp only[zb,zh];omega) | exact qae _ Cell.flat _ | grind[inInt]),(qad Node.e hk1),c6,(by rw[h7];rfl),h12,c14,(by rw[h15];rfl),h16,c17,(qqA x hx ((qaE r.stamp).2) ((qaE r.stamp).1) ((qai x r.key r.val).1) ((qai x r.key r.val).2.1) _),trivial⟩
      ·skip
       
       rw[show qat g cs r x=(((qaj x.kind cs (⟨r.op,r.stamp.epoch,r.key,r.val⟩:Cell)).1),(sends x r.stamp ((qai x r.key r.val).1) ((qai x r.key r.val).2.1)),true) from by grind[qat,qaN,qaj]]
       exact qJ2 ⟨c1,(by rw[h2];rfl),c3,(by rw[h4];rfl),c5,rfl,(by first | omega | (simp only[zb,zh];omega) | exact qae _ Cell.flat _ | grind[inInt]),(by first | omega | (simp only[zb,zh];omega) | exact qae _ Cell.flat _ | grind[inInt]),(qad Node.e hk1),c6,(by rw[h7];rfl),h12,c14,(by rw[h15];rfl),h16,(qqz x hx r.stamp ((qai x r.key r.val).1) ((qai x r.key r.val).2.1) _),trivial⟩
     ·skip
      rw[show qat g cs r x=(((qaj x.kind cs (⟨r.op,r.stamp.epoch,r.key,r.val⟩:Cell)).1),([]:List Record),true) from by grind[qat,qaN,qaj]]
      exact qJW ⟨c1,(by rw[h2];rfl),c3,(by rw[h4];rfl),c5,rfl,(by first | omega | (simp only[zb,zh];omega) | exact qae _ Cell.flat _ | grind[inInt]),(by first | omega | (simp only[zb,zh];omega) | exact qae _ Cell.flat _ | grind[inInt]),(qad Node.e hk1),c6,(by rw[h7];rfl),h12,c14,(by rw[h15];rfl),trivial⟩
  ·skip
   have c18:=qdY cs (by omega)
   rw[show qat g cs r x=(cs,([]:List Record),false) from by grind[qat,qaN,qaj]]
   exact qqp ⟨c1,(by rw[h2];rfl),c3,(by rw[h4];rfl),c18,trivial⟩
 ·skip
  have c19:=qdY cs (by omega)
  rw[show qat g cs r x=(cs,([]:List Record),false) from by grind[qat,qaN,qaj]]
  exact qqo ⟨c1,(by rw[h2];rfl),c19,trivial⟩
end Go.Proofs.YtdanpadojemjeaaGreat
namespace Go.Proofs.YtdanpadojemjeaaGreat
open Go.Sx Go.RowKit Go.Proofs.Tryz
def qaB(g:Graph)(cs:List Cell)(r:Record):List Cell×List Record×Bool:=match qaP g r.op with | some x=>qat g cs r x | none=>(cs,[],false)
theorem qKi(g:Graph)(cs:List Cell)(r:Record)(hg:g.sz≤8388608)(hl:cs.length≤8388608):Rt 210 [.agg g.e,.one (.sl 4 (cs.map Cell.e)),.agg r.e] [.one (.sl 4 ((qaB g cs r).1.map Cell.e)),.one (.sl 5 ((qaB g cs r).2.1.map Record.e)),.one (B (qaB g cs r).2.2)]:=by
 unfold qaB
 cases h:qaP g r.op with
 | some x=>exact qKg g cs r x hg hl h
 | none=>exact qJu ⟨by simp<;>omega,by simp<;>omega,qae _ Cell.flat _,qiU g r.op (⟨0,0,0,[]⟩,false) (by unfold qdZ;rw[h]) hg,rfl,trivial⟩
theorem qKj(g:Graph)(cs:List Cell)(r:Record)(hg:g.sz≤8388608)(hl:cs.length≤8388608):Rt 218 [.agg g.e,.one (.sl 4 (cs.map Cell.e)),.agg r.e] [.one (.sl 4 ((qaB g cs r).1.map Cell.e)),.one (.sl 5 ((qaB g cs r).2.1.map Record.e)),.one (B (qaB g cs r).2.2)]:=by
 unfold qaB
 cases h:qaP g r.op with
 | some x=>exact qKh g cs r x hg hl h
 | none=>
  have c1:=qgp g hg
  have c2:=qd9 r
  have c3:=qge g r.op false (by rw[h];rfl) hg
  have cp:=qdY cs hl
  generalize qaz g=b1 at*
  generalize qaI r=b2 at*
  cases b1 with
  | false=>exact qqo ⟨c1,rfl,cp,trivial⟩
  | true=>
   cases b2 with
   | false=>exact qqp ⟨c1,rfl,c2,rfl,cp,trivial⟩
   | true=>exact qJU ⟨c1,rfl,c2,rfl,c3,rfl,cp,trivial⟩
def qbw(g:Graph)(r:Record)(x:Node):Bool:=qaz g&&qaI r&&x.kind==7&&decide (0<x.outs.length)&&!(qaE r.stamp).2
def capped(g:Graph)(r:Record):Bool:=match qaP g r.op with | some x=>qbw g r x | none=>false
theorem qKk(g:Graph)(r:Record)(x:Node)(hg:g.sz≤8388608)(hn:qaP g r.op=some x):Rt 211 [.agg g.e,.agg r.e] [.one (B (qbw g r x))]:=by
 have c1:=qiU g r.op (x,true) (by unfold qdZ;rw[hn]) hg
 have c2:=qgo r.stamp
 have c3:=qlC g hg
 rcases ze (qaz g) with h4 | h4
 ·skip
  have c5:=qfe r
  rcases ze (qaI r) with h6 | h6
  ·skip
   rcases ze (x.kind==7) with h7 | h7
   ·skip
    rcases ze (decide ((↑(x.outs.map eI).length:Int)>0)) with h8 | h8
    ·skip
     rw[show qbw g r x=(!((qaE r.stamp).2)) from by grind[qbw]]
     exact qJo ⟨c1,c2,rfl,c3,h4,c5,h6,h7,h8,trivial⟩
    ·skip
     rw[show qbw g r x=false from by grind[qbw]]
     exact qJp ⟨c1,c2,rfl,c3,h4,c5,h6,h7,h8,trivial⟩
   ·skip
    rw[show qbw g r x=false from by grind[qbw]]
    exact qJq ⟨c1,c2,rfl,c3,h4,c5,h6,h7,trivial⟩
  ·skip
   rw[show qbw g r x=false from by grind[qbw]]
   exact qJr ⟨c1,c2,rfl,c3,h4,c5,h6,trivial⟩
 ·skip
  rw[show qbw g r x=false from by grind[qbw]]
  exact qJs ⟨c1,c2,rfl,c3,h4,trivial⟩
theorem qKl(g:Graph)(r:Record)(hg:g.sz≤8388608):Rt 211 [.agg g.e,.agg r.e] [.one (B (capped g r))]:=by
 unfold capped
 cases h:qaP g r.op with
 | some x=>exact qKk g r x hg h
 | none=>exact qJt ⟨qiU g r.op (⟨0,0,0,[]⟩,false) (by unfold qdZ;rw[h]) hg,qgo r.stamp,rfl,trivial⟩
theorem qlE{g:Graph}(h:qaz g=true){op:Int}{x:Node}(hn:qaP g op=some x):qab x=true:=by
 simp only[qaz,zj,zS]at h
 unfold qaP at hn
 split at hn
 ·have:=qiD h.2 op.toNat x hn
  simp only[qbE,zy,zX]at this
  exact this.1.1
 ·cases hn
end Go.Proofs.YtdanpadojemjeaaGreat
