/- GraphOk, Changed, LeastOf: what program and reference compute (cases put together by gentree.py). -/
import Derived.Test.YtdanpadojemjeaaGreatP15
import Derived.Test.YtdanpadojemjeaaGreatC0
import Derived.Test.YtdanpadojemjeaaGreatGS
set_option linter.unusedVariables false
set_option linter.unusedSimpArgs false
namespace Go.Proofs.YtdanpadojemjeaaGreat
open Go.Sx Go.RowKit Go.Proofs.Tryz
def qa6(g:Graph)(k:Int):Int:=match g.nodes[k.toNat]? with | some y=>y.kind | none=>0
def qaK(g:Graph)(i:Nat)(x:Node)(k:Int):Bool:=
 decide ((g.nodes.length:Int)≤k)||(if x.kind=7 then decide ((i:Int)<k)||(qa6 g k != 5&&qa6 g k != 6) else decide (k≤i))
def qbv(g:Graph)(i:Nat)(x:Node):Bool:=!qab x||(decide (x.kind=1) != decide ((i:Int)=0))||x.outs.any (qaK g i x)
def qas(g:Graph):Bool:=inR g.nodes.length 1 8&&inR g.workers 1 4&&inR g.cap 1 4&&!(anyI (qbv g) 0 g.nodes)
def qag(x:Node)(k v:Int):Int×Int×Bool:=
 if qab x&&qaB k v then
  if x.kind=2 then (k,less (v+x.a) 999,true)
  else if x.kind=4 then ((k+x.a).tmod 100,v,true)
  else if x.kind=3 then (k,v,k.tmod x.a==x.b)
  else (k,v,x.kind != 8)
 else (k,v,false)
theorem qlh{l:List Int}(h:okAll l=true){k:Int}(hk:k∈l):inR k 0 7=true:=by
 simp only[okAll,zS,zP]at h
 simpa using h k hk
theorem qpk(g:Graph)(hg:g.sz≤8388608)(i:Nat)(hi:i<8)(x:Node)(hx:g.nodes[i]?=some x)(hok:qab x=true)(j:Nat)(k:Int)(hk:x.outs[j]?=some k)(r:Bool)(hr:qaK g i x k=r):Tr prog (qaa f163 1) (qa4 i (g.nodes.map Node.e) g.workers g.cap x.kind x.a x.b (x.outs.map eI) (j:Int)) (bif r then .ret else .normal) (bif r then qdh false else qa4 i (g.nodes.map Node.e) g.workers g.cap x.kind x.a x.b (x.outs.map eI) ((j+1:Nat):Int)):=by
 have hj:=lt_of hk
 have hl:x.outs.length≤2:=by grind[qab]
 have hk0:inR k 0 7=true:=qlh (by grind[qab]) (qar hk)
 have hk1:x.outs[(j:Int).toNat]?=some k:=by simpa using hk
 have hj1:decide ((j:Int)<(↑(x.outs.map eI).length:Int))=true:=lt1 hj
 rcases ze (decide (k≥(↑(g.nodes.map Node.e).length:Int))) with h1 | h1
 ·skip
  obtain rfl:r=true:=by rw[←hr];grind[qaK,qa6,inR]
  exact qCf ⟨hj1,(by grind[inR,inInt,qab]),(by grind[inR,inInt,qab]),(qad eI hk1),h1,trivial⟩
 ·skip
  rcases ze (x.kind != 7) with h2 | h2
  ·skip
   rcases ze (decide (k≤(i:Int))) with h3 | h3
   ·skip
    obtain rfl:r=true:=by rw[←hr];grind[qaK,qa6,inR]
    exact qCg ⟨hj1,(by grind[inR,inInt,qab]),(by grind[inR,inInt,qab]),(qad eI hk1),h1,h2,h3,trivial⟩
   ·skip
    obtain⟨y4,hy4⟩:=look (xs:=g.nodes) (i:=k) (by grind[inR,inInt,qab]) (by grind[inR,inInt,qab])
    rcases ze (x.kind==7) with h5 | h5
    ·skip
     rcases ze (decide (k>(i:Int))) with h6 | h6
     ·skip
      obtain rfl:r=true:=by rw[←hr];grind[qaK,qa6,inR]
      exact qCh ⟨hj1,(by grind[inR,inInt,qab]),(by grind[inR,inInt,qab]),(qad eI hk1),h1,h2,h3,(by grind[inR,inInt,qab]),(by grind[inR,inInt,qab]),(qad Node.e hy4),h5,h6,trivial⟩
     ·skip
      rcases ze (y4.kind != 5) with h7 | h7
      ·skip
       rcases ze (y4.kind != 6) with h8 | h8
       ·skip
        obtain rfl:r=true:=by rw[←hr];grind[qaK,qa6,inR]
        exact qCi ⟨hj1,(by grind[inR,inInt,qab]),(by grind[inR,inInt,qab]),(qad eI hk1),h1,h2,h3,(by grind[inR,inInt,qab]),(by grind[inR,inInt,qab]),(qad Node.e hy4),h5,h6,h7,h8,trivial⟩
       ·skip
        obtain rfl:r=false:=by rw[←hr];grind[qaK,qa6,inR]
        exact qCj ⟨hj1,(by grind[inR,inInt,qab]),(by grind[inR,inInt,qab]),(qad eI hk1),h1,h2,h3,(by grind[inR,inInt,qab]),(by grind[inR,inInt,qab]),(qad Node.e hy4),h5,h6,h7,h8,(by grind[inR,inInt,qab]),trivial⟩
      ·skip
       obtain rfl:r=false:=by rw[←hr];grind[qaK,qa6,inR]
       exact qCk ⟨hj1,(by grind[inR,inInt,qab]),(by grind[inR,inInt,qab]),(qad eI hk1),h1,h2,h3,(by grind[inR,inInt,qab]),(by grind[inR,inInt,qab]),(qad Node.e hy4),h5,h6,h7,(by grind[inR,inInt,qab]),trivial⟩
    ·skip
     obtain rfl:r=false:=by rw[←hr];grind[qaK,qa6,inR]
     exact qCl ⟨hj1,(by grind[inR,inInt,qab]),(by grind[inR,inInt,qab]),(qad eI hk1),h1,h2,h3,(by grind[inR,inInt,qab]),(by grind[inR,inInt,qab]),(qad Node.e hy4),h5,(by grind[inR,inInt,qab]),trivial⟩
  ·skip
   obtain⟨y9,hy9⟩:=look (xs:=g.nodes) (i:=k) (by grind[inR,inInt,qab]) (by grind[inR,inInt,qab])
   rcases ze (x.kind==7) with h10 | h10
   ·skip
    rcases ze (decide (k>(i:Int))) with h11 | h11
    ·skip
     obtain rfl:r=true:=by rw[←hr];grind[qaK,qa6,inR]
     exact qCm ⟨hj1,(by grind[inR,inInt,qab]),(by grind[inR,inInt,qab]),(qad eI hk1),h1,h2,(by grind[inR,inInt,qab]),(by grind[inR,inInt,qab]),(qad Node.e hy9),h10,h11,trivial⟩
    ·skip
     rcases ze (y9.kind != 5) with h12 | h12
     ·skip
      rcases ze (y9.kind != 6) with h13 | h13
      ·skip
       obtain rfl:r=true:=by rw[←hr];grind[qaK,qa6,inR]
       exact qCn ⟨hj1,(by grind[inR,inInt,qab]),(by grind[inR,inInt,qab]),(qad eI hk1),h1,h2,(by grind[inR,inInt,qab]),(by grind[inR,inInt,qab]),(qad Node.e hy9),h10,h11,h12,h13,trivial⟩
      ·skip
       obtain rfl:r=false:=by rw[←hr];grind[qaK,qa6,inR]
       exact qCo ⟨hj1,(by grind[inR,inInt,qab]),(by grind[inR,inInt,qab]),(qad eI hk1),h1,h2,(by grind[inR,inInt,qab]),(by grind[inR,inInt,qab]),(qad Node.e hy9),h10,h11,h12,h13,(by grind[inR,inInt,qab]),trivial⟩
     ·skip
      obtain rfl:r=false:=by rw[←hr];grind[qaK,qa6,inR]
      exact qCp ⟨hj1,(by grind[inR,inInt,qab]),(by grind[inR,inInt,qab]),(qad eI hk1),h1,h2,(by grind[inR,inInt,qab]),(by grind[inR,inInt,qab]),(qad Node.e hy9),h10,h11,h12,(by grind[inR,inInt,qab]),trivial⟩
   ·skip
    obtain rfl:r=false:=by rw[←hr];grind[qaK,qa6,inR]
    exact qCq ⟨hj1,(by grind[inR,inInt,qab]),(by grind[inR,inInt,qab]),(qad eI hk1),h1,h2,(by grind[inR,inInt,qab]),(by grind[inR,inInt,qab]),(qad Node.e hy9),h10,(by grind[inR,inInt,qab]),trivial⟩
theorem qpl(g:Graph)(hg:g.sz≤8388608)(i:Nat)(hi:i<8)(x:Node)(hx:g.nodes[i]?=some x)(hok:qab x=true)(j:Nat)(k:Int)(hk:x.outs[j]?=some k)(r:Bool)(hr:qaK g i x k=r):Tr prog (qaa f122 1) (qa5 (g.nodes.map Node.e) i (g.nodes.map Node.e) g.workers g.cap x.kind x.a x.b (x.outs.map eI) (j:Int)) (bif r then .ret else .normal) (bif r then qdi false else qa5 (g.nodes.map Node.e) i (g.nodes.map Node.e) g.workers g.cap x.kind x.a x.b (x.outs.map eI) ((j+1:Nat):Int)):=by
 have hj:=lt_of hk
 have hl:x.outs.length≤2:=by grind[qab]
 have hk0:inR k 0 7=true:=qlh (by grind[qab]) (qar hk)
 have hk1:x.outs[(j:Int).toNat]?=some k:=by simpa using hk
 have hj1:decide ((j:Int)<(↑(x.outs.map eI).length:Int))=true:=lt1 hj
 rcases ze (decide (k≥(↑(g.nodes.map Node.e).length:Int))) with h1 | h1
 ·skip
  obtain rfl:r=true:=by rw[←hr];grind[qaK,qa6,inR]
  exact qCC ⟨hj1,(by grind[inR,inInt,qab]),(by grind[inR,inInt,qab]),(qad eI hk1),h1,trivial⟩
 ·skip
  obtain⟨y2,hy2⟩:=look (xs:=g.nodes) (i:=k) (by grind[inR,inInt,qab]) (by grind[inR,inInt,qab])
  rcases ze (x.kind==7) with h3 | h3
  ·skip
   rcases ze (decide (k>(i:Int))) with h4 | h4
   ·skip
    obtain rfl:r=true:=by rw[←hr];grind[qaK,qa6,inR]
    exact qCD ⟨hj1,(by grind[inR,inInt,qab]),(by grind[inR,inInt,qab]),(qad eI hk1),h1,(by grind[inR,inInt,qab]),(by grind[inR,inInt,qab]),(qad Node.e hy2),h3,h4,trivial⟩
   ·skip
    rcases ze (y2.kind != 5) with h5 | h5
    ·skip
     rcases ze (y2.kind != 6) with h6 | h6
     ·skip
      obtain rfl:r=true:=by rw[←hr];grind[qaK,qa6,inR]
      exact qCE ⟨hj1,(by grind[inR,inInt,qab]),(by grind[inR,inInt,qab]),(qad eI hk1),h1,(by grind[inR,inInt,qab]),(by grind[inR,inInt,qab]),(qad Node.e hy2),h3,h4,h5,h6,trivial⟩
     ·skip
      rcases ze (x.kind != 7) with h7 | h7
      ·skip
       rcases ze (decide (k≤(i:Int))) with h8 | h8
       ·skip
        obtain rfl:r=true:=by rw[←hr];grind[qaK,qa6,inR]
        exact qCF ⟨hj1,(by grind[inR,inInt,qab]),(by grind[inR,inInt,qab]),(qad eI hk1),h1,(by grind[inR,inInt,qab]),(by grind[inR,inInt,qab]),(qad Node.e hy2),h3,h4,h5,h6,h7,h8,trivial⟩
       ·skip
        obtain rfl:r=false:=by rw[←hr];grind[qaK,qa6,inR]
        exact qCG ⟨hj1,(by grind[inR,inInt,qab]),(by grind[inR,inInt,qab]),(qad eI hk1),h1,(by grind[inR,inInt,qab]),(by grind[inR,inInt,qab]),(qad Node.e hy2),h3,h4,h5,h6,h7,h8,(by grind[inR,inInt,qab]),trivial⟩
      ·skip
       obtain rfl:r=false:=by rw[←hr];grind[qaK,qa6,inR]
       exact qCH ⟨hj1,(by grind[inR,inInt,qab]),(by grind[inR,inInt,qab]),(qad eI hk1),h1,(by grind[inR,inInt,qab]),(by grind[inR,inInt,qab]),(qad Node.e hy2),h3,h4,h5,h6,h7,(by grind[inR,inInt,qab]),trivial⟩
    ·skip
     rcases ze (x.kind != 7) with h9 | h9
     ·skip
      rcases ze (decide (k≤(i:Int))) with h10 | h10
      ·skip
       obtain rfl:r=true:=by rw[←hr];grind[qaK,qa6,inR]
       exact qCI ⟨hj1,(by grind[inR,inInt,qab]),(by grind[inR,inInt,qab]),(qad eI hk1),h1,(by grind[inR,inInt,qab]),(by grind[inR,inInt,qab]),(qad Node.e hy2),h3,h4,h5,h9,h10,trivial⟩
      ·skip
       obtain rfl:r=false:=by rw[←hr];grind[qaK,qa6,inR]
       exact qCJ ⟨hj1,(by grind[inR,inInt,qab]),(by grind[inR,inInt,qab]),(qad eI hk1),h1,(by grind[inR,inInt,qab]),(by grind[inR,inInt,qab]),(qad Node.e hy2),h3,h4,h5,h9,h10,(by grind[inR,inInt,qab]),trivial⟩
     ·skip
      obtain rfl:r=false:=by rw[←hr];grind[qaK,qa6,inR]
      exact qCK ⟨hj1,(by grind[inR,inInt,qab]),(by grind[inR,inInt,qab]),(qad eI hk1),h1,(by grind[inR,inInt,qab]),(by grind[inR,inInt,qab]),(qad Node.e hy2),h3,h4,h5,h9,(by grind[inR,inInt,qab]),trivial⟩
  ·skip
   rcases ze (x.kind != 7) with h11 | h11
   ·skip
    rcases ze (decide (k≤(i:Int))) with h12 | h12
    ·skip
     obtain rfl:r=true:=by rw[←hr];grind[qaK,qa6,inR]
     exact qCL ⟨hj1,(by grind[inR,inInt,qab]),(by grind[inR,inInt,qab]),(qad eI hk1),h1,(by grind[inR,inInt,qab]),(by grind[inR,inInt,qab]),(qad Node.e hy2),h3,h11,h12,trivial⟩
    ·skip
     obtain rfl:r=false:=by rw[←hr];grind[qaK,qa6,inR]
     exact qCM ⟨hj1,(by grind[inR,inInt,qab]),(by grind[inR,inInt,qab]),(qad eI hk1),h1,(by grind[inR,inInt,qab]),(by grind[inR,inInt,qab]),(qad Node.e hy2),h3,h11,h12,(by grind[inR,inInt,qab]),trivial⟩
   ·skip
    obtain rfl:r=false:=by rw[←hr];grind[qaK,qa6,inR]
    exact qCN ⟨hj1,(by grind[inR,inInt,qab]),(by grind[inR,inInt,qab]),(qad eI hk1),h1,(by grind[inR,inInt,qab]),(by grind[inR,inInt,qab]),(qad Node.e hy2),h3,h11,(by grind[inR,inInt,qab]),trivial⟩
theorem qFS(g:Graph)(hg:g.sz≤8388608)(i:Nat)(hi:i<8)(x:Node)(hx:g.nodes[i]?=some x)(hok:qab x=true):
  (x.outs.any (qaK g i x)=true∧qaj prog (qaa f163 1) (qa4 i (g.nodes.map Node.e) g.workers g.cap x.kind x.a x.b (x.outs.map eI) 0) .ret (qdh false))∨(x.outs.any (qaK g i x)=false∧qaj prog (qaa f163 1) (qa4 i (g.nodes.map Node.e) g.workers g.cap x.kind x.a x.b (x.outs.map eI) 0) (.exit 2) (qla i (g.nodes.map Node.e) g.workers g.cap)):=by
 have l:=qaL (P:=prog) (c:=(qaa f163 1)) x.outs (qaK g i x) (fun j=>qa4 i (g.nodes.map Node.e) g.workers g.cap x.kind x.a x.b (x.outs.map eI) j) (X:=fun _ _=>qdh false) qat (qaf 2)
  (fun j k hk h=>qpk g hg i hi x hx hok j k hk false h)
  (fun j k hk h=>qpk g hg i hi x hx hok j k hk true h)
  (qCr ⟨ge1,trivial⟩)
 rcases l with⟨_,_,h1,h2⟩ | ⟨j,k,_,_,_,_,h1,h2⟩
 ·exact .inr ⟨h1,h2⟩
 ·exact .inl ⟨h1,h2⟩
theorem qFT(g:Graph)(hg:g.sz≤8388608)(i:Nat)(hi:i<8)(x:Node)(hx:g.nodes[i]?=some x)(hok:qab x=true):
  (x.outs.any (qaK g i x)=true∧qaj prog (qaa f122 1) (qa5 (g.nodes.map Node.e) i (g.nodes.map Node.e) g.workers g.cap x.kind x.a x.b (x.outs.map eI) 0) .ret (qdi false))∨(x.outs.any (qaK g i x)=false∧qaj prog (qaa f122 1) (qa5 (g.nodes.map Node.e) i (g.nodes.map Node.e) g.workers g.cap x.kind x.a x.b (x.outs.map eI) 0) (.exit 2) (qlc (g.nodes.map Node.e) i (g.nodes.map Node.e) g.workers g.cap)):=by
 have l:=qaL (P:=prog) (c:=(qaa f122 1)) x.outs (qaK g i x) (fun j=>qa5 (g.nodes.map Node.e) i (g.nodes.map Node.e) g.workers g.cap x.kind x.a x.b (x.outs.map eI) j) (X:=fun _ _=>qdi false) qat (qaf 2)
  (fun j k hk h=>qpl g hg i hi x hx hok j k hk false h)
  (fun j k hk h=>qpl g hg i hi x hx hok j k hk true h)
  (qCO ⟨ge1,trivial⟩)
 rcases l with⟨_,_,h1,h2⟩ | ⟨j,k,_,_,_,_,h1,h2⟩
 ·exact .inr ⟨h1,h2⟩
 ·exact .inl ⟨h1,h2⟩
theorem qpm(g:Graph)(hg:g.sz≤8388608)(i:Nat)(hi:i<8)(x:Node)(hx:g.nodes[i]?=some x)(r:Bool)(hr:qbv g i x=r):Tr prog (qaa f163 0) (qcu ((i:Nat):Int) (g.nodes.map Node.e) g.workers g.cap) (bif r then .ret else .normal) (bif r then qe4 false else qcu ((i+1:Nat):Int) (g.nodes.map Node.e) g.workers g.cap):=by
 have hj:=lt_of hx
 have ho:=Graph.outs_le hg (qar hx)
 have hk1:g.nodes[(i:Int).toNat]?=some x:=by simpa using hx
 have hj1:decide ((i:Int)<(↑(g.nodes.map Node.e).length:Int))=true:=lt1 hj
 have c1:=qpi x (by grind)
 rcases ze (qab x) with h2 | h2
 ·skip
  rcases ze ((x.kind==1)==((i:Int)==0)) with h3 | h3
  ·skip
   rcases qFS g hg i hi x hx (by grind) with⟨hL,l⟩ | ⟨hL,l⟩
   ·skip
    obtain rfl:r=true:=by rw[←hr];grind[qbv]
    exact qCs ⟨hj1,(by grind[inR,inInt,qab]),(by grind[inR,inInt,qab]),(qad Node.e hk1),c1,(by rw[h2];rfl),(by rw[h3];rfl),l,trivial⟩
   ·skip
    obtain rfl:r=false:=by rw[←hr];grind[qbv]
    exact qCt ⟨hj1,(by grind[inR,inInt,qab]),(by grind[inR,inInt,qab]),(qad Node.e hk1),c1,(by rw[h2];rfl),(by rw[h3];rfl),l,(by grind[inR,inInt,qab]),trivial⟩
  ·skip
   obtain rfl:r=true:=by rw[←hr];grind[qbv]
   exact qCe ⟨hj1,(by grind[inR,inInt,qab]),(by grind[inR,inInt,qab]),(qad Node.e hk1),c1,(by rw[h2];rfl),(by rw[h3];rfl),trivial⟩
 ·skip
  obtain rfl:r=true:=by rw[←hr];grind[qbv]
  exact qCd ⟨hj1,(by grind[inR,inInt,qab]),(by grind[inR,inInt,qab]),(qad Node.e hk1),c1,(by rw[h2];rfl),trivial⟩
theorem qpn(g:Graph)(hg:g.sz≤8388608)(i:Nat)(hi:i<8)(x:Node)(hx:g.nodes[i]?=some x)(r:Bool)(hr:qbv g i x=r):Tr prog (qaa f122 0) (qcv (g.nodes.map Node.e) ((i:Nat):Int) (g.nodes.map Node.e) g.workers g.cap) (bif r then .ret else .normal) (bif r then qe5 false else qcv (g.nodes.map Node.e) ((i+1:Nat):Int) (g.nodes.map Node.e) g.workers g.cap):=by
 have hj:=lt_of hx
 have ho:=Graph.outs_le hg (qar hx)
 have hk1:g.nodes[(i:Int).toNat]?=some x:=by simpa using hx
 have hj1:decide ((i:Int)<(↑(g.nodes.map Node.e).length:Int))=true:=lt1 hj
 have c1:=qpj x (by grind)
 rcases ze (qab x) with h2 | h2
 ·skip
  rcases ze ((x.kind==1)==((i:Int)==0)) with h3 | h3
  ·skip
   rcases qFT g hg i hi x hx (by grind) with⟨hL,l⟩ | ⟨hL,l⟩
   ·skip
    obtain rfl:r=true:=by rw[←hr];grind[qbv]
    exact qCP ⟨hj1,(by grind[inR,inInt,qab]),(by grind[inR,inInt,qab]),(qad Node.e hk1),c1,(by rw[h2];rfl),(by rw[h3];rfl),l,trivial⟩
   ·skip
    obtain rfl:r=false:=by rw[←hr];grind[qbv]
    exact qCQ ⟨hj1,(by grind[inR,inInt,qab]),(by grind[inR,inInt,qab]),(qad Node.e hk1),c1,(by rw[h2];rfl),(by rw[h3];rfl),l,(by grind[inR,inInt,qab]),trivial⟩
  ·skip
   obtain rfl:r=true:=by rw[←hr];grind[qbv]
   exact qCB ⟨hj1,(by grind[inR,inInt,qab]),(by grind[inR,inInt,qab]),(qad Node.e hk1),c1,(by rw[h2];rfl),(by rw[h3];rfl),trivial⟩
 ·skip
  obtain rfl:r=true:=by rw[←hr];grind[qbv]
  exact qCA ⟨hj1,(by grind[inR,inInt,qab]),(by grind[inR,inInt,qab]),(qad Node.e hk1),c1,(by rw[h2];rfl),trivial⟩
theorem qFU(g:Graph)(hg:g.sz≤8388608)(h8:g.nodes.length≤8):
  (anyI (qbv g) 0 g.nodes=true∧qaj prog (qaa f163 0) (qcu 0 (g.nodes.map Node.e) g.workers g.cap) .ret (qe4 false))∨(anyI (qbv g) 0 g.nodes=false∧qaj prog (qaa f163 0) (qcu 0 (g.nodes.map Node.e) g.workers g.cap) (.exit 0) qlb):=by
 have l:=qdO (P:=prog) (c:=(qaa f163 0)) g.nodes (qbv g) (fun i=>qcu (i:Nat) (g.nodes.map Node.e) g.workers g.cap) (X:=qe4 false) qat (qaf 0)
  (fun i x hx h=>qpm g hg i (by have:=lt_of hx;omega) x hx false h)
  (fun i x hx h=>qpm g hg i (by have:=lt_of hx;omega) x hx true h)
  (qCu ⟨ge1,trivial⟩)
 rcases l with⟨h1,h2⟩ | ⟨h1,h2⟩
 ·exact .inr ⟨h1,h2⟩
 ·exact .inl ⟨h1,h2⟩
theorem qFV(g:Graph)(hg:g.sz≤8388608)(h8:g.nodes.length≤8):
  (anyI (qbv g) 0 g.nodes=true∧qaj prog (qaa f122 0) (qcv (g.nodes.map Node.e) 0 (g.nodes.map Node.e) g.workers g.cap) .ret (qe5 false))∨(anyI (qbv g) 0 g.nodes=false∧qaj prog (qaa f122 0) (qcv (g.nodes.map Node.e) 0 (g.nodes.map Node.e) g.workers g.cap) (.exit 0) qld):=by
 have l:=qdO (P:=prog) (c:=(qaa f122 0)) g.nodes (qbv g) (fun i=>qcv (g.nodes.map Node.e) (i:Nat) (g.nodes.map Node.e) g.workers g.cap) (X:=qe5 false) qat (qaf 0)
  (fun i x hx h=>qpn g hg i (by have:=lt_of hx;omega) x hx false h)
  (fun i x hx h=>qpn g hg i (by have:=lt_of hx;omega) x hx true h)
  (qCR ⟨ge1,trivial⟩)
 rcases l with⟨h1,h2⟩ | ⟨h1,h2⟩
 ·exact .inr ⟨h1,h2⟩
 ·exact .inl ⟨h1,h2⟩
theorem qix(g:Graph)(hg:g.sz≤8388608):Rt 163 [.agg g.e] [.one (B (qas g))]:=by
 have c1:=qa9 (↑(g.nodes.map Node.e).length:Int) 1 8
 rcases ze (inR (↑(g.nodes.map Node.e).length:Int) 1 8) with h2 | h2
 ·skip
  have c3:=qa9 g.workers 1 4
  rcases ze (inR g.workers 1 4) with h4 | h4
  ·skip
   have c5:=qa9 g.cap 1 4
   rcases ze (inR g.cap 1 4) with h6 | h6
   ·skip
    rcases qFU g hg (by grind[inR]) with⟨hL,l⟩ | ⟨hL,l⟩
    ·skip
     rw[show qas g=false from by grind[qas]]
     exact qCv ⟨c1,(by rw[h2];rfl),c3,(by rw[h4];rfl),c5,(by rw[h6];rfl),l,trivial⟩
    ·skip
     rw[show qas g=true from by grind[qas]]
     exact qCw ⟨c1,(by rw[h2];rfl),c3,(by rw[h4];rfl),c5,(by rw[h6];rfl),l,trivial⟩
   ·skip
    rw[show qas g=false from by grind[qas]]
    exact qCc ⟨c1,(by rw[h2];rfl),c3,(by rw[h4];rfl),c5,(by rw[h6];rfl),trivial⟩
  ·skip
   rw[show qas g=false from by grind[qas]]
   exact qCb ⟨c1,(by rw[h2];rfl),c3,(by rw[h4];rfl),trivial⟩
 ·skip
  rw[show qas g=false from by grind[qas]]
  exact qCa ⟨c1,(by rw[h2];rfl),trivial⟩
theorem qe6(g:Graph)(hg:g.sz≤8388608):Rt 122 [.agg g.e] [.one (B (qas g))]:=by
 have c1:=qbx (↑(g.nodes.map Node.e).length:Int) 1 8
 rcases ze (inR (↑(g.nodes.map Node.e).length:Int) 1 8) with h2 | h2
 ·skip
  have c3:=qbx g.workers 1 4
  rcases ze (inR g.workers 1 4) with h4 | h4
  ·skip
   have c5:=qbx g.cap 1 4
   rcases ze (inR g.cap 1 4) with h6 | h6
   ·skip
    rcases qFV g hg (by grind[inR]) with⟨hL,l⟩ | ⟨hL,l⟩
    ·skip
     rw[show qas g=false from by grind[qas]]
     exact qCS ⟨c1,(by rw[h2];rfl),c3,(by rw[h4];rfl),c5,(by rw[h6];rfl),l,trivial⟩
    ·skip
     rw[show qas g=true from by grind[qas]]
     exact qCT ⟨c1,(by rw[h2];rfl),c3,(by rw[h4];rfl),c5,(by rw[h6];rfl),l,trivial⟩
   ·skip
    rw[show qas g=false from by grind[qas]]
    exact qCz ⟨c1,(by rw[h2];rfl),c3,(by rw[h4];rfl),c5,(by rw[h6];rfl),trivial⟩
  ·skip
   rw[show qas g=false from by grind[qas]]
   exact qCy ⟨c1,(by rw[h2];rfl),c3,(by rw[h4];rfl),trivial⟩
 ·skip
  rw[show qas g=false from by grind[qas]]
  exact qCx ⟨c1,(by rw[h2];rfl),trivial⟩
theorem qFW(x:Node)(k v:Int)(hx:x.outs.length≤8388608):Rt 235 [.agg x.e,.one (I k),.one (I v)] [.one (I ((qag x k v).1)),.one (I ((qag x k v).2.1)),.one (B ((qag x k v).2.2))]:=by
 have c1:=qpi x (by grind)
 rcases ze (qab x) with h2 | h2
 ·skip
  have c3:=qa9 k 0 99
  rcases ze (inR k 0 99) with h4 | h4
  ·skip
   have c5:=qa9 v 0 999
   rcases ze (inR v 0 999) with h6 | h6
   ·skip
    rcases ze (x.kind==2) with h7 | h7
    ·skip
     have c8:=qFR (v+x.a) 999
     rw[show qag x k v=(k,less (v+x.a) 999,true) from by grind[qag,qaB,less,qab,abOk]]
     exact qDe ⟨c1,(by rw[h2];rfl),c3,(by rw[h4];rfl),c5,(by rw[h6];rfl),h7,(by grind[qab,abOk,inR,inInt,qaB]),c8,trivial⟩
    ·skip
     rcases ze (x.kind==4) with h9 | h9
     ·skip
      rw[show qag x k v=((k+x.a).tmod 100,v,true) from by grind[qag,qaB,less,qab,abOk]]
      exact qDf ⟨c1,(by rw[h2];rfl),c3,(by rw[h4];rfl),c5,(by rw[h6];rfl),h7,h9,(by grind[qab,abOk,inR,inInt,qaB]),(by grind[qab,abOk,inR,inInt,qaB]),trivial⟩
     ·skip
      rcases ze (x.kind==3) with h10 | h10
      ·skip
       rw[show qag x k v=(k,v,k.tmod x.a==x.b) from by grind[qag,qaB,less,qab,abOk]]
       exact qDg ⟨c1,(by rw[h2];rfl),c3,(by rw[h4];rfl),c5,(by rw[h6];rfl),h7,h9,h10,(by grind[qab,abOk,inR,inInt,qaB]),trivial⟩
      ·skip
       rw[show qag x k v=(k,v,x.kind != 8) from by grind[qag,qaB,less,qab,abOk]]
       exact qDh ⟨c1,(by rw[h2];rfl),c3,(by rw[h4];rfl),c5,(by rw[h6];rfl),h7,h9,h10,trivial⟩
   ·skip
    rw[show qag x k v=(k,v,false) from by grind[qag,qaB,less,qab,abOk]]
    exact qDd ⟨c1,(by rw[h2];rfl),c3,(by rw[h4];rfl),c5,(by rw[h6];rfl),trivial⟩
  ·skip
   rw[show qag x k v=(k,v,false) from by grind[qag,qaB,less,qab,abOk]]
   exact qDc ⟨c1,(by rw[h2];rfl),c3,(by rw[h4];rfl),trivial⟩
 ·skip
  rw[show qag x k v=(k,v,false) from by grind[qag,qaB,less,qab,abOk]]
  exact qDb ⟨c1,(by rw[h2];rfl),trivial⟩
theorem qFX(x:Node)(k v:Int)(hx:x.outs.length≤8388608):Rt 239 [.agg x.e,.one (I k),.one (I v)] [.one (I ((qag x k v).1)),.one (I ((qag x k v).2.1)),.one (B ((qag x k v).2.2))]:=by
 have c1:=qpj x (by grind)
 rcases ze (qab x) with h2 | h2
 ·skip
  have c3:=qph k v
  rcases ze (qaB k v) with h4 | h4
  ·skip
   rcases ze (x.kind==2) with h5 | h5
   ·skip
    rw[show qag x k v=(k,if v+x.a<999 then v+x.a else 999,true) from by grind[qag,qaB,less,qab,abOk]]
    exact qDk ⟨c1,(by rw[h2];rfl),c3,(by rw[h4];rfl),h5,(by grind[qab,abOk,inR,inInt,qaB]),trivial⟩
   ·skip
    rcases ze (x.kind==4) with h6 | h6
    ·skip
     rw[show qag x k v=((k+x.a).tmod 100,v,true) from by grind[qag,qaB,less,qab,abOk]]
     exact qDl ⟨c1,(by rw[h2];rfl),c3,(by rw[h4];rfl),h5,h6,(by grind[qab,abOk,inR,inInt,qaB]),(by grind[qab,abOk,inR,inInt,qaB]),trivial⟩
    ·skip
     rcases ze (x.kind==3) with h7 | h7
     ·skip
      rw[show qag x k v=(k,v,k.tmod x.a==x.b) from by grind[qag,qaB,less,qab,abOk]]
      exact qDm ⟨c1,(by rw[h2];rfl),c3,(by rw[h4];rfl),h5,h6,h7,(by grind[qab,abOk,inR,inInt,qaB]),trivial⟩
     ·skip
      rw[show qag x k v=(k,v,x.kind != 8) from by grind[qag,qaB,less,qab,abOk]]
      exact qDn ⟨c1,(by rw[h2];rfl),c3,(by rw[h4];rfl),h5,h6,h7,trivial⟩
  ·skip
   rw[show qag x k v=(k,v,false) from by grind[qag,qaB,less,qab,abOk]]
   exact qDj ⟨c1,(by rw[h2];rfl),c3,(by rw[h4];rfl),trivial⟩
 ·skip
  rw[show qag x k v=(k,v,false) from by grind[qag,qaB,less,qab,abOk]]
  exact qDi ⟨c1,(by rw[h2];rfl),trivial⟩
def qax(a b:Cell):Bool:=a.op==b.op&&a.epoch==b.epoch&&a.key==b.key
def qaV(op ep key:Int)(s:Int×Bool)(a:Cell):Int×Bool:=if a.op=op∧a.epoch=ep∧a.key=key∧(s.2=false∨a.val<s.1) then (a.val,true) else s
def qcZ(xs:List Cell)(op ep key:Int):Int×Bool:=xs.foldl (qaV op ep key) (0,false)
theorem qpo(a b:Cell):Rt 258 [.agg a.e,.agg b.e] [.one (B (qax a b))]:=by
 rcases ze (a.op==b.op) with h1 | h1
 ·skip
  rcases ze (a.epoch==b.epoch) with h2 | h2
  ·skip
   rw[show qax a b=(a.key==b.key) from by grind[qax]]
   exact qwm ⟨h1,h2,trivial⟩
  ·skip
   rw[show qax a b=false from by grind[qax]]
   exact qwn ⟨h1,h2,trivial⟩
 ·skip
  rw[show qax a b=false from by grind[qax]]
  exact qwo ⟨h1,trivial⟩
theorem qFY(xs:List Cell)(hl:xs.length≤8388608)(op ep key m:Int)(f:Bool)(i:Nat)(a:Cell)(ha:xs[i]?=some a):Tr prog (qaa f248 0) (qbH (xs.map Cell.e) op ep key i f m) .normal (qbH (xs.map Cell.e) op ep key ((i+1:Nat):Int) (qaV op ep key (m,f) a).2 (qaV op ep key (m,f) a).1):=by
 have hj:=lt_of ha
 have hk1:xs[(i:Int).toNat]?=some a:=by simpa using ha
 have hj1:decide ((i:Int)<(↑(xs.map Cell.e).length:Int))=true:=lt1 hj
 rcases ze (a.op==op) with h1 | h1
 ·skip
  rcases ze (a.epoch==ep) with h2 | h2
  ·skip
   rcases ze (a.key==key) with h3 | h3
   ·skip
    rcases ze (f) with h4 | h4
    ·skip
     rcases ze (decide (a.val<m)) with h5 | h5
     ·skip
      rw[show qaV op ep key (m,f) a=(a.val,true) from by grind[qaV,qax]]
      exact qxe ⟨hj1,(by grind[inInt]),(by grind[inInt]),(qad Cell.e hk1),h1,h2,h3,(by rw[h4];rfl),h5,(by grind[inInt]),trivial⟩
     ·skip
      rw[show qaV op ep key (m,f) a=(m,f) from by grind[qaV,qax]]
      exact qxf ⟨hj1,(by grind[inInt]),(by grind[inInt]),(qad Cell.e hk1),h1,h2,h3,(by rw[h4];rfl),h5,(by grind[inInt]),trivial⟩
    ·skip
     rw[show qaV op ep key (m,f) a=(a.val,true) from by grind[qaV,qax]]
     exact qxd ⟨hj1,(by grind[inInt]),(by grind[inInt]),(qad Cell.e hk1),h1,h2,h3,(by rw[h4];rfl),(by grind[inInt]),trivial⟩
   ·skip
    rw[show qaV op ep key (m,f) a=(m,f) from by grind[qaV,qax]]
    exact qxg ⟨hj1,(by grind[inInt]),(by grind[inInt]),(qad Cell.e hk1),h1,h2,h3,(by grind[inInt]),trivial⟩
  ·skip
   rw[show qaV op ep key (m,f) a=(m,f) from by grind[qaV,qax]]
   exact qxh ⟨hj1,(by grind[inInt]),(by grind[inInt]),(qad Cell.e hk1),h1,h2,(by grind[inInt]),trivial⟩
 ·skip
  rw[show qaV op ep key (m,f) a=(m,f) from by grind[qaV,qax]]
  exact qxi ⟨hj1,(by grind[inInt]),(by grind[inInt]),(qad Cell.e hk1),h1,(by grind[inInt]),trivial⟩
theorem qFZ(xs:List Cell)(hl:xs.length≤8388608)(op ep key m:Int)(f:Bool)(i:Nat)(a:Cell)(ha:xs[i]?=some a):Tr prog (qaa f255 0) (qcr (xs.map Cell.e) op ep key i f m) .normal (qcr (xs.map Cell.e) op ep key ((i+1:Nat):Int) (qaV op ep key (m,f) a).2 (qaV op ep key (m,f) a).1):=by
 have hj:=lt_of ha
 have hk1:xs[(i:Int).toNat]?=some a:=by simpa using ha
 have hj1:decide ((i:Int)<(↑(xs.map Cell.e).length:Int))=true:=lt1 hj
 have c1:=qpo a (⟨op,ep,key,0⟩:Cell)
 rcases ze (qax a (⟨op,ep,key,0⟩:Cell)) with h2 | h2
 ·skip
  rcases ze (f) with h3 | h3
  ·skip
   rcases ze (decide (a.val<m)) with h4 | h4
   ·skip
    rw[show qaV op ep key (m,f) a=(a.val,true) from by grind[qaV,qax]]
    exact qww ⟨hj1,(by grind[inInt]),(by grind[inInt]),(qad Cell.e hk1),c1,h2,(by rw[h3];rfl),h4,(by grind[inInt]),trivial⟩
   ·skip
    rw[show qaV op ep key (m,f) a=(m,f) from by grind[qaV,qax]]
    exact qwx ⟨hj1,(by grind[inInt]),(by grind[inInt]),(qad Cell.e hk1),c1,h2,(by rw[h3];rfl),h4,(by grind[inInt]),trivial⟩
  ·skip
   rw[show qaV op ep key (m,f) a=(a.val,true) from by grind[qaV,qax]]
   exact qwv ⟨hj1,(by grind[inInt]),(by grind[inInt]),(qad Cell.e hk1),c1,h2,(by rw[h3];rfl),(by grind[inInt]),trivial⟩
 ·skip
  rw[show qaV op ep key (m,f) a=(m,f) from by grind[qaV,qax]]
  exact qwy ⟨hj1,(by grind[inInt]),(by grind[inInt]),(qad Cell.e hk1),c1,h2,(by grind[inInt]),trivial⟩
theorem qpp(xs:List Cell)(op ep key:Int)(hl:xs.length≤8388608):Rt 248 [.one (.sl 4 (xs.map Cell.e)),.one (I op),.one (I ep),.one (I key)] [.one (I (qcZ xs op ep key).1),.one (B (qcZ xs op ep key).2)]:=by
 have l:=qan (P:=prog) (c:=(qaa f248 0)) (qaf 0) xs.length (fun i:Nat=>qbH (xs.map Cell.e) op ep key i (qbu (qaV op ep key) (0,false) xs i).2 (qbu (qaV op ep key) (0,false) xs i).1) (fun i hi=>by
  obtain⟨a,ha⟩:=qai hi
  rw[qh8 ha]
  exact qFY xs hl op ep key _ _ i a ha) (qxj ⟨ge1,trivial⟩)
 rw[qh9]at l
 exact qxk ⟨l,trivial⟩
theorem qF0(xs:List Cell)(op ep key:Int)(hl:xs.length≤8388608):Rt 255 [.one (.sl 4 (xs.map Cell.e)),.one (I op),.one (I ep),.one (I key)] [.one (I (qcZ xs op ep key).1),.one (B (qcZ xs op ep key).2)]:=by
 have l:=qan (P:=prog) (c:=(qaa f255 0)) (qaf 0) xs.length (fun i:Nat=>qcr (xs.map Cell.e) op ep key i (qbu (qaV op ep key) (0,false) xs i).2 (qbu (qaV op ep key) (0,false) xs i).1) (fun i hi=>by
  obtain⟨a,ha⟩:=qai hi
  rw[qh8 ha]
  exact qFZ xs hl op ep key _ _ i a ha) (qwz ⟨ge1,trivial⟩)
 rw[qh9]at l
 exact qwA ⟨l,trivial⟩
end Go.Proofs.YtdanpadojemjeaaGreat
namespace Go.Proofs.YtdanpadojemjeaaGreat
open Go.Sx Go.RowKit Go.Proofs.Tryz
theorem qGP{P:Program}{f:Nat}{args:List GA}{k:Nat}{l l':List (List D)}(h:RetG P f args [.one (.sl k l)])(hl:l=l'):RetG P f args [.one (.sl k l')]:=hl▸h
theorem qli(xs:List Cell)(p:Cell→Bool)(g:Nat)(caps:List D)(hl:xs.length≤8388608)(hc:qaZ prog g=true)(hp:∀x∈xs,∀r,p x=r→Rt g ([.agg x.e]++caps.map .one) [.one (B r)]):
  ∀(n i:Nat) (ys:List Cell),n+i=xs.length→ys.length=xs.length→ys.drop i=xs.drop i→ys.take ((xs.take i).filter fun a=>!p a).length=(xs.take i).filter (fun a=>!p a)→
  ∃zs:List Cell,qaj prog (qaa f256 0) (qdS g caps i ((xs.take i).filter fun a=>!p a).length (ys.map Cell.e)) (.exit 0) (qkE (zs.map Cell.e) (xs.filter fun a=>!p a).length)∧zs.length=xs.length∧zs.take (xs.filter fun a=>!p a).length=xs.filter (fun a=>!p a)
 | 0,i,ys,hi,hy,_,ht=>by
  have e:xs.take i=xs:=zbk (by omega)
  rw[e]at ht ⊢
  exact⟨ys,.last (qaf 0) (qwt _ _ _ _ _ ⟨dF (by simp;omega),trivial⟩),hy,ht⟩
 | n+1,i,ys,hi,hy,hd,ht=>by
  obtain⟨a,ha⟩:=qai (xs:=xs) (i:=i) (by omega)
  have hya:ys[i]?=some a:=by
   have e1:ys[i]?=(ys.drop i)[0]?:=by simp
   have e2:xs[i]?=(xs.drop i)[0]?:=by simp
   rw[e1,hd,←e2,ha]
  have hf:=qcV (fun a=>!p a) ha
  have hle:=qdR (fun a=>!p a) xs i
  have hdn:ys.drop (i+1)=xs.drop (i+1):=by
   have:=congrArg (List.drop 1) hd
   simpa[List.drop_drop,Nat.add_comm]using this
  cases h:p a with
  | true=>
   rw[h]at hf
   simp only[zZ,zao,zci,zaa]at hf
   obtain⟨zs,h1,h2,h3⟩:=qli xs p g caps hl hc hp n (i+1) ys (by omega) hy hdn (by rw[hf];exact ht)
   rw[hf]at h1
   exact⟨zs,.more (qws _ _ _ _ _ _ _ _ _ _ ⟨dT (by simp;omega),lt0,by simp;omega,qac Cell.e hya,hc,hp a (qar ha) true h,rfl,⟨by omega,by omega⟩,trivial⟩) h1,h2,h3⟩
  | false=>
   rw[h]at hf
   simp only[zbc,zbb]at hf
   generalize hj:((xs.take i).filter fun a=>!p a).length=j at*
   obtain⟨b,hb⟩:=qai (xs:=ys) (i:=j) (by omega)
   obtain⟨zs,h1,h2,h3⟩:=qli xs p g caps hl hc hp n (i+1) (ys.set j a) (by omega) (by simpa using hy) (by rw[List.drop_set_of_lt (by omega)];exact hdn) (by
    rw[hf,zab,hj,List.length_singleton,List.take_set,←ht]
    have hjl:j<ys.length:=by omega
    rw[List.take_succ_eq_append_getElem hjl,List.set_append_right _ _ (by simp;omega)]
    simp[zay,Nat.min_eq_left (Nat.le_of_lt hjl)])
   rw[hf,zab,hj,List.length_singleton]at h1
   refine⟨zs,.more (tr_to (fun l=>qdS g caps ((i+1:Nat):Int) ((j+1:Nat):Int) l) (qwr _ _ _ _ _ _ _ _ _ _ _ _ _ _ ⟨dT (by simp;omega),lt0,by simp;omega,qac Cell.e hya,hc,hp a (qar ha) false h,rfl,lt0,by simp;omega,qac Cell.e hb,⟨by omega,by omega⟩,⟨by omega,by omega⟩,trivial⟩) ?_) h1,h2,h3⟩
   show List.set _ _ a.e=_
   rw[zae,←zau]
theorem qGQ(xs:List Cell)(p:Cell→Bool)(g:Nat)(caps:List D)(hl:xs.length≤8388608)(hc:qaZ prog g=true)(hp:∀x∈xs,Rt g ([.agg x.e]++caps.map .one) [.one (B (p x))]):
  RetG prog 256 [.one (.gv 4 (xs.map Cell.e) none),.one (.ro (.cl g caps))] [.one (.sl 4 ((xs.filter fun a=>!p a).map Cell.e))]:=by
 have hp':∀x∈xs,∀r,p x=r→Rt g ([.agg x.e]++caps.map .one) [.one (B r)]:=fun x hx r h=>h▸hp x hx
 have ix:=qzt xs p g caps hl hc hp
 unfold idxI at ix
 cases h:xs.findIdx? p with
 | none=>
  rw[h]at ix
  rw[zbs]at h
  have e:(xs.filter fun a=>!p a)=xs:=List.filter_eq_self.2 fun a ha=>by simp[h a ha]
  rw[e]
  exact qwq _ _ _ _ ⟨ix,rfl,trivial⟩
 | some i=>
  rw[h]at ix
  change Ret _ _ _ [.one (I (i:Int))]at ix
  rw[zai]at h
  obtain⟨hi,h2,h3⟩:=h
  have hx:xs[i]?=some xs[i]:=zu hi
  have e0:(xs.take i).filter (fun a=>!p a)=xs.take i:=List.filter_eq_self.2 fun a ha=>by
   obtain⟨j,hj,rfl⟩:=List.getElem_of_mem ha
   have hji:j<i:=by simp at hj;omega
   have:=h3 j hji
   simpa using this
  have e1:=qcV (fun a=>!p a) hx
  rw[h2]at e1
  simp only[zZ,zao,zci,zaa]at e1
  rw[e0]at e1
  have e2:(xs.take i).length=i:=by rw[zay];omega
  obtain⟨zs,l,hz,ht⟩:=qli xs p g caps hl hc hp' (xs.length-(i+1)) (i+1) xs (by omega) rfl rfl (by rw[e1,e2])
  rw[e1,e2]at l
  have hlt:(xs.filter fun a=>!p a).length<xs.length:=by
   have e3:xs.filter (fun a=>!p a)=xs.take i++(xs.drop (i+1)).filter fun a=>!p a:=by
    have:=zcb (i+1) xs
    rw[←this,List.filter_append,this,e1]
   rw[e3,zab,e2]
   have:=zat (fun a=>!p a) (xs.drop (i+1))
   rw[List.length_drop]at this
   omega
  generalize xs.filter (fun a=>!p a)=fs at*
  refine qGP (qwu _ _ _ _ _ _ ⟨ix,zbq.2 (by omega),⟨by omega,by omega⟩,l,by simp,by simp;omega,qae _ Cell.flat _,by simp,by simp,by simp;omega,trivial⟩) ?_
  simp only[zV,zae,Nat.sub_zero,zck,←zcr]
  rw[ht,zbw (by simp),zbk (by simp)]
def qaJ(k:Int):Bool:=k==5||k==6||k==8
def qbe(xs:List Cell)(x:Cell):List Cell×Bool:=
 if (qcZ xs x.op x.epoch x.key).2&&decide ((qcZ xs x.op x.epoch x.key).1≤x.val) then (xs,false) else (qbc (xs.filter fun a=>!qax x a) x,true)
def qak(kind:Int)(xs:List Cell)(x:Cell):List Cell×Bool:=
 if kind=6 then (if qcs xs x then (xs,false) else (qbc xs x,true))
 else if kind=5∨kind=8 then qbe xs x
 else (xs,true)
theorem qpt(k:Int):Rt 236 [.one (I k)] [.one (B (qaJ k))]:=by
 rcases ze (k==5) with h1 | h1
 ·skip
  rw[show qaJ k=true from by grind[qaJ]]
  exact qxl ⟨h1,trivial⟩
 ·skip
  rcases ze (k==6) with h2 | h2
  ·skip
   rw[show qaJ k=true from by grind[qaJ]]
   exact qxm ⟨h1,h2,trivial⟩
  ·skip
   rw[show qaJ k=(k==8) from by grind[qaJ]]
   exact qxn ⟨h1,h2,trivial⟩
theorem qpu(xs:List Cell)(x:Cell)(hl:xs.length≤8388608):Rt 249 [.one (.sl 4 (xs.map Cell.e)),.agg x.e] [.one (.sl 4 ((qbe xs x).1.map Cell.e)),.one (B (qbe xs x).2)]:=by
 have c:=qF0 xs x.op x.epoch x.key hl
 have cp:=qdT xs hl
 have d:=qGQ xs (qax x) 257 [D.ptr x.e] hl (by kernel_rfl) (fun y _=>qwp ⟨qpo x y,trivial⟩)
 have pc:=qkN (xs.filter fun a=>!qax x a) x (zce (zat ..) hl)
 unfold qbe
 generalize qcZ xs x.op x.epoch x.key=m at*
 obtain⟨v,f⟩:=m
 cases f with
 | false=>exact qwD ⟨c,rfl,cp,d,pc,trivial⟩
 | true=>
  by_cases h:v≤x.val
  ·rw[dT h]
   exact qwB ⟨c,rfl,dT h,cp,trivial⟩
  ·rw[dF h]
   exact qwC ⟨c,rfl,dF h,cp,d,pc,trivial⟩
theorem qGR(xs acc:List Cell)(x:Cell)(hl:xs.length≤8388608)(i:Nat)(hc:acc.length≤i)(a:Cell)(ha:xs[i]?=some a):Tr prog (qaa f237 0) (qbI (xs.map Cell.e) x.op x.epoch x.key x.val i (acc.map Cell.e)) .normal (qbI (xs.map Cell.e) x.op x.epoch x.key x.val ((i+1:Nat):Int) ((acc++(bif qax x a then [] else [a])).map Cell.e)):=by
 have hj:=lt_of ha
 have hk1:xs[(i:Int).toNat]?=some a:=by simpa using ha
 have hj1:decide ((i:Int)<(↑(xs.map Cell.e).length:Int))=true:=lt1 hj
 rcases ze (a.op != x.op) with h1 | h1
 ·skip
  have hs:qax x a=false:=by grind[qax]
  rw[hs]
  rw[show (acc++(bif false then [] else [a])).map Cell.e=acc.map Cell.e++[a.e] from by simp]
  exact qxr ⟨hj1,(by first | omega | (simp only[zb,zq,zh];omega) | exact qap a.flat | (exact⟨by omega,by omega⟩)),(by first | omega | (simp only[zb,zq,zh];omega) | exact qap a.flat | (exact⟨by omega,by omega⟩)),(qad Cell.e hk1),h1,(by first | omega | (simp only[zb,zq,zh];omega) | exact qap a.flat | (exact⟨by omega,by omega⟩)),(by first | omega | (simp only[zb,zq,zh];omega) | exact qap a.flat | (exact⟨by omega,by omega⟩)),(qad Cell.e hk1),(by first | omega | (simp only[zb,zq,zh];omega) | exact qap a.flat | (exact⟨by omega,by omega⟩)),(by first | omega | (simp only[zb,zq,zh];omega) | exact qap a.flat | (exact⟨by omega,by omega⟩)),(by first | omega | (simp only[zb,zq,zh];omega) | exact qap a.flat | (exact⟨by omega,by omega⟩)),(by first | omega | (simp only[zb,zq,zh];omega) | exact qap a.flat | (exact⟨by omega,by omega⟩)),trivial⟩
 ·skip
  rcases ze (a.epoch != x.epoch) with h2 | h2
  ·skip
   have hs:qax x a=false:=by grind[qax]
   rw[hs]
   rw[show (acc++(bif false then [] else [a])).map Cell.e=acc.map Cell.e++[a.e] from by simp]
   exact qxs ⟨hj1,(by first | omega | (simp only[zb,zq,zh];omega) | exact qap a.flat | (exact⟨by omega,by omega⟩)),(by first | omega | (simp only[zb,zq,zh];omega) | exact qap a.flat | (exact⟨by omega,by omega⟩)),(qad Cell.e hk1),h1,(by first | omega | (simp only[zb,zq,zh];omega) | exact qap a.flat | (exact⟨by omega,by omega⟩)),(by first | omega | (simp only[zb,zq,zh];omega) | exact qap a.flat | (exact⟨by omega,by omega⟩)),(qad Cell.e hk1),h2,(by first | omega | (simp only[zb,zq,zh];omega) | exact qap a.flat | (exact⟨by omega,by omega⟩)),(by first | omega | (simp only[zb,zq,zh];omega) | exact qap a.flat | (exact⟨by omega,by omega⟩)),(qad Cell.e hk1),(by first | omega | (simp only[zb,zq,zh];omega) | exact qap a.flat | (exact⟨by omega,by omega⟩)),(by first | omega | (simp only[zb,zq,zh];omega) | exact qap a.flat | (exact⟨by omega,by omega⟩)),(by first | omega | (simp only[zb,zq,zh];omega) | exact qap a.flat | (exact⟨by omega,by omega⟩)),(by first | omega | (simp only[zb,zq,zh];omega) | exact qap a.flat | (exact⟨by omega,by omega⟩)),trivial⟩
  ·skip
   rcases ze (a.key != x.key) with h3 | h3
   ·skip
    have hs:qax x a=false:=by grind[qax]
    rw[hs]
    rw[show (acc++(bif false then [] else [a])).map Cell.e=acc.map Cell.e++[a.e] from by simp]
    exact qxt ⟨hj1,(by first | omega | (simp only[zb,zq,zh];omega) | exact qap a.flat | (exact⟨by omega,by omega⟩)),(by first | omega | (simp only[zb,zq,zh];omega) | exact qap a.flat | (exact⟨by omega,by omega⟩)),(qad Cell.e hk1),h1,(by first | omega | (simp only[zb,zq,zh];omega) | exact qap a.flat | (exact⟨by omega,by omega⟩)),(by first | omega | (simp only[zb,zq,zh];omega) | exact qap a.flat | (exact⟨by omega,by omega⟩)),(qad Cell.e hk1),h2,(by first | omega | (simp only[zb,zq,zh];omega) | exact qap a.flat | (exact⟨by omega,by omega⟩)),(by first | omega | (simp only[zb,zq,zh];omega) | exact qap a.flat | (exact⟨by omega,by omega⟩)),(qad Cell.e hk1),h3,(by first | omega | (simp only[zb,zq,zh];omega) | exact qap a.flat | (exact⟨by omega,by omega⟩)),(by first | omega | (simp only[zb,zq,zh];omega) | exact qap a.flat | (exact⟨by omega,by omega⟩)),(qad Cell.e hk1),(by first | omega | (simp only[zb,zq,zh];omega) | exact qap a.flat | (exact⟨by omega,by omega⟩)),(by first | omega | (simp only[zb,zq,zh];omega) | exact qap a.flat | (exact⟨by omega,by omega⟩)),(by first | omega | (simp only[zb,zq,zh];omega) | exact qap a.flat | (exact⟨by omega,by omega⟩)),(by first | omega | (simp only[zb,zq,zh];omega) | exact qap a.flat | (exact⟨by omega,by omega⟩)),trivial⟩
   ·skip
    have hs:qax x a=true:=by grind[qax]
    rw[hs]
    rw[show (acc++(bif true then [] else [a])).map Cell.e=acc.map Cell.e from by simp]
    exact qxu ⟨hj1,(by first | omega | (simp only[zb,zq,zh];omega) | exact qap a.flat | (exact⟨by omega,by omega⟩)),(by first | omega | (simp only[zb,zq,zh];omega) | exact qap a.flat | (exact⟨by omega,by omega⟩)),(qad Cell.e hk1),h1,(by first | omega | (simp only[zb,zq,zh];omega) | exact qap a.flat | (exact⟨by omega,by omega⟩)),(by first | omega | (simp only[zb,zq,zh];omega) | exact qap a.flat | (exact⟨by omega,by omega⟩)),(qad Cell.e hk1),h2,(by first | omega | (simp only[zb,zq,zh];omega) | exact qap a.flat | (exact⟨by omega,by omega⟩)),(by first | omega | (simp only[zb,zq,zh];omega) | exact qap a.flat | (exact⟨by omega,by omega⟩)),(qad Cell.e hk1),h3,(by first | omega | (simp only[zb,zq,zh];omega) | exact qap a.flat | (exact⟨by omega,by omega⟩)),trivial⟩
theorem qGS(p:Cell→Bool){xs:List Cell}{i:Nat}{a:Cell}(h:xs[i]?=some a):(xs.take (i+1)).filter (fun b=>!p b)=(xs.take i).filter (fun b=>!p b)++(bif p a then [] else [a]):=by
 rw[qcV _ h]
 cases p a<;>rfl
theorem qiy(xs:List Cell)(x:Cell)(hl:xs.length≤8388608):qaj prog (qaa f237 0) (qbI (xs.map Cell.e) x.op x.epoch x.key x.val 0 []) (.exit 1) (qfN x.op x.epoch x.key x.val ((xs.filter fun a=>!qax x a).map Cell.e)):=by
 have l:=qan (P:=prog) (c:=(qaa f237 0)) (qaf 1) xs.length (fun i:Nat=>qbI (xs.map Cell.e) x.op x.epoch x.key x.val i (((xs.take i).filter fun a=>!qax x a).map Cell.e)) (fun i hi=>by
  obtain⟨a,ha⟩:=qai hi
  rw[qGS (qax x) ha]
  exact qGR xs _ x hl i (qdR _ xs i) a ha) (qxv ⟨ge1,trivial⟩)
 rw[zC]at l
 exact l
theorem qpv(kind:Int)(xs:List Cell)(x:Cell)(hl:xs.length≤8388608):Rt 237 [.one (I kind),.one (.sl 4 (xs.map Cell.e)),.agg x.e] [.one (.sl 4 (((qak kind xs x).1).map Cell.e)),.one (B ((qak kind xs x).2))]:=by
 have hf:=zat (fun a=>!qax x a) xs
 rcases ze (kind==6) with h1 | h1
 ·skip
  have c2:=qoN xs x (by omega)
  rcases ze (qcs xs x) with h3 | h3
  ·skip
   rw[show qak kind xs x=(xs,false) from by grind[qak,qbe]]
   exact qxo ⟨(by first | omega | (simp only[zb,zh];omega) | exact qae _ Cell.flat _ | grind[inInt]),(by first | omega | (simp only[zb,zh];omega) | exact qae _ Cell.flat _ | grind[inInt]),(by first | omega | (simp only[zb,zh];omega) | exact qae _ Cell.flat _ | grind[inInt]),h1,c2,h3,trivial⟩
  ·skip
   have c4:=qfO xs x (by omega)
   rw[show qak kind xs x=((qbc xs x),true) from by grind[qak,qbe]]
   exact qxp ⟨(by first | omega | (simp only[zb,zh];omega) | exact qae _ Cell.flat _ | grind[inInt]),(by first | omega | (simp only[zb,zh];omega) | exact qae _ Cell.flat _ | grind[inInt]),(by first | omega | (simp only[zb,zh];omega) | exact qae _ Cell.flat _ | grind[inInt]),h1,c2,h3,c4,trivial⟩
 ·skip
  rcases ze (kind==5) with h5 | h5
  ·skip
   have c6:=qpp xs x.op x.epoch x.key (by omega)
   rcases ze ((qcZ xs x.op x.epoch x.key).2) with h7 | h7
   ·skip
    rcases ze (decide (((qcZ xs x.op x.epoch x.key).1)≤x.val)) with h8 | h8
    ·skip
     rw[show qak kind xs x=(xs,false) from by grind[qak,qbe]]
     exact qxq ⟨(by first | omega | (simp only[zb,zh];omega) | exact qae _ Cell.flat _ | grind[inInt]),(by first | omega | (simp only[zb,zh];omega) | exact qae _ Cell.flat _ | grind[inInt]),(by first | omega | (simp only[zb,zh];omega) | exact qae _ Cell.flat _ | grind[inInt]),h1,h5,h5,c6,h7,h8,trivial⟩
    ·skip
     
     have c9:=qfO (xs.filter fun a=>!qax x a) x (by omega)
     rw[show qak kind xs x=((qbc (xs.filter fun a=>!qax x a) x),true) from by grind[qak,qbe]]
     exact qxw ⟨(by first | omega | (simp only[zb,zh];omega) | exact qae _ Cell.flat _ | grind[inInt]),(by first | omega | (simp only[zb,zh];omega) | exact qae _ Cell.flat _ | grind[inInt]),(by first | omega | (simp only[zb,zh];omega) | exact qae _ Cell.flat _ | grind[inInt]),h1,h5,h5,c6,h7,h8,(qiy xs x hl),c9,trivial⟩
   ·skip
    
    have c10:=qfO (xs.filter fun a=>!qax x a) x (by omega)
    rw[show qak kind xs x=((qbc (xs.filter fun a=>!qax x a) x),true) from by grind[qak,qbe]]
    exact qxx ⟨(by first | omega | (simp only[zb,zh];omega) | exact qae _ Cell.flat _ | grind[inInt]),(by first | omega | (simp only[zb,zh];omega) | exact qae _ Cell.flat _ | grind[inInt]),(by first | omega | (simp only[zb,zh];omega) | exact qae _ Cell.flat _ | grind[inInt]),h1,h5,h5,c6,h7,(qiy xs x hl),c10,trivial⟩
  ·skip
   rcases ze (kind==8) with h11 | h11
   ·skip
    have c12:=qpp xs x.op x.epoch x.key (by omega)
    rcases ze ((qcZ xs x.op x.epoch x.key).2) with h13 | h13
    ·skip
     rcases ze (decide (((qcZ xs x.op x.epoch x.key).1)≤x.val)) with h14 | h14
     ·skip
      rw[show qak kind xs x=(xs,false) from by grind[qak,qbe]]
      exact qxy ⟨(by first | omega | (simp only[zb,zh];omega) | exact qae _ Cell.flat _ | grind[inInt]),(by first | omega | (simp only[zb,zh];omega) | exact qae _ Cell.flat _ | grind[inInt]),(by first | omega | (simp only[zb,zh];omega) | exact qae _ Cell.flat _ | grind[inInt]),h1,h5,h11,c12,h13,h14,trivial⟩
     ·skip
      
      have c15:=qfO (xs.filter fun a=>!qax x a) x (by omega)
      rw[show qak kind xs x=((qbc (xs.filter fun a=>!qax x a) x),true) from by grind[qak,qbe]]
      exact qxz ⟨(by first | omega | (simp only[zb,zh];omega) | exact qae _ Cell.flat _ | grind[inInt]),(by first | omega | (simp only[zb,zh];omega) | exact qae _ Cell.flat _ | grind[inInt]),(by first | omega | (simp only[zb,zh];omega) | exact qae _ Cell.flat _ | grind[inInt]),h1,h5,h11,c12,h13,h14,(qiy xs x hl),c15,trivial⟩
    ·skip
     
     have c16:=qfO (xs.filter fun a=>!qax x a) x (by omega)
     rw[show qak kind xs x=((qbc (xs.filter fun a=>!qax x a) x),true) from by grind[qak,qbe]]
     exact qxA ⟨(by first | omega | (simp only[zb,zh];omega) | exact qae _ Cell.flat _ | grind[inInt]),(by first | omega | (simp only[zb,zh];omega) | exact qae _ Cell.flat _ | grind[inInt]),(by first | omega | (simp only[zb,zh];omega) | exact qae _ Cell.flat _ | grind[inInt]),h1,h5,h11,c12,h13,(qiy xs x hl),c16,trivial⟩
   ·skip
    rw[show qak kind xs x=(xs,true) from by grind[qak,qbe]]
    exact qxB ⟨(by first | omega | (simp only[zb,zh];omega) | exact qae _ Cell.flat _ | grind[inInt]),(by first | omega | (simp only[zb,zh];omega) | exact qae _ Cell.flat _ | grind[inInt]),(by first | omega | (simp only[zb,zh];omega) | exact qae _ Cell.flat _ | grind[inInt]),h1,h5,h11,trivial⟩
theorem qpw(kind:Int)(xs:List Cell)(x:Cell)(hl:xs.length≤8388608):Rt 240 [.one (I kind),.one (.sl 4 (xs.map Cell.e)),.agg x.e] [.one (.sl 4 (((qak kind xs x).1).map Cell.e)),.one (B ((qak kind xs x).2))]:=by
 rcases ze (kind==5) with h1 | h1
 ·skip
  have c2:=qpu xs x (by omega)
  rw[show qak kind xs x=(((qbe xs x).1),(qbe xs x).2) from by grind[qak,qbe,qbc]]
  exact qwE ⟨h1,h1,c2,trivial⟩
 ·skip
  rcases ze (kind==8) with h3 | h3
  ·skip
   have c4:=qpu xs x (by omega)
   rw[show qak kind xs x=(((qbe xs x).1),(qbe xs x).2) from by grind[qak,qbe,qbc]]
   exact qwF ⟨h1,h3,c4,trivial⟩
  ·skip
   rcases ze (kind==6) with h5 | h5
   ·skip
    have c6:=qkN xs x (by omega)
    have c7:=qoP xs x (by omega)
    rw[show qak kind xs x=((qbc xs x),!(qcs xs x)) from by grind[qak,qbe,qbc]]
    exact qwG ⟨h1,h3,h5,c6,c7,trivial⟩
   ·skip
    have c8:=qdT xs (by omega)
    rw[show qak kind xs x=(xs,true) from by grind[qak,qbe,qbc]]
    exact qwH ⟨h1,h3,h5,c8,trivial⟩
def sends(x:Node)(s:Stamp)(key val:Int):List Record:=x.outs.map fun k=>⟨k,s,key,val⟩
def cellOf(r:Record):Cell:=⟨r.op,r.stamp.epoch,r.key,r.val⟩
def qaq(g:Graph)(cs:List Cell)(r:Record)(x:Node):List Cell×List Record×Bool:=
 if qas g&&qaC r then
  if !(qag x r.key r.val).2.2&&x.kind != 8 then (cs,[],true)
  else if !(qak x.kind cs ⟨r.op,r.stamp.epoch,r.key,r.val⟩).2 then ((qak x.kind cs ⟨r.op,r.stamp.epoch,r.key,r.val⟩).1,[],true)
  else if x.kind=7 then
   ((qak x.kind cs ⟨r.op,r.stamp.epoch,r.key,r.val⟩).1,(bif (qaA r.stamp).2 then sends x (qaA r.stamp).1 (qag x r.key r.val).1 (qag x r.key r.val).2.1 else []),true)
  else ((qak x.kind cs ⟨r.op,r.stamp.epoch,r.key,r.val⟩).1,sends x r.stamp (qag x r.key r.val).1 (qag x r.key r.val).2.1,true)
 else (cs,[],false)
theorem qf1(x:Node)(s:Stamp)(key val:Int){i:Nat}{k:Int}(h:x.outs[i]?=some k):(((x.outs.take (i+1)).map fun k=>(⟨k,s,key,val⟩:Record)).map Record.e)=(((x.outs.take i).map fun k=>(⟨k,s,key,val⟩:Record)).map Record.e)++[(⟨k,s,key,val⟩:Record).e]:=by
 simp[zbe,h]
theorem qpx(x:Node)(hx:x.outs.length≤8388608)(s:Stamp)(key val:Int)(nx:List (List D)):qaj prog (qaa f210 0) (qe7 x.kind x.a x.b (x.outs.map eI) key val nx s.epoch s.turn 0 []) (.exit 0) (qd5 nx ((sends x s key val).map Record.e)):=by
 have l:=qan (P:=prog) (c:=(qaa f210 0)) (qaf 0) x.outs.length (fun i:Nat=>qe7 x.kind x.a x.b (x.outs.map eI) key val nx s.epoch s.turn i (((x.outs.take i).map fun k=>(⟨k,s,key,val⟩:Record)).map Record.e)) (fun i hi=>by
  obtain⟨k,hk⟩:=qai hi
  rw[qf1 x s key val hk]
  exact qGd ⟨lt1 hi,lt0,lt2 hi,qac eI hk,by simp;omega,by simp;omega,qap (Record.flat ⟨k,s,key,val⟩),up1 hi hx,trivial⟩) (qGe ⟨ge1,trivial⟩)
 rw[zC]at l
 exact l
theorem qpy(x:Node)(hx:x.outs.length≤8388608)(s:Stamp)(key val:Int)(nx:List (List D)):qaj prog (qaa f210 0) (qe8 s.epoch s.turn x.kind x.a x.b (x.outs.map eI) key val nx 0 []) (.exit 0) (qd5 nx ((sends x s key val).map Record.e)):=by
 have l:=qan (P:=prog) (c:=(qaa f210 0)) (qaf 0) x.outs.length (fun i:Nat=>qe8 s.epoch s.turn x.kind x.a x.b (x.outs.map eI) key val nx i (((x.outs.take i).map fun k=>(⟨k,s,key,val⟩:Record)).map Record.e)) (fun i hi=>by
  obtain⟨k,hk⟩:=qai hi
  rw[qf1 x s key val hk]
  exact qGg ⟨lt1 hi,lt0,lt2 hi,qac eI hk,by simp;omega,by simp;omega,qap (Record.flat ⟨k,s,key,val⟩),up1 hi hx,trivial⟩) (qGh ⟨ge1,trivial⟩)
 rw[zC]at l
 exact l
theorem qpz(x:Node)(hx:x.outs.length≤8388608)(s:Stamp)(key val:Int)(nx:List (List D)):qaj prog (qaa f210 0) (qe9 nx x.kind x.a x.b (x.outs.map eI) key val s.epoch s.turn 0 []) (.exit 0) (qd6 nx ((sends x s key val).map Record.e)):=by
 have l:=qan (P:=prog) (c:=(qaa f210 0)) (qaf 0) x.outs.length (fun i:Nat=>qe9 nx x.kind x.a x.b (x.outs.map eI) key val s.epoch s.turn i (((x.outs.take i).map fun k=>(⟨k,s,key,val⟩:Record)).map Record.e)) (fun i hi=>by
  obtain⟨k,hk⟩:=qai hi
  rw[qf1 x s key val hk]
  exact qGk ⟨lt1 hi,lt0,lt2 hi,qac eI hk,by simp;omega,by simp;omega,qap (Record.flat ⟨k,s,key,val⟩),up1 hi hx,trivial⟩) (qGl ⟨ge1,trivial⟩)
 rw[zC]at l
 exact l
theorem qpA(x:Node)(hx:x.outs.length≤8388608)(s:Stamp)(key val:Int)(nx:List (List D)):qaj prog (qaa f210 0) (qfa nx s.epoch s.turn x.kind x.a x.b (x.outs.map eI) key val 0 []) (.exit 0) (qd6 nx ((sends x s key val).map Record.e)):=by
 have l:=qan (P:=prog) (c:=(qaa f210 0)) (qaf 0) x.outs.length (fun i:Nat=>qfa nx s.epoch s.turn x.kind x.a x.b (x.outs.map eI) key val i (((x.outs.take i).map fun k=>(⟨k,s,key,val⟩:Record)).map Record.e)) (fun i hi=>by
  obtain⟨k,hk⟩:=qai hi
  rw[qf1 x s key val hk]
  exact qGn ⟨lt1 hi,lt0,lt2 hi,qac eI hk,by simp;omega,by simp;omega,qap (Record.flat ⟨k,s,key,val⟩),up1 hi hx,trivial⟩) (qGo ⟨ge1,trivial⟩)
 rw[zC]at l
 exact l
theorem qpB(x:Node)(hx:x.outs.length≤8388608)(s:Stamp)(key val:Int)(nx:List (List D)):qaj prog (qaa f218 0) (qfb s.epoch s.turn (x.outs.map eI) key val nx 0 []) (.exit 0) (qd7 nx ((sends x s key val).map Record.e)):=by
 have l:=qan (P:=prog) (c:=(qaa f218 0)) (qaf 0) x.outs.length (fun i:Nat=>qfb s.epoch s.turn (x.outs.map eI) key val nx i (((x.outs.take i).map fun k=>(⟨k,s,key,val⟩:Record)).map Record.e)) (fun i hi=>by
  obtain⟨k,hk⟩:=qai hi
  rw[qf1 x s key val hk]
  exact qGD ⟨lt1 hi,lt0,lt2 hi,qac eI hk,rfl,by simp;omega,by simp;omega,qap (Record.flat ⟨k,s,key,val⟩),up1 hi hx,trivial⟩) (qGE ⟨ge1,trivial⟩)
 rw[zC]at l
 exact l
theorem qpC(x:Node)(hx:x.outs.length≤8388608)(b:Bool)(s:Stamp)(key val:Int)(nx:List (List D)):qaj prog (qaa f218 0) (qdl (x.outs.map eI) key val nx s.epoch s.turn b 0 []) (.exit 0) (qd7 nx ((bif b then sends x s key val else []).map Record.e)):=by
 cases b with
 | true=>
  have l:=qan (P:=prog) (c:=(qaa f218 0)) (qaf 0) x.outs.length (fun i:Nat=>qdl (x.outs.map eI) key val nx s.epoch s.turn true i (((x.outs.take i).map fun k=>(⟨k,s,key,val⟩:Record)).map Record.e)) (fun i hi=>by
   obtain⟨k,hk⟩:=qai hi
   rw[qf1 x s key val hk]
   exact qGA ⟨lt1 hi,lt0,lt2 hi,qac eI hk,rfl,by simp;omega,by simp;omega,qap (Record.flat ⟨k,s,key,val⟩),up1 hi hx,trivial⟩) (qps ⟨ge1,trivial⟩)
  rw[zC]at l
  exact l
 | false=>
  exact qan (P:=prog) (c:=(qaa f218 0)) (qaf 0) x.outs.length (fun i:Nat=>qdl (x.outs.map eI) key val nx s.epoch s.turn false i []) (fun i hi=>by
   obtain⟨k,hk⟩:=qai hi
   exact qGB ⟨lt1 hi,lt0,lt2 hi,qac eI hk,rfl,up1 hi hx,trivial⟩) (qps ⟨ge1,trivial⟩)
theorem qGT(g:Graph)(cs:List Cell)(r:Record)(x:Node)(hg:g.sz≤8388608)(hl:cs.length≤8388608)(hn:qaH g r.op=some x):Rt 210 [.agg g.e,.one (.sl 4 (cs.map Cell.e)),.agg r.e] [.one (.sl 4 ((qaq g cs r x).1.map Cell.e)),.one (.sl 5 ((qaq g cs r x).2.1.map Record.e)),.one (B (qaq g cs r x).2.2)]:=by
 have hx:=Graph.outs_le hg (qkQ hn)
 obtain⟨hk0,hk2,_,_⟩:=qgS hn
 have hk1:g.nodes[r.op.toNat]?=some x:=by have:=hn;unfold qaH at this;rwa[zp hk0]at this
 have c1:=qfQ g r.op (x,true) (by unfold qdc;rw[hn]) hg
 have c2:=qix g hg
 rcases ze (qas g) with h3 | h3
 ·skip
  have c4:=qdy r
  rcases ze (qaC r) with h5 | h5
  ·skip
   have c6:=qFW x r.key r.val hx
   rcases ze ((qag x r.key r.val).2.2) with h7 | h7
   ·skip
    have c8:=qpt x.kind
    rcases ze (qaJ x.kind) with h9 | h9
    ·skip
     have c10:=qpv x.kind cs (⟨r.op,r.stamp.epoch,r.key,r.val⟩:Cell) (by omega)
     rcases ze ((qak x.kind cs (⟨r.op,r.stamp.epoch,r.key,r.val⟩:Cell)).2) with h11 | h11
     ·skip
      rcases ze (x.kind==7) with h12 | h12
      ·skip
       have c13:=qf0 r.stamp
       rcases ze ((qaA r.stamp).2) with h14 | h14
       ·skip
        
        rw[show qaq g cs r x=(((qak x.kind cs (⟨r.op,r.stamp.epoch,r.key,r.val⟩:Cell)).1),(sends x ((qaA r.stamp).1) ((qag x r.key r.val).1) ((qag x r.key r.val).2.1)),true) from by grind[qaq,qaJ,qak]]
        exact qGs ⟨(by first | omega | (simp only[zb,zh];omega) | exact qae _ Cell.flat _ | grind[inInt]),(by first | omega | (simp only[zb,zh];omega) | exact qae _ Cell.flat _ | grind[inInt]),(by first | omega | (simp only[zb,zh];omega) | exact qae _ Cell.flat _ | grind[inInt]),c1,rfl,c2,(by rw[h3];rfl),c4,(by rw[h5];rfl),c6,(by rw[h7];rfl),c8,h9,c10,(by rw[h11];rfl),h12,c13,(by rw[h14];rfl),(qpx x hx ((qaA r.stamp).1) ((qag x r.key r.val).1) ((qag x r.key r.val).2.1) _),trivial⟩
       ·skip
        rw[show qaq g cs r x=(((qak x.kind cs (⟨r.op,r.stamp.epoch,r.key,r.val⟩:Cell)).1),([]:List Record),true) from by grind[qaq,qaJ,qak]]
        exact qGr ⟨(by first | omega | (simp only[zb,zh];omega) | exact qae _ Cell.flat _ | grind[inInt]),(by first | omega | (simp only[zb,zh];omega) | exact qae _ Cell.flat _ | grind[inInt]),(by first | omega | (simp only[zb,zh];omega) | exact qae _ Cell.flat _ | grind[inInt]),c1,rfl,c2,(by rw[h3];rfl),c4,(by rw[h5];rfl),c6,(by rw[h7];rfl),c8,h9,c10,(by rw[h11];rfl),h12,c13,(by rw[h14];rfl),trivial⟩
      ·skip
       
       rw[show qaq g cs r x=(((qak x.kind cs (⟨r.op,r.stamp.epoch,r.key,r.val⟩:Cell)).1),(sends x r.stamp ((qag x r.key r.val).1) ((qag x r.key r.val).2.1)),true) from by grind[qaq,qaJ,qak]]
       exact qGt ⟨(by first | omega | (simp only[zb,zh];omega) | exact qae _ Cell.flat _ | grind[inInt]),(by first | omega | (simp only[zb,zh];omega) | exact qae _ Cell.flat _ | grind[inInt]),(by first | omega | (simp only[zb,zh];omega) | exact qae _ Cell.flat _ | grind[inInt]),c1,rfl,c2,(by rw[h3];rfl),c4,(by rw[h5];rfl),c6,(by rw[h7];rfl),c8,h9,c10,(by rw[h11];rfl),h12,(qpy x hx r.stamp ((qag x r.key r.val).1) ((qag x r.key r.val).2.1) _),trivial⟩
     ·skip
      rw[show qaq g cs r x=(((qak x.kind cs (⟨r.op,r.stamp.epoch,r.key,r.val⟩:Cell)).1),([]:List Record),true) from by grind[qaq,qaJ,qak]]
      exact qGq ⟨(by first | omega | (simp only[zb,zh];omega) | exact qae _ Cell.flat _ | grind[inInt]),(by first | omega | (simp only[zb,zh];omega) | exact qae _ Cell.flat _ | grind[inInt]),(by first | omega | (simp only[zb,zh];omega) | exact qae _ Cell.flat _ | grind[inInt]),c1,rfl,c2,(by rw[h3];rfl),c4,(by rw[h5];rfl),c6,(by rw[h7];rfl),c8,h9,c10,(by rw[h11];rfl),trivial⟩
    ·skip
     rcases ze (x.kind==7) with h15 | h15
     ·skip
      have c16:=qf0 r.stamp
      rcases ze ((qaA r.stamp).2) with h17 | h17
      ·skip
       
       rw[show qaq g cs r x=(cs,(sends x ((qaA r.stamp).1) ((qag x r.key r.val).1) ((qag x r.key r.val).2.1)),true) from by grind[qaq,qaJ,qak]]
       exact qGv ⟨(by first | omega | (simp only[zb,zh];omega) | exact qae _ Cell.flat _ | grind[inInt]),(by first | omega | (simp only[zb,zh];omega) | exact qae _ Cell.flat _ | grind[inInt]),(by first | omega | (simp only[zb,zh];omega) | exact qae _ Cell.flat _ | grind[inInt]),c1,rfl,c2,(by rw[h3];rfl),c4,(by rw[h5];rfl),c6,(by rw[h7];rfl),c8,h9,h15,c16,(by rw[h17];rfl),(qpz x hx ((qaA r.stamp).1) ((qag x r.key r.val).1) ((qag x r.key r.val).2.1) _),trivial⟩
      ·skip
       rw[show qaq g cs r x=(cs,([]:List Record),true) from by grind[qaq,qaJ,qak]]
       exact qGu ⟨(by first | omega | (simp only[zb,zh];omega) | exact qae _ Cell.flat _ | grind[inInt]),(by first | omega | (simp only[zb,zh];omega) | exact qae _ Cell.flat _ | grind[inInt]),(by first | omega | (simp only[zb,zh];omega) | exact qae _ Cell.flat _ | grind[inInt]),c1,rfl,c2,(by rw[h3];rfl),c4,(by rw[h5];rfl),c6,(by rw[h7];rfl),c8,h9,h15,c16,(by rw[h17];rfl),trivial⟩
     ·skip
      
      rw[show qaq g cs r x=(cs,(sends x r.stamp ((qag x r.key r.val).1) ((qag x r.key r.val).2.1)),true) from by grind[qaq,qaJ,qak]]
      exact qGw ⟨(by first | omega | (simp only[zb,zh];omega) | exact qae _ Cell.flat _ | grind[inInt]),(by first | omega | (simp only[zb,zh];omega) | exact qae _ Cell.flat _ | grind[inInt]),(by first | omega | (simp only[zb,zh];omega) | exact qae _ Cell.flat _ | grind[inInt]),c1,rfl,c2,(by rw[h3];rfl),c4,(by rw[h5];rfl),c6,(by rw[h7];rfl),c8,h9,h15,(qpA x hx r.stamp ((qag x r.key r.val).1) ((qag x r.key r.val).2.1) _),trivial⟩
   ·skip
    rcases ze (x.kind != 8) with h18 | h18
    ·skip
     rw[show qaq g cs r x=(cs,([]:List Record),true) from by grind[qaq,qaJ,qak]]
     exact qGa ⟨(by first | omega | (simp only[zb,zh];omega) | exact qae _ Cell.flat _ | grind[inInt]),(by first | omega | (simp only[zb,zh];omega) | exact qae _ Cell.flat _ | grind[inInt]),(by first | omega | (simp only[zb,zh];omega) | exact qae _ Cell.flat _ | grind[inInt]),c1,rfl,c2,(by rw[h3];rfl),c4,(by rw[h5];rfl),c6,(by rw[h7];rfl),h18,trivial⟩
    ·skip
     have c19:=qpt x.kind
     rcases ze (qaJ x.kind) with h20 | h20
     ·skip
      have c21:=qpv x.kind cs (⟨r.op,r.stamp.epoch,r.key,r.val⟩:Cell) (by omega)
      rcases ze ((qak x.kind cs (⟨r.op,r.stamp.epoch,r.key,r.val⟩:Cell)).2) with h22 | h22
      ·skip
       rcases ze (x.kind==7) with h23 | h23
       ·skip
        have c24:=qf0 r.stamp
        rcases ze ((qaA r.stamp).2) with h25 | h25
        ·skip
         
         rw[show qaq g cs r x=(((qak x.kind cs (⟨r.op,r.stamp.epoch,r.key,r.val⟩:Cell)).1),(sends x ((qaA r.stamp).1) ((qag x r.key r.val).1) ((qag x r.key r.val).2.1)),true) from by grind[qaq,qaJ,qak]]
         exact qGf ⟨(by first | omega | (simp only[zb,zh];omega) | exact qae _ Cell.flat _ | grind[inInt]),(by first | omega | (simp only[zb,zh];omega) | exact qae _ Cell.flat _ | grind[inInt]),(by first | omega | (simp only[zb,zh];omega) | exact qae _ Cell.flat _ | grind[inInt]),c1,rfl,c2,(by rw[h3];rfl),c4,(by rw[h5];rfl),c6,(by rw[h7];rfl),h18,c19,h20,c21,(by rw[h22];rfl),h23,c24,(by rw[h25];rfl),(qpx x hx ((qaA r.stamp).1) ((qag x r.key r.val).1) ((qag x r.key r.val).2.1) _),trivial⟩
        ·skip
         rw[show qaq g cs r x=(((qak x.kind cs (⟨r.op,r.stamp.epoch,r.key,r.val⟩:Cell)).1),([]:List Record),true) from by grind[qaq,qaJ,qak]]
         exact qGc ⟨(by first | omega | (simp only[zb,zh];omega) | exact qae _ Cell.flat _ | grind[inInt]),(by first | omega | (simp only[zb,zh];omega) | exact qae _ Cell.flat _ | grind[inInt]),(by first | omega | (simp only[zb,zh];omega) | exact qae _ Cell.flat _ | grind[inInt]),c1,rfl,c2,(by rw[h3];rfl),c4,(by rw[h5];rfl),c6,(by rw[h7];rfl),h18,c19,h20,c21,(by rw[h22];rfl),h23,c24,(by rw[h25];rfl),trivial⟩
       ·skip
        
        rw[show qaq g cs r x=(((qak x.kind cs (⟨r.op,r.stamp.epoch,r.key,r.val⟩:Cell)).1),(sends x r.stamp ((qag x r.key r.val).1) ((qag x r.key r.val).2.1)),true) from by grind[qaq,qaJ,qak]]
        exact qGi ⟨(by first | omega | (simp only[zb,zh];omega) | exact qae _ Cell.flat _ | grind[inInt]),(by first | omega | (simp only[zb,zh];omega) | exact qae _ Cell.flat _ | grind[inInt]),(by first | omega | (simp only[zb,zh];omega) | exact qae _ Cell.flat _ | grind[inInt]),c1,rfl,c2,(by rw[h3];rfl),c4,(by rw[h5];rfl),c6,(by rw[h7];rfl),h18,c19,h20,c21,(by rw[h22];rfl),h23,(qpy x hx r.stamp ((qag x r.key r.val).1) ((qag x r.key r.val).2.1) _),trivial⟩
      ·skip
       rw[show qaq g cs r x=(((qak x.kind cs (⟨r.op,r.stamp.epoch,r.key,r.val⟩:Cell)).1),([]:List Record),true) from by grind[qaq,qaJ,qak]]
       exact qGb ⟨(by first | omega | (simp only[zb,zh];omega) | exact qae _ Cell.flat _ | grind[inInt]),(by first | omega | (simp only[zb,zh];omega) | exact qae _ Cell.flat _ | grind[inInt]),(by first | omega | (simp only[zb,zh];omega) | exact qae _ Cell.flat _ | grind[inInt]),c1,rfl,c2,(by rw[h3];rfl),c4,(by rw[h5];rfl),c6,(by rw[h7];rfl),h18,c19,h20,c21,(by rw[h22];rfl),trivial⟩
     ·skip
      rcases ze (x.kind==7) with h26 | h26
      ·skip
       have c27:=qf0 r.stamp
       rcases ze ((qaA r.stamp).2) with h28 | h28
       ·skip
        
        rw[show qaq g cs r x=(cs,(sends x ((qaA r.stamp).1) ((qag x r.key r.val).1) ((qag x r.key r.val).2.1)),true) from by grind[qaq,qaJ,qak]]
        exact qGm ⟨(by first | omega | (simp only[zb,zh];omega) | exact qae _ Cell.flat _ | grind[inInt]),(by first | omega | (simp only[zb,zh];omega) | exact qae _ Cell.flat _ | grind[inInt]),(by first | omega | (simp only[zb,zh];omega) | exact qae _ Cell.flat _ | grind[inInt]),c1,rfl,c2,(by rw[h3];rfl),c4,(by rw[h5];rfl),c6,(by rw[h7];rfl),h18,c19,h20,h26,c27,(by rw[h28];rfl),(qpz x hx ((qaA r.stamp).1) ((qag x r.key r.val).1) ((qag x r.key r.val).2.1) _),trivial⟩
       ·skip
        rw[show qaq g cs r x=(cs,([]:List Record),true) from by grind[qaq,qaJ,qak]]
        exact qGj ⟨(by first | omega | (simp only[zb,zh];omega) | exact qae _ Cell.flat _ | grind[inInt]),(by first | omega | (simp only[zb,zh];omega) | exact qae _ Cell.flat _ | grind[inInt]),(by first | omega | (simp only[zb,zh];omega) | exact qae _ Cell.flat _ | grind[inInt]),c1,rfl,c2,(by rw[h3];rfl),c4,(by rw[h5];rfl),c6,(by rw[h7];rfl),h18,c19,h20,h26,c27,(by rw[h28];rfl),trivial⟩
      ·skip
       
       rw[show qaq g cs r x=(cs,(sends x r.stamp ((qag x r.key r.val).1) ((qag x r.key r.val).2.1)),true) from by grind[qaq,qaJ,qak]]
       exact qGp ⟨(by first | omega | (simp only[zb,zh];omega) | exact qae _ Cell.flat _ | grind[inInt]),(by first | omega | (simp only[zb,zh];omega) | exact qae _ Cell.flat _ | grind[inInt]),(by first | omega | (simp only[zb,zh];omega) | exact qae _ Cell.flat _ | grind[inInt]),c1,rfl,c2,(by rw[h3];rfl),c4,(by rw[h5];rfl),c6,(by rw[h7];rfl),h18,c19,h20,h26,(qpA x hx r.stamp ((qag x r.key r.val).1) ((qag x r.key r.val).2.1) _),trivial⟩
  ·skip
   rw[show qaq g cs r x=(cs,([]:List Record),false) from by grind[qaq,qaJ,qak]]
   exact qF9 ⟨(by first | omega | (simp only[zb,zh];omega) | exact qae _ Cell.flat _ | grind[inInt]),(by first | omega | (simp only[zb,zh];omega) | exact qae _ Cell.flat _ | grind[inInt]),(by first | omega | (simp only[zb,zh];omega) | exact qae _ Cell.flat _ | grind[inInt]),c1,rfl,c2,(by rw[h3];rfl),c4,(by rw[h5];rfl),trivial⟩
 ·skip
  rw[show qaq g cs r x=(cs,([]:List Record),false) from by grind[qaq,qaJ,qak]]
  exact qF8 ⟨(by first | omega | (simp only[zb,zh];omega) | exact qae _ Cell.flat _ | grind[inInt]),(by first | omega | (simp only[zb,zh];omega) | exact qae _ Cell.flat _ | grind[inInt]),(by first | omega | (simp only[zb,zh];omega) | exact qae _ Cell.flat _ | grind[inInt]),c1,rfl,c2,(by rw[h3];rfl),trivial⟩
theorem qGU(g:Graph)(cs:List Cell)(r:Record)(x:Node)(hg:g.sz≤8388608)(hl:cs.length≤8388608)(hn:qaH g r.op=some x):Rt 218 [.agg g.e,.one (.sl 4 (cs.map Cell.e)),.agg r.e] [.one (.sl 4 ((qaq g cs r x).1.map Cell.e)),.one (.sl 5 ((qaq g cs r x).2.1.map Record.e)),.one (B (qaq g cs r x).2.2)]:=by
 have hx:=Graph.outs_le hg (qkQ hn)
 obtain⟨hk0,hk2,_,_⟩:=qgS hn
 have hk1:g.nodes[r.op.toNat]?=some x:=by have:=hn;unfold qaH at this;rwa[zp hk0]at this
 have c1:=qe6 g hg
 rcases ze (qas g) with h2 | h2
 ·skip
  have c3:=qdk r
  rcases ze (qaC r) with h4 | h4
  ·skip
   have c5:=qdU g r.op true (by rw[hn];rfl) hg
   have c6:=qFX x r.key r.val hx
   rcases ze ((qag x r.key r.val).2.2) with h7 | h7
   ·skip
    have c8:=qpw x.kind cs (⟨r.op,r.stamp.epoch,r.key,r.val⟩:Cell) (by omega)
    rcases ze ((qak x.kind cs (⟨r.op,r.stamp.epoch,r.key,r.val⟩:Cell)).2) with h9 | h9
    ·skip
     rcases ze (x.kind==7) with h10 | h10
     ·skip
      have c11:=qlg r.stamp
      
      rw[show qaq g cs r x=(((qak x.kind cs (⟨r.op,r.stamp.epoch,r.key,r.val⟩:Cell)).1),(bif (qaA r.stamp).2 then sends x ((qaA r.stamp).1) ((qag x r.key r.val).1) ((qag x r.key r.val).2.1) else []),true) from by grind[qaq,qaJ,qak]]
      exact qGH ⟨c1,(by rw[h2];rfl),c3,(by rw[h4];rfl),c5,rfl,(by first | omega | (simp only[zb,zh];omega) | exact qae _ Cell.flat _ | grind[inInt]),(by first | omega | (simp only[zb,zh];omega) | exact qae _ Cell.flat _ | grind[inInt]),(qad Node.e hk1),c6,(by rw[h7];rfl),c8,(by rw[h9];rfl),h10,c11,(qpC x hx ((qaA r.stamp).2) ((qaA r.stamp).1) ((qag x r.key r.val).1) ((qag x r.key r.val).2.1) _),trivial⟩
     ·skip
      
      rw[show qaq g cs r x=(((qak x.kind cs (⟨r.op,r.stamp.epoch,r.key,r.val⟩:Cell)).1),(sends x r.stamp ((qag x r.key r.val).1) ((qag x r.key r.val).2.1)),true) from by grind[qaq,qaJ,qak]]
      exact qGI ⟨c1,(by rw[h2];rfl),c3,(by rw[h4];rfl),c5,rfl,(by first | omega | (simp only[zb,zh];omega) | exact qae _ Cell.flat _ | grind[inInt]),(by first | omega | (simp only[zb,zh];omega) | exact qae _ Cell.flat _ | grind[inInt]),(qad Node.e hk1),c6,(by rw[h7];rfl),c8,(by rw[h9];rfl),h10,(qpB x hx r.stamp ((qag x r.key r.val).1) ((qag x r.key r.val).2.1) _),trivial⟩
    ·skip
     rw[show qaq g cs r x=(((qak x.kind cs (⟨r.op,r.stamp.epoch,r.key,r.val⟩:Cell)).1),([]:List Record),true) from by grind[qaq,qaJ,qak]]
     exact qGG ⟨c1,(by rw[h2];rfl),c3,(by rw[h4];rfl),c5,rfl,(by first | omega | (simp only[zb,zh];omega) | exact qae _ Cell.flat _ | grind[inInt]),(by first | omega | (simp only[zb,zh];omega) | exact qae _ Cell.flat _ | grind[inInt]),(qad Node.e hk1),c6,(by rw[h7];rfl),c8,(by rw[h9];rfl),trivial⟩
   ·skip
    rcases ze (x.kind != 8) with h12 | h12
    ·skip
     have c13:=qdT cs (by omega)
     rw[show qaq g cs r x=(cs,([]:List Record),true) from by grind[qaq,qaJ,qak]]
     exact qGy ⟨c1,(by rw[h2];rfl),c3,(by rw[h4];rfl),c5,rfl,(by first | omega | (simp only[zb,zh];omega) | exact qae _ Cell.flat _ | grind[inInt]),(by first | omega | (simp only[zb,zh];omega) | exact qae _ Cell.flat _ | grind[inInt]),(qad Node.e hk1),c6,(by rw[h7];rfl),h12,c13,trivial⟩
    ·skip
     have c14:=qpw x.kind cs (⟨r.op,r.stamp.epoch,r.key,r.val⟩:Cell) (by omega)
     rcases ze ((qak x.kind cs (⟨r.op,r.stamp.epoch,r.key,r.val⟩:Cell)).2) with h15 | h15
     ·skip
      rcases ze (x.kind==7) with h16 | h16
      ·skip
       have c17:=qlg r.stamp
       
       rw[show qaq g cs r x=(((qak x.kind cs (⟨r.op,r.stamp.epoch,r.key,r.val⟩:Cell)).1),(bif (qaA r.stamp).2 then sends x ((qaA r.stamp).1) ((qag x r.key r.val).1) ((qag x r.key r.val).2.1) else []),true) from by grind[qaq,qaJ,qak]]
       exact qGC ⟨c1,(by rw[h2];rfl),c3,(by rw[h4];rfl),c5,rfl,(by first | omega | (simp only[zb,zh];omega) | exact qae _ Cell.flat _ | grind[inInt]),(by first | omega | (simp only[zb,zh];omega) | exact qae _ Cell.flat _ | grind[inInt]),(qad Node.e hk1),c6,(by rw[h7];rfl),h12,c14,(by rw[h15];rfl),h16,c17,(qpC x hx ((qaA r.stamp).2) ((qaA r.stamp).1) ((qag x r.key r.val).1) ((qag x r.key r.val).2.1) _),trivial⟩
      ·skip
       
       rw[show qaq g cs r x=(((qak x.kind cs (⟨r.op,r.stamp.epoch,r.key,r.val⟩:Cell)).1),(sends x r.stamp ((qag x r.key r.val).1) ((qag x r.key r.val).2.1)),true) from by grind[qaq,qaJ,qak]]
       exact qGF ⟨c1,(by rw[h2];rfl),c3,(by rw[h4];rfl),c5,rfl,(by first | omega | (simp only[zb,zh];omega) | exact qae _ Cell.flat _ | grind[inInt]),(by first | omega | (simp only[zb,zh];omega) | exact qae _ Cell.flat _ | grind[inInt]),(qad Node.e hk1),c6,(by rw[h7];rfl),h12,c14,(by rw[h15];rfl),h16,(qpB x hx r.stamp ((qag x r.key r.val).1) ((qag x r.key r.val).2.1) _),trivial⟩
     ·skip
      rw[show qaq g cs r x=(((qak x.kind cs (⟨r.op,r.stamp.epoch,r.key,r.val⟩:Cell)).1),([]:List Record),true) from by grind[qaq,qaJ,qak]]
      exact qGz ⟨c1,(by rw[h2];rfl),c3,(by rw[h4];rfl),c5,rfl,(by first | omega | (simp only[zb,zh];omega) | exact qae _ Cell.flat _ | grind[inInt]),(by first | omega | (simp only[zb,zh];omega) | exact qae _ Cell.flat _ | grind[inInt]),(qad Node.e hk1),c6,(by rw[h7];rfl),h12,c14,(by rw[h15];rfl),trivial⟩
  ·skip
   have c18:=qdT cs (by omega)
   rw[show qaq g cs r x=(cs,([]:List Record),false) from by grind[qaq,qaJ,qak]]
   exact qpr ⟨c1,(by rw[h2];rfl),c3,(by rw[h4];rfl),c18,trivial⟩
 ·skip
  have c19:=qdT cs (by omega)
  rw[show qaq g cs r x=(cs,([]:List Record),false) from by grind[qaq,qaJ,qak]]
  exact qpq ⟨c1,(by rw[h2];rfl),c19,trivial⟩
end Go.Proofs.YtdanpadojemjeaaGreat
namespace Go.Proofs.YtdanpadojemjeaaGreat
open Go.Sx Go.RowKit Go.Proofs.Tryz
def qay(g:Graph)(cs:List Cell)(r:Record):List Cell×List Record×Bool:=match qaH g r.op with | some x=>qaq g cs r x | none=>(cs,[],false)
theorem qGV(g:Graph)(cs:List Cell)(r:Record)(hg:g.sz≤8388608)(hl:cs.length≤8388608):Rt 210 [.agg g.e,.one (.sl 4 (cs.map Cell.e)),.agg r.e] [.one (.sl 4 ((qay g cs r).1.map Cell.e)),.one (.sl 5 ((qay g cs r).2.1.map Record.e)),.one (B (qay g cs r).2.2)]:=by
 unfold qay
 cases h:qaH g r.op with
 | some x=>exact qGT g cs r x hg hl h
 | none=>exact qF7 ⟨by simp<;>omega,by simp<;>omega,qae _ Cell.flat _,qfQ g r.op (⟨0,0,0,[]⟩,false) (by unfold qdc;rw[h]) hg,rfl,trivial⟩
theorem qGW(g:Graph)(cs:List Cell)(r:Record)(hg:g.sz≤8388608)(hl:cs.length≤8388608):Rt 218 [.agg g.e,.one (.sl 4 (cs.map Cell.e)),.agg r.e] [.one (.sl 4 ((qay g cs r).1.map Cell.e)),.one (.sl 5 ((qay g cs r).2.1.map Record.e)),.one (B (qay g cs r).2.2)]:=by
 unfold qay
 cases h:qaH g r.op with
 | some x=>exact qGU g cs r x hg hl h
 | none=>
  have c1:=qe6 g hg
  have c2:=qdk r
  have c3:=qdU g r.op false (by rw[h];rfl) hg
  have cp:=qdT cs hl
  generalize qas g=b1 at*
  generalize qaC r=b2 at*
  cases b1 with
  | false=>exact qpq ⟨c1,rfl,cp,trivial⟩
  | true=>
   cases b2 with
   | false=>exact qpr ⟨c1,rfl,c2,rfl,cp,trivial⟩
   | true=>exact qGx ⟨c1,rfl,c2,rfl,c3,rfl,cp,trivial⟩
def qbp(g:Graph)(r:Record)(x:Node):Bool:=qas g&&qaC r&&x.kind==7&&decide (0<x.outs.length)&&!(qaA r.stamp).2
def capped(g:Graph)(r:Record):Bool:=match qaH g r.op with | some x=>qbp g r x | none=>false
theorem qGX(g:Graph)(r:Record)(x:Node)(hg:g.sz≤8388608)(hn:qaH g r.op=some x):Rt 211 [.agg g.e,.agg r.e] [.one (B (qbp g r x))]:=by
 have c1:=qfQ g r.op (x,true) (by unfold qdc;rw[hn]) hg
 have c2:=qf0 r.stamp
 have c3:=qix g hg
 rcases ze (qas g) with h4 | h4
 ·skip
  have c5:=qdy r
  rcases ze (qaC r) with h6 | h6
  ·skip
   rcases ze (x.kind==7) with h7 | h7
   ·skip
    rcases ze (decide ((↑(x.outs.map eI).length:Int)>0)) with h8 | h8
    ·skip
     rw[show qbp g r x=(!((qaA r.stamp).2)) from by grind[qbp]]
     exact qF1 ⟨c1,c2,rfl,c3,h4,c5,h6,h7,h8,trivial⟩
    ·skip
     rw[show qbp g r x=false from by grind[qbp]]
     exact qF2 ⟨c1,c2,rfl,c3,h4,c5,h6,h7,h8,trivial⟩
   ·skip
    rw[show qbp g r x=false from by grind[qbp]]
    exact qF3 ⟨c1,c2,rfl,c3,h4,c5,h6,h7,trivial⟩
  ·skip
   rw[show qbp g r x=false from by grind[qbp]]
   exact qF4 ⟨c1,c2,rfl,c3,h4,c5,h6,trivial⟩
 ·skip
  rw[show qbp g r x=false from by grind[qbp]]
  exact qF5 ⟨c1,c2,rfl,c3,h4,trivial⟩
theorem qGY(g:Graph)(r:Record)(hg:g.sz≤8388608):Rt 211 [.agg g.e,.agg r.e] [.one (B (capped g r))]:=by
 unfold capped
 cases h:qaH g r.op with
 | some x=>exact qGX g r x hg h
 | none=>exact qF6 ⟨qfQ g r.op (⟨0,0,0,[]⟩,false) (by unfold qdc;rw[h]) hg,qf0 r.stamp,rfl,trivial⟩
theorem qlj{g:Graph}(h:qas g=true){op:Int}{x:Node}(hn:qaH g op=some x):qab x=true:=by
 simp only[qas,zj,zS]at h
 unfold qaH at hn
 split at hn
 ·have:=qia h.2 op.toNat x hn
  simp only[qbv,zy,zX]at this
  exact this.1.1
 ·cases hn
theorem qGZ{x:Node}(h:qab x=true):x.outs.length≤2:=by
 simp only[qab,zj,zi]at h
 exact h.1.1.1.2
theorem qG0(kind:Int)(cs:List Cell)(x:Cell):(qak kind cs x).1.length≤cs.length+1:=by
 have h1:=qkM cs x
 have h2:=qkM (cs.filter fun a=>!qax x a) x
 have h3:=zat (fun a=>!qax x a) cs
 unfold qak
 split
 ·split<;>simp<;>omega
 ·split
  ·unfold qbe
   split<;>simp<;>omega
  ·simp
theorem qG1{g:Graph}(hg:qas g=true)(cs:List Cell)(r:Record):(qay g cs r).1.length≤cs.length+1∧(qay g cs r).2.1.length≤2:=by
 unfold qay
 cases h:qaH g r.op with
 | none=>exact⟨by simp,by simp⟩
 | some x=>
  have hx:=qGZ (qlj hg h)
  have hr:=qG0 x.kind cs ⟨r.op,r.stamp.epoch,r.key,r.val⟩
  have hs:∀s k v,(sends x s k v).length≤2:=fun s k v=>by simpa[sends]using hx
  simp only[qaq]
  split
  ·split
   ·exact⟨by simp,by simp⟩
   ·split
    ·exact⟨hr,by simp⟩
    ·split
     ·refine⟨hr,?_⟩
      cases (qaA r.stamp).2 with
      | true=>exact hs _ _ _
      | false=>simp
     ·exact⟨hr,hs _ _ _⟩
  ·exact⟨by simp,by simp⟩
end Go.Proofs.YtdanpadojemjeaaGreat
