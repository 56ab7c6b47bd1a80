/- GraphOk, Changed, LeastOf: what program and reference compute (cases put together by gentree.py). -/
import Derived.Test.YtdkobdhckkjmeaaGreatP15
set_option linter.unusedVariables false
set_option linter.unusedSimpArgs false
namespace Go.Proofs.YtdkobdhckkjmeaaGreat
open Go.Sx Go.RowKit Go.Proofs.Tryz
def qbj(g:Graph)(k:Int):Int:=match g.nodes[k.toNat]? with | some y=>y.kind | none=>0
def qa1(g:Graph)(i:Nat)(x:Node)(k:Int):Bool:=
 decide ((g.nodes.length:Int)≤k)||(if x.kind=7 then decide ((i:Int)<k)||(qbj g k != 5&&qbj g k != 6) else decide (k≤i))
def qbv(g:Graph)(i:Nat)(x:Node):Bool:=!qab x||(decide (x.kind=1) != decide ((i:Int)=0))||x.outs.any (qa1 g i x)
def qax(g:Graph):Bool:=inR g.nodes.length 1 8&&inR g.workers 1 4&&inR g.cap 1 4&&!(anyI (qbv g) 0 g.nodes)
def qak(x:Node)(k v:Int):Int×Int×Bool:=
 if qab x&&qaL k v then
  if x.kind=2 then (k,less (v+x.a) 999,true)
  else if x.kind=4 then ((k+x.a).tmod 100,v,true)
  else if x.kind=3 then (k,v,k.tmod x.a==x.b)
  else (k,v,x.kind != 8)
 else (k,v,false)
theorem qmU{l:List Int}(h:okAll l=true){k:Int}(hk:k∈l):inR k 0 7=true:=by
 simp only[okAll,zS,zP]at h;simpa using h k hk
theorem qrl(g:Graph)(hg:g.sz≤8388608)(i:Nat)(hi:i<8)(x:Node)(hx:g.nodes[i]?=some x)(hok:qab x=true)(j:Nat)(k:Int)(hk:x.outs[j]?=some k)(r:Bool)(hr:qa1 g i x k=r):Tr prog (qaa f121 1) (qbh i (g.nodes.map Node.e) g.workers g.cap x.kind x.a x.b (x.outs.map eI) (j:Int)) (bif r then .ret else .normal) (bif r then qdw false else qbh i (g.nodes.map Node.e) g.workers g.cap x.kind x.a x.b (x.outs.map eI) ((j+1:Nat):Int)):=by
 have hj:=lt_of hk;have hl:x.outs.length≤2:=by grind[qab]
 have hk0:inR k 0 7=true:=qmU (by grind[qab]) (qag hk);have hk1:x.outs[(j:Int).toNat]?=some k:=by simpa using hk
 have hj1:decide ((j:Int)<(↑(x.outs.map eI).length:Int))=true:=lt1 hj;rcases ze (decide (k≥(↑(g.nodes.map Node.e).length:Int))) with h1 | h1
 ·skip
  obtain rfl:r=true:=by rw[←hr];grind[qa1,qbj,inR]
  exact qDn ⟨hj1,(by grind[inR,inInt,qab]),(by grind[inR,inInt,qab]),(qad eI hk1),h1,trivial⟩
 ·skip
  rcases ze (x.kind != 7) with h2 | h2
  ·skip
   rcases ze (decide (k≤(i:Int))) with h3 | h3
   ·skip
    obtain rfl:r=true:=by rw[←hr];grind[qa1,qbj,inR]
    exact qDo ⟨hj1,(by grind[inR,inInt,qab]),(by grind[inR,inInt,qab]),(qad eI hk1),h1,h2,h3,trivial⟩
   ·skip
    obtain⟨y4,hy4⟩:=look (xs:=g.nodes) (i:=k) (by grind[inR,inInt,qab]) (by grind[inR,inInt,qab]);rcases ze (x.kind==7) with h5 | h5
    ·skip
     rcases ze (decide (k>(i:Int))) with h6 | h6
     ·skip
      obtain rfl:r=true:=by rw[←hr];grind[qa1,qbj,inR]
      exact qDp ⟨hj1,(by grind[inR,inInt,qab]),(by grind[inR,inInt,qab]),(qad eI hk1),h1,h2,h3,(by grind[inR,inInt,qab]),(by grind[inR,inInt,qab]),(qad Node.e hy4),h5,h6,trivial⟩
     ·skip
      rcases ze (y4.kind != 5) with h7 | h7
      ·skip
       rcases ze (y4.kind != 6) with h8 | h8
       ·skip
        obtain rfl:r=true:=by rw[←hr];grind[qa1,qbj,inR]
        exact qDq ⟨hj1,(by grind[inR,inInt,qab]),(by grind[inR,inInt,qab]),(qad eI hk1),h1,h2,h3,(by grind[inR,inInt,qab]),(by grind[inR,inInt,qab]),(qad Node.e hy4),h5,h6,h7,h8,trivial⟩
       ·skip
        obtain rfl:r=false:=by rw[←hr];grind[qa1,qbj,inR]
        exact qDr ⟨hj1,(by grind[inR,inInt,qab]),(by grind[inR,inInt,qab]),(qad eI hk1),h1,h2,h3,(by grind[inR,inInt,qab]),(by grind[inR,inInt,qab]),(qad Node.e hy4),h5,h6,h7,h8,(by grind[inR,inInt,qab]),trivial⟩
      ·skip
       obtain rfl:r=false:=by rw[←hr];grind[qa1,qbj,inR]
       exact qDs ⟨hj1,(by grind[inR,inInt,qab]),(by grind[inR,inInt,qab]),(qad eI hk1),h1,h2,h3,(by grind[inR,inInt,qab]),(by grind[inR,inInt,qab]),(qad Node.e hy4),h5,h6,h7,(by grind[inR,inInt,qab]),trivial⟩
    ·skip
     obtain rfl:r=false:=by rw[←hr];grind[qa1,qbj,inR]
     exact qDt ⟨hj1,(by grind[inR,inInt,qab]),(by grind[inR,inInt,qab]),(qad eI hk1),h1,h2,h3,(by grind[inR,inInt,qab]),(by grind[inR,inInt,qab]),(qad Node.e hy4),h5,(by grind[inR,inInt,qab]),trivial⟩
  ·skip
   obtain⟨y9,hy9⟩:=look (xs:=g.nodes) (i:=k) (by grind[inR,inInt,qab]) (by grind[inR,inInt,qab]);rcases ze (x.kind==7) with h10 | h10
   ·skip
    rcases ze (decide (k>(i:Int))) with h11 | h11
    ·skip
     obtain rfl:r=true:=by rw[←hr];grind[qa1,qbj,inR]
     exact qDu ⟨hj1,(by grind[inR,inInt,qab]),(by grind[inR,inInt,qab]),(qad eI hk1),h1,h2,(by grind[inR,inInt,qab]),(by grind[inR,inInt,qab]),(qad Node.e hy9),h10,h11,trivial⟩
    ·skip
     rcases ze (y9.kind != 5) with h12 | h12
     ·skip
      rcases ze (y9.kind != 6) with h13 | h13
      ·skip
       obtain rfl:r=true:=by rw[←hr];grind[qa1,qbj,inR]
       exact qDv ⟨hj1,(by grind[inR,inInt,qab]),(by grind[inR,inInt,qab]),(qad eI hk1),h1,h2,(by grind[inR,inInt,qab]),(by grind[inR,inInt,qab]),(qad Node.e hy9),h10,h11,h12,h13,trivial⟩
      ·skip
       obtain rfl:r=false:=by rw[←hr];grind[qa1,qbj,inR]
       exact qDw ⟨hj1,(by grind[inR,inInt,qab]),(by grind[inR,inInt,qab]),(qad eI hk1),h1,h2,(by grind[inR,inInt,qab]),(by grind[inR,inInt,qab]),(qad Node.e hy9),h10,h11,h12,h13,(by grind[inR,inInt,qab]),trivial⟩
     ·skip
      obtain rfl:r=false:=by rw[←hr];grind[qa1,qbj,inR]
      exact qDx ⟨hj1,(by grind[inR,inInt,qab]),(by grind[inR,inInt,qab]),(qad eI hk1),h1,h2,(by grind[inR,inInt,qab]),(by grind[inR,inInt,qab]),(qad Node.e hy9),h10,h11,h12,(by grind[inR,inInt,qab]),trivial⟩
   ·skip
    obtain rfl:r=false:=by rw[←hr];grind[qa1,qbj,inR]
    exact qDy ⟨hj1,(by grind[inR,inInt,qab]),(by grind[inR,inInt,qab]),(qad eI hk1),h1,h2,(by grind[inR,inInt,qab]),(by grind[inR,inInt,qab]),(qad Node.e hy9),h10,(by grind[inR,inInt,qab]),trivial⟩
theorem qrm(g:Graph)(hg:g.sz≤8388608)(i:Nat)(hi:i<8)(x:Node)(hx:g.nodes[i]?=some x)(hok:qab x=true)(j:Nat)(k:Int)(hk:x.outs[j]?=some k)(r:Bool)(hr:qa1 g i x k=r):Tr prog (qaa f144 1) (qbi (g.nodes.map Node.e) i (g.nodes.map Node.e) g.workers g.cap x.kind x.a x.b (x.outs.map eI) (j:Int)) (bif r then .ret else .normal) (bif r then qdx false else qbi (g.nodes.map Node.e) i (g.nodes.map Node.e) g.workers g.cap x.kind x.a x.b (x.outs.map eI) ((j+1:Nat):Int)):=by
 have hj:=lt_of hk;have hl:x.outs.length≤2:=by grind[qab]
 have hk0:inR k 0 7=true:=qmU (by grind[qab]) (qag hk);have hk1:x.outs[(j:Int).toNat]?=some k:=by simpa using hk
 have hj1:decide ((j:Int)<(↑(x.outs.map eI).length:Int))=true:=lt1 hj;rcases ze (decide (k≥(↑(g.nodes.map Node.e).length:Int))) with h1 | h1
 ·skip
  obtain rfl:r=true:=by rw[←hr];grind[qa1,qbj,inR]
  exact qDK ⟨hj1,(by grind[inR,inInt,qab]),(by grind[inR,inInt,qab]),(qad eI hk1),h1,trivial⟩
 ·skip
  obtain⟨y2,hy2⟩:=look (xs:=g.nodes) (i:=k) (by grind[inR,inInt,qab]) (by grind[inR,inInt,qab]);rcases ze (x.kind==7) with h3 | h3
  ·skip
   rcases ze (decide (k>(i:Int))) with h4 | h4
   ·skip
    obtain rfl:r=true:=by rw[←hr];grind[qa1,qbj,inR]
    exact qDL ⟨hj1,(by grind[inR,inInt,qab]),(by grind[inR,inInt,qab]),(qad eI hk1),h1,(by grind[inR,inInt,qab]),(by grind[inR,inInt,qab]),(qad Node.e hy2),h3,h4,trivial⟩
   ·skip
    rcases ze (y2.kind != 5) with h5 | h5
    ·skip
     rcases ze (y2.kind != 6) with h6 | h6
     ·skip
      obtain rfl:r=true:=by rw[←hr];grind[qa1,qbj,inR]
      exact qDM ⟨hj1,(by grind[inR,inInt,qab]),(by grind[inR,inInt,qab]),(qad eI hk1),h1,(by grind[inR,inInt,qab]),(by grind[inR,inInt,qab]),(qad Node.e hy2),h3,h4,h5,h6,trivial⟩
     ·skip
      rcases ze (x.kind != 7) with h7 | h7
      ·skip
       rcases ze (decide (k≤(i:Int))) with h8 | h8
       ·skip
        obtain rfl:r=true:=by rw[←hr];grind[qa1,qbj,inR]
        exact qDN ⟨hj1,(by grind[inR,inInt,qab]),(by grind[inR,inInt,qab]),(qad eI hk1),h1,(by grind[inR,inInt,qab]),(by grind[inR,inInt,qab]),(qad Node.e hy2),h3,h4,h5,h6,h7,h8,trivial⟩
       ·skip
        obtain rfl:r=false:=by rw[←hr];grind[qa1,qbj,inR]
        exact qDO ⟨hj1,(by grind[inR,inInt,qab]),(by grind[inR,inInt,qab]),(qad eI hk1),h1,(by grind[inR,inInt,qab]),(by grind[inR,inInt,qab]),(qad Node.e hy2),h3,h4,h5,h6,h7,h8,(by grind[inR,inInt,qab]),trivial⟩
      ·skip
       obtain rfl:r=false:=by rw[←hr];grind[qa1,qbj,inR]
       exact qDP ⟨hj1,(by grind[inR,inInt,qab]),(by grind[inR,inInt,qab]),(qad eI hk1),h1,(by grind[inR,inInt,qab]),(by grind[inR,inInt,qab]),(qad Node.e hy2),h3,h4,h5,h6,h7,(by grind[inR,inInt,qab]),trivial⟩
    ·skip
     rcases ze (x.kind != 7) with h9 | h9
     ·skip
      rcases ze (decide (k≤(i:Int))) with h10 | h10
      ·skip
       obtain rfl:r=true:=by rw[←hr];grind[qa1,qbj,inR]
       exact qDQ ⟨hj1,(by grind[inR,inInt,qab]),(by grind[inR,inInt,qab]),(qad eI hk1),h1,(by grind[inR,inInt,qab]),(by grind[inR,inInt,qab]),(qad Node.e hy2),h3,h4,h5,h9,h10,trivial⟩
      ·skip
       obtain rfl:r=false:=by rw[←hr];grind[qa1,qbj,inR]
       exact qDR ⟨hj1,(by grind[inR,inInt,qab]),(by grind[inR,inInt,qab]),(qad eI hk1),h1,(by grind[inR,inInt,qab]),(by grind[inR,inInt,qab]),(qad Node.e hy2),h3,h4,h5,h9,h10,(by grind[inR,inInt,qab]),trivial⟩
     ·skip
      obtain rfl:r=false:=by rw[←hr];grind[qa1,qbj,inR]
      exact qDS ⟨hj1,(by grind[inR,inInt,qab]),(by grind[inR,inInt,qab]),(qad eI hk1),h1,(by grind[inR,inInt,qab]),(by grind[inR,inInt,qab]),(qad Node.e hy2),h3,h4,h5,h9,(by grind[inR,inInt,qab]),trivial⟩
  ·skip
   rcases ze (x.kind != 7) with h11 | h11
   ·skip
    rcases ze (decide (k≤(i:Int))) with h12 | h12
    ·skip
     obtain rfl:r=true:=by rw[←hr];grind[qa1,qbj,inR]
     exact qDT ⟨hj1,(by grind[inR,inInt,qab]),(by grind[inR,inInt,qab]),(qad eI hk1),h1,(by grind[inR,inInt,qab]),(by grind[inR,inInt,qab]),(qad Node.e hy2),h3,h11,h12,trivial⟩
    ·skip
     obtain rfl:r=false:=by rw[←hr];grind[qa1,qbj,inR]
     exact qDU ⟨hj1,(by grind[inR,inInt,qab]),(by grind[inR,inInt,qab]),(qad eI hk1),h1,(by grind[inR,inInt,qab]),(by grind[inR,inInt,qab]),(qad Node.e hy2),h3,h11,h12,(by grind[inR,inInt,qab]),trivial⟩
   ·skip
    obtain rfl:r=false:=by rw[←hr];grind[qa1,qbj,inR]
    exact qDV ⟨hj1,(by grind[inR,inInt,qab]),(by grind[inR,inInt,qab]),(qad eI hk1),h1,(by grind[inR,inInt,qab]),(by grind[inR,inInt,qab]),(qad Node.e hy2),h3,h11,(by grind[inR,inInt,qab]),trivial⟩
theorem qG0(g:Graph)(hg:g.sz≤8388608)(i:Nat)(hi:i<8)(x:Node)(hx:g.nodes[i]?=some x)(hok:qab x=true):
  (x.outs.any (qa1 g i x)=true∧qam prog (qaa f121 1) (qbh i (g.nodes.map Node.e) g.workers g.cap x.kind x.a x.b (x.outs.map eI) 0) .ret (qdw false))∨(x.outs.any (qa1 g i x)=false∧qam prog (qaa f121 1) (qbh i (g.nodes.map Node.e) g.workers g.cap x.kind x.a x.b (x.outs.map eI) 0) (.exit 2) (qmN i (g.nodes.map Node.e) g.workers g.cap)):=by
 have l:=qaW (P:=prog) (c:=(qaa f121 1)) x.outs (qa1 g i x) (fun j=>qbh i (g.nodes.map Node.e) g.workers g.cap x.kind x.a x.b (x.outs.map eI) j) (X:=fun _ _=>qdw false) qaE (qaf 2)
  (fun j k hk h=>qrl g hg i hi x hx hok j k hk false h)
  (fun j k hk h=>qrl g hg i hi x hx hok j k hk true h)
  (qDz ⟨ge1,trivial⟩)
 rcases l with⟨_,_,h1,h2⟩ | ⟨j,k,_,_,_,_,h1,h2⟩
 ·exact .inr ⟨h1,h2⟩
 ·exact .inl ⟨h1,h2⟩
theorem qG1(g:Graph)(hg:g.sz≤8388608)(i:Nat)(hi:i<8)(x:Node)(hx:g.nodes[i]?=some x)(hok:qab x=true):
  (x.outs.any (qa1 g i x)=true∧qam prog (qaa f144 1) (qbi (g.nodes.map Node.e) i (g.nodes.map Node.e) g.workers g.cap x.kind x.a x.b (x.outs.map eI) 0) .ret (qdx false))∨(x.outs.any (qa1 g i x)=false∧qam prog (qaa f144 1) (qbi (g.nodes.map Node.e) i (g.nodes.map Node.e) g.workers g.cap x.kind x.a x.b (x.outs.map eI) 0) (.exit 2) (qmP (g.nodes.map Node.e) i (g.nodes.map Node.e) g.workers g.cap)):=by
 have l:=qaW (P:=prog) (c:=(qaa f144 1)) x.outs (qa1 g i x) (fun j=>qbi (g.nodes.map Node.e) i (g.nodes.map Node.e) g.workers g.cap x.kind x.a x.b (x.outs.map eI) j) (X:=fun _ _=>qdx false) qaE (qaf 2)
  (fun j k hk h=>qrm g hg i hi x hx hok j k hk false h)
  (fun j k hk h=>qrm g hg i hi x hx hok j k hk true h)
  (qDW ⟨ge1,trivial⟩)
 rcases l with⟨_,_,h1,h2⟩ | ⟨j,k,_,_,_,_,h1,h2⟩
 ·exact .inr ⟨h1,h2⟩
 ·exact .inl ⟨h1,h2⟩
theorem qrn(g:Graph)(hg:g.sz≤8388608)(i:Nat)(hi:i<8)(x:Node)(hx:g.nodes[i]?=some x)(r:Bool)(hr:qbv g i x=r):Tr prog (qaa f121 0) (qcI ((i:Nat):Int) (g.nodes.map Node.e) g.workers g.cap) (bif r then .ret else .normal) (bif r then qfp false else qcI ((i+1:Nat):Int) (g.nodes.map Node.e) g.workers g.cap):=by
 have hj:=lt_of hx;have ho:=Graph.outs_le hg (qag hx);have hk1:g.nodes[(i:Int).toNat]?=some x:=by simpa using hx
 have hj1:decide ((i:Int)<(↑(g.nodes.map Node.e).length:Int))=true:=lt1 hj;have c1:=qrj x (by grind);rcases ze (qab x) with h2 | h2
 ·skip
  rcases ze ((x.kind==1)==((i:Int)==0)) with h3 | h3
  ·skip
   rcases qG0 g hg i hi x hx (by grind) with⟨hL,l⟩ | ⟨hL,l⟩
   ·skip
    obtain rfl:r=true:=by rw[←hr];grind[qbv]
    exact qDA ⟨hj1,(by grind[inR,inInt,qab]),(by grind[inR,inInt,qab]),(qad Node.e hk1),c1,(by rw[h2];rfl),(by rw[h3];rfl),l,trivial⟩
   ·skip
    obtain rfl:r=false:=by rw[←hr];grind[qbv]
    exact qDB ⟨hj1,(by grind[inR,inInt,qab]),(by grind[inR,inInt,qab]),(qad Node.e hk1),c1,(by rw[h2];rfl),(by rw[h3];rfl),l,(by grind[inR,inInt,qab]),trivial⟩
  ·skip
   obtain rfl:r=true:=by rw[←hr];grind[qbv]
   exact qDm ⟨hj1,(by grind[inR,inInt,qab]),(by grind[inR,inInt,qab]),(qad Node.e hk1),c1,(by rw[h2];rfl),(by rw[h3];rfl),trivial⟩
 ·skip
  obtain rfl:r=true:=by rw[←hr];grind[qbv]
  exact qDl ⟨hj1,(by grind[inR,inInt,qab]),(by grind[inR,inInt,qab]),(qad Node.e hk1),c1,(by rw[h2];rfl),trivial⟩
theorem qro(g:Graph)(hg:g.sz≤8388608)(i:Nat)(hi:i<8)(x:Node)(hx:g.nodes[i]?=some x)(r:Bool)(hr:qbv g i x=r):Tr prog (qaa f144 0) (qcJ (g.nodes.map Node.e) ((i:Nat):Int) (g.nodes.map Node.e) g.workers g.cap) (bif r then .ret else .normal) (bif r then qfq false else qcJ (g.nodes.map Node.e) ((i+1:Nat):Int) (g.nodes.map Node.e) g.workers g.cap):=by
 have hj:=lt_of hx;have ho:=Graph.outs_le hg (qag hx);have hk1:g.nodes[(i:Int).toNat]?=some x:=by simpa using hx
 have hj1:decide ((i:Int)<(↑(g.nodes.map Node.e).length:Int))=true:=lt1 hj;have c1:=qrk x (by grind);rcases ze (qab x) with h2 | h2
 ·skip
  rcases ze ((x.kind==1)==((i:Int)==0)) with h3 | h3
  ·skip
   rcases qG1 g hg i hi x hx (by grind) with⟨hL,l⟩ | ⟨hL,l⟩
   ·skip
    obtain rfl:r=true:=by rw[←hr];grind[qbv]
    exact qDX ⟨hj1,(by grind[inR,inInt,qab]),(by grind[inR,inInt,qab]),(qad Node.e hk1),c1,(by rw[h2];rfl),(by rw[h3];rfl),l,trivial⟩
   ·skip
    obtain rfl:r=false:=by rw[←hr];grind[qbv]
    exact qDY ⟨hj1,(by grind[inR,inInt,qab]),(by grind[inR,inInt,qab]),(qad Node.e hk1),c1,(by rw[h2];rfl),(by rw[h3];rfl),l,(by grind[inR,inInt,qab]),trivial⟩
  ·skip
   obtain rfl:r=true:=by rw[←hr];grind[qbv]
   exact qDJ ⟨hj1,(by grind[inR,inInt,qab]),(by grind[inR,inInt,qab]),(qad Node.e hk1),c1,(by rw[h2];rfl),(by rw[h3];rfl),trivial⟩
 ·skip
  obtain rfl:r=true:=by rw[←hr];grind[qbv]
  exact qDI ⟨hj1,(by grind[inR,inInt,qab]),(by grind[inR,inInt,qab]),(qad Node.e hk1),c1,(by rw[h2];rfl),trivial⟩
theorem qG2(g:Graph)(hg:g.sz≤8388608)(h8:g.nodes.length≤8):
  (anyI (qbv g) 0 g.nodes=true∧qam prog (qaa f121 0) (qcI 0 (g.nodes.map Node.e) g.workers g.cap) .ret (qfp false))∨(anyI (qbv g) 0 g.nodes=false∧qam prog (qaa f121 0) (qcI 0 (g.nodes.map Node.e) g.workers g.cap) (.exit 0) qmO):=by
 have l:=qdn (P:=prog) (c:=(qaa f121 0)) g.nodes (qbv g) (fun i=>qcI (i:Nat) (g.nodes.map Node.e) g.workers g.cap) (X:=qfp false) qaE (qaf 0)
  (fun i x hx h=>qrn g hg i (by have:=lt_of hx;omega) x hx false h)
  (fun i x hx h=>qrn g hg i (by have:=lt_of hx;omega) x hx true h)
  (qDC ⟨ge1,trivial⟩)
 rcases l with⟨h1,h2⟩ | ⟨h1,h2⟩
 ·exact .inr ⟨h1,h2⟩
 ·exact .inl ⟨h1,h2⟩
theorem qG3(g:Graph)(hg:g.sz≤8388608)(h8:g.nodes.length≤8):
  (anyI (qbv g) 0 g.nodes=true∧qam prog (qaa f144 0) (qcJ (g.nodes.map Node.e) 0 (g.nodes.map Node.e) g.workers g.cap) .ret (qfq false))∨(anyI (qbv g) 0 g.nodes=false∧qam prog (qaa f144 0) (qcJ (g.nodes.map Node.e) 0 (g.nodes.map Node.e) g.workers g.cap) (.exit 0) qmQ):=by
 have l:=qdn (P:=prog) (c:=(qaa f144 0)) g.nodes (qbv g) (fun i=>qcJ (g.nodes.map Node.e) (i:Nat) (g.nodes.map Node.e) g.workers g.cap) (X:=qfq false) qaE (qaf 0)
  (fun i x hx h=>qro g hg i (by have:=lt_of hx;omega) x hx false h)
  (fun i x hx h=>qro g hg i (by have:=lt_of hx;omega) x hx true h)
  (qDZ ⟨ge1,trivial⟩)
 rcases l with⟨h1,h2⟩ | ⟨h1,h2⟩
 ·exact .inr ⟨h1,h2⟩
 ·exact .inl ⟨h1,h2⟩
theorem qjQ(g:Graph)(hg:g.sz≤8388608):Rt 121 [.agg g.e] [.one (B (qax g))]:=by
 have c1:=qbo (↑(g.nodes.map Node.e).length:Int) 1 8;rcases ze (inR (↑(g.nodes.map Node.e).length:Int) 1 8) with h2 | h2
 ·skip
  have c3:=qbo g.workers 1 4;rcases ze (inR g.workers 1 4) with h4 | h4
  ·skip
   have c5:=qbo g.cap 1 4;rcases ze (inR g.cap 1 4) with h6 | h6
   ·skip
    rcases qG2 g hg (by grind[inR]) with⟨hL,l⟩ | ⟨hL,l⟩
    ·skip
     rw[show qax g=false from by grind[qax]];exact qDD ⟨c1,(by rw[h2];rfl),c3,(by rw[h4];rfl),c5,(by rw[h6];rfl),l,trivial⟩
    ·skip
     rw[show qax g=true from by grind[qax]];exact qDE ⟨c1,(by rw[h2];rfl),c3,(by rw[h4];rfl),c5,(by rw[h6];rfl),l,trivial⟩
   ·skip
    rw[show qax g=false from by grind[qax]];exact qDk ⟨c1,(by rw[h2];rfl),c3,(by rw[h4];rfl),c5,(by rw[h6];rfl),trivial⟩
  ·skip
   rw[show qax g=false from by grind[qax]];exact qDj ⟨c1,(by rw[h2];rfl),c3,(by rw[h4];rfl),trivial⟩
 ·skip
  rw[show qax g=false from by grind[qax]];exact qDi ⟨c1,(by rw[h2];rfl),trivial⟩
theorem qfr(g:Graph)(hg:g.sz≤8388608):Rt 144 [.agg g.e] [.one (B (qax g))]:=by
 have c1:=qbN (↑(g.nodes.map Node.e).length:Int) 1 8;rcases ze (inR (↑(g.nodes.map Node.e).length:Int) 1 8) with h2 | h2
 ·skip
  have c3:=qbN g.workers 1 4;rcases ze (inR g.workers 1 4) with h4 | h4
  ·skip
   have c5:=qbN g.cap 1 4;rcases ze (inR g.cap 1 4) with h6 | h6
   ·skip
    rcases qG3 g hg (by grind[inR]) with⟨hL,l⟩ | ⟨hL,l⟩
    ·skip
     rw[show qax g=false from by grind[qax]];exact qD0 ⟨c1,(by rw[h2];rfl),c3,(by rw[h4];rfl),c5,(by rw[h6];rfl),l,trivial⟩
    ·skip
     rw[show qax g=true from by grind[qax]];exact qD1 ⟨c1,(by rw[h2];rfl),c3,(by rw[h4];rfl),c5,(by rw[h6];rfl),l,trivial⟩
   ·skip
    rw[show qax g=false from by grind[qax]];exact qDH ⟨c1,(by rw[h2];rfl),c3,(by rw[h4];rfl),c5,(by rw[h6];rfl),trivial⟩
  ·skip
   rw[show qax g=false from by grind[qax]];exact qDG ⟨c1,(by rw[h2];rfl),c3,(by rw[h4];rfl),trivial⟩
 ·skip
  rw[show qax g=false from by grind[qax]];exact qDF ⟨c1,(by rw[h2];rfl),trivial⟩
theorem qG4(x:Node)(k v:Int)(hx:x.outs.length≤8388608):Rt 293 [.agg x.e,.one (I k),.one (I v)] [.one (I ((qak x k v).1)),.one (I ((qak x k v).2.1)),.one (B ((qak x k v).2.2))]:=by
 have c1:=qrj x (by grind);rcases ze (qab x) with h2 | h2
 ·skip
  have c3:=qbo k 0 99;rcases ze (inR k 0 99) with h4 | h4
  ·skip
   have c5:=qbo v 0 999;rcases ze (inR v 0 999) with h6 | h6
   ·skip
    rcases ze (x.kind==2) with h7 | h7
    ·skip
     have c8:=qGZ (v+x.a) 999;rw[show qak x k v=(k,less (v+x.a) 999,true) from by grind[qak,qaL,less,qab,abOk]];exact qEm ⟨c1,(by rw[h2];rfl),c3,(by rw[h4];rfl),c5,(by rw[h6];rfl),h7,(by grind[qab,abOk,inR,inInt,qaL]),c8,trivial⟩
    ·skip
     rcases ze (x.kind==4) with h9 | h9
     ·skip
      rw[show qak x k v=((k+x.a).tmod 100,v,true) from by grind[qak,qaL,less,qab,abOk]];exact qEn ⟨c1,(by rw[h2];rfl),c3,(by rw[h4];rfl),c5,(by rw[h6];rfl),h7,h9,(by grind[qab,abOk,inR,inInt,qaL]),(by grind[qab,abOk,inR,inInt,qaL]),trivial⟩
     ·skip
      rcases ze (x.kind==3) with h10 | h10
      ·skip
       rw[show qak x k v=(k,v,k.tmod x.a==x.b) from by grind[qak,qaL,less,qab,abOk]];exact qEo ⟨c1,(by rw[h2];rfl),c3,(by rw[h4];rfl),c5,(by rw[h6];rfl),h7,h9,h10,(by grind[qab,abOk,inR,inInt,qaL]),trivial⟩
      ·skip
       rw[show qak x k v=(k,v,x.kind != 8) from by grind[qak,qaL,less,qab,abOk]];exact qEp ⟨c1,(by rw[h2];rfl),c3,(by rw[h4];rfl),c5,(by rw[h6];rfl),h7,h9,h10,trivial⟩
   ·skip
    rw[show qak x k v=(k,v,false) from by grind[qak,qaL,less,qab,abOk]];exact qEl ⟨c1,(by rw[h2];rfl),c3,(by rw[h4];rfl),c5,(by rw[h6];rfl),trivial⟩
  ·skip
   rw[show qak x k v=(k,v,false) from by grind[qak,qaL,less,qab,abOk]];exact qEk ⟨c1,(by rw[h2];rfl),c3,(by rw[h4];rfl),trivial⟩
 ·skip
  rw[show qak x k v=(k,v,false) from by grind[qak,qaL,less,qab,abOk]];exact qEj ⟨c1,(by rw[h2];rfl),trivial⟩
theorem qG5(x:Node)(k v:Int)(hx:x.outs.length≤8388608):Rt 302 [.agg x.e,.one (I k),.one (I v)] [.one (I ((qak x k v).1)),.one (I ((qak x k v).2.1)),.one (B ((qak x k v).2.2))]:=by
 have c1:=qrk x (by grind);rcases ze (qab x) with h2 | h2
 ·skip
  have c3:=qri k v;rcases ze (qaL k v) with h4 | h4
  ·skip
   rcases ze (x.kind==2) with h5 | h5
   ·skip
    rw[show qak x k v=(k,if v+x.a<999 then v+x.a else 999,true) from by grind[qak,qaL,less,qab,abOk]];exact qEs ⟨c1,(by rw[h2];rfl),c3,(by rw[h4];rfl),h5,(by grind[qab,abOk,inR,inInt,qaL]),trivial⟩
   ·skip
    rcases ze (x.kind==4) with h6 | h6
    ·skip
     rw[show qak x k v=((k+x.a).tmod 100,v,true) from by grind[qak,qaL,less,qab,abOk]];exact qEt ⟨c1,(by rw[h2];rfl),c3,(by rw[h4];rfl),h5,h6,(by grind[qab,abOk,inR,inInt,qaL]),(by grind[qab,abOk,inR,inInt,qaL]),trivial⟩
    ·skip
     rcases ze (x.kind==3) with h7 | h7
     ·skip
      rw[show qak x k v=(k,v,k.tmod x.a==x.b) from by grind[qak,qaL,less,qab,abOk]];exact qEu ⟨c1,(by rw[h2];rfl),c3,(by rw[h4];rfl),h5,h6,h7,(by grind[qab,abOk,inR,inInt,qaL]),trivial⟩
     ·skip
      rw[show qak x k v=(k,v,x.kind != 8) from by grind[qak,qaL,less,qab,abOk]];exact qEv ⟨c1,(by rw[h2];rfl),c3,(by rw[h4];rfl),h5,h6,h7,trivial⟩
  ·skip
   rw[show qak x k v=(k,v,false) from by grind[qak,qaL,less,qab,abOk]];exact qEr ⟨c1,(by rw[h2];rfl),c3,(by rw[h4];rfl),trivial⟩
 ·skip
  rw[show qak x k v=(k,v,false) from by grind[qak,qaL,less,qab,abOk]];exact qEq ⟨c1,(by rw[h2];rfl),trivial⟩
def qaF(a b:Cell):Bool:=a.op==b.op&&a.epoch==b.epoch&&a.key==b.key
def qaM(op ep key:Int)(s:Int×Bool)(a:Cell):Int×Bool:=if a.op=op∧a.epoch=ep∧a.key=key∧(s.2=false∨a.val<s.1) then (a.val,true) else s
def qcK(xs:List Cell)(op ep key:Int):Int×Bool:=xs.foldl (qaM op ep key) (0,false)
theorem qrp(a b:Cell):Rt 330 [.agg a.e,.agg b.e] [.one (B (qaF a b))]:=by
 rcases ze (a.op==b.op) with h1 | h1
 ·skip
  rcases ze (a.epoch==b.epoch) with h2 | h2
  ·skip
   rw[show qaF a b=(a.key==b.key) from by grind[qaF]];exact qxZ ⟨h1,h2,trivial⟩
  ·skip
   rw[show qaF a b=false from by grind[qaF]];exact qx0 ⟨h1,h2,trivial⟩
 ·skip
  rw[show qaF a b=false from by grind[qaF]];exact qx1 ⟨h1,trivial⟩
theorem qG6(xs:List Cell)(hl:xs.length≤8388608)(op ep key m:Int)(f:Bool)(i:Nat)(a:Cell)(ha:xs[i]?=some a):Tr prog (qaa f324 0) (qbV (xs.map Cell.e) op ep key i f m) .normal (qbV (xs.map Cell.e) op ep key ((i+1:Nat):Int) (qaM op ep key (m,f) a).2 (qaM op ep key (m,f) a).1):=by
 have hj:=lt_of ha;have hk1:xs[(i:Int).toNat]?=some a:=by simpa using ha
 have hj1:decide ((i:Int)<(↑(xs.map Cell.e).length:Int))=true:=lt1 hj;rcases ze (a.op==op) with h1 | h1
 ·skip
  rcases ze (a.epoch==ep) with h2 | h2
  ·skip
   rcases ze (a.key==key) with h3 | h3
   ·skip
    rcases ze (f) with h4 | h4
    ·skip
     rcases ze (decide (a.val<m)) with h5 | h5
     ·skip
      rw[show qaM op ep key (m,f) a=(a.val,true) from by grind[qaM,qaF]];exact qyD ⟨hj1,(by grind[inInt]),(by grind[inInt]),(qad Cell.e hk1),h1,h2,h3,(by rw[h4];rfl),h5,(by grind[inInt]),trivial⟩
     ·skip
      rw[show qaM op ep key (m,f) a=(m,f) from by grind[qaM,qaF]];exact qyE ⟨hj1,(by grind[inInt]),(by grind[inInt]),(qad Cell.e hk1),h1,h2,h3,(by rw[h4];rfl),h5,(by grind[inInt]),trivial⟩
    ·skip
     rw[show qaM op ep key (m,f) a=(a.val,true) from by grind[qaM,qaF]];exact qyC ⟨hj1,(by grind[inInt]),(by grind[inInt]),(qad Cell.e hk1),h1,h2,h3,(by rw[h4];rfl),(by grind[inInt]),trivial⟩
   ·skip
    rw[show qaM op ep key (m,f) a=(m,f) from by grind[qaM,qaF]];exact qyF ⟨hj1,(by grind[inInt]),(by grind[inInt]),(qad Cell.e hk1),h1,h2,h3,(by grind[inInt]),trivial⟩
  ·skip
   rw[show qaM op ep key (m,f) a=(m,f) from by grind[qaM,qaF]];exact qyG ⟨hj1,(by grind[inInt]),(by grind[inInt]),(qad Cell.e hk1),h1,h2,(by grind[inInt]),trivial⟩
 ·skip
  rw[show qaM op ep key (m,f) a=(m,f) from by grind[qaM,qaF]];exact qyH ⟨hj1,(by grind[inInt]),(by grind[inInt]),(qad Cell.e hk1),h1,(by grind[inInt]),trivial⟩
theorem qG7(xs:List Cell)(hl:xs.length≤8388608)(op ep key m:Int)(f:Bool)(i:Nat)(a:Cell)(ha:xs[i]?=some a):Tr prog (qaa f327 0) (qcG (xs.map Cell.e) op ep key i f m) .normal (qcG (xs.map Cell.e) op ep key ((i+1:Nat):Int) (qaM op ep key (m,f) a).2 (qaM op ep key (m,f) a).1):=by
 have hj:=lt_of ha;have hk1:xs[(i:Int).toNat]?=some a:=by simpa using ha
 have hj1:decide ((i:Int)<(↑(xs.map Cell.e).length:Int))=true:=lt1 hj;have c1:=qrp a (⟨op,ep,key,0⟩:Cell);rcases ze (qaF a (⟨op,ep,key,0⟩:Cell)) with h2 | h2
 ·skip
  rcases ze (f) with h3 | h3
  ·skip
   rcases ze (decide (a.val<m)) with h4 | h4
   ·skip
    rw[show qaM op ep key (m,f) a=(a.val,true) from by grind[qaM,qaF]];exact qx9 ⟨hj1,(by grind[inInt]),(by grind[inInt]),(qad Cell.e hk1),c1,h2,(by rw[h3];rfl),h4,(by grind[inInt]),trivial⟩
   ·skip
    rw[show qaM op ep key (m,f) a=(m,f) from by grind[qaM,qaF]];exact qya ⟨hj1,(by grind[inInt]),(by grind[inInt]),(qad Cell.e hk1),c1,h2,(by rw[h3];rfl),h4,(by grind[inInt]),trivial⟩
  ·skip
   rw[show qaM op ep key (m,f) a=(a.val,true) from by grind[qaM,qaF]];exact qx8 ⟨hj1,(by grind[inInt]),(by grind[inInt]),(qad Cell.e hk1),c1,h2,(by rw[h3];rfl),(by grind[inInt]),trivial⟩
 ·skip
  rw[show qaM op ep key (m,f) a=(m,f) from by grind[qaM,qaF]];exact qyb ⟨hj1,(by grind[inInt]),(by grind[inInt]),(qad Cell.e hk1),c1,h2,(by grind[inInt]),trivial⟩
theorem qrq(xs:List Cell)(op ep key:Int)(hl:xs.length≤8388608):Rt 324 [.one (.sl 4 (xs.map Cell.e)),.one (I op),.one (I ep),.one (I key)] [.one (I (qcK xs op ep key).1),.one (B (qcK xs op ep key).2)]:=by
 have l:=qao (P:=prog) (c:=(qaa f324 0)) (qaf 0) xs.length (fun i:Nat=>qbV (xs.map Cell.e) op ep key i (qcT (qaM op ep key) (0,false) xs i).2 (qcT (qaM op ep key) (0,false) xs i).1) (fun i hi=>by
  obtain⟨a,ha⟩:=qal hi;rw[qji ha];exact qG6 xs hl op ep key _ _ i a ha) (qyI ⟨ge1,trivial⟩)
 rw[qjj]at l;exact qyJ ⟨l,trivial⟩
theorem qG8(xs:List Cell)(op ep key:Int)(hl:xs.length≤8388608):Rt 327 [.one (.sl 4 (xs.map Cell.e)),.one (I op),.one (I ep),.one (I key)] [.one (I (qcK xs op ep key).1),.one (B (qcK xs op ep key).2)]:=by
 have l:=qao (P:=prog) (c:=(qaa f327 0)) (qaf 0) xs.length (fun i:Nat=>qcG (xs.map Cell.e) op ep key i (qcT (qaM op ep key) (0,false) xs i).2 (qcT (qaM op ep key) (0,false) xs i).1) (fun i hi=>by
  obtain⟨a,ha⟩:=qal hi;rw[qji ha];exact qG7 xs hl op ep key _ _ i a ha) (qyc ⟨ge1,trivial⟩)
 rw[qjj]at l;exact qyd ⟨l,trivial⟩
end Go.Proofs.YtdkobdhckkjmeaaGreat
