import Derived.Test.YtdkobdhckkjmeaaGreatP15
set_option linter.unusedVariables false
set_option linter.unusedSimpArgs false
namespace Go.Proofs.YtdkobdhckkjmeaaGreat
open Go.Sx Go.RowKit Go.Proofs.Tryz
def qbj(g:Graph)(k:Int):Int:=match g.nodes[k.toNat]? with | some y=>y.kind | none=>0
def qa1(g:Graph)(i:Nat)(x:Node)(k:Int):Bool:=
 decide ((g.nodes.length:Int)≤k)||(if x.kind=7 then decide ((i:Int)<k)||(qbj g k != 5&&qbj g k != 6) else decide (k≤i))
def qbv(g:Graph)(i:Nat)(x:Node):Bool:=!qab x||(decide (x.kind=1) != decide ((i:Int)=0))||x.outs.any (qa1 g i x)
def qaw(g:Graph):Bool:=inR g.nodes.length 1 8&&inR g.workers 1 4&&inR g.cap 1 4&&!(anyI (qbv g) 0 g.nodes)
def qak(x:Node)(k v:Int):Int×Int×Bool:=
 if qab x&&qaL k v then
  if x.kind=2 then (k,less (v+x.a) 999,true)
  else if x.kind=4 then ((k+x.a).tmod 100,v,true)
  else if x.kind=3 then (k,v,k.tmod x.a==x.b)
  else (k,v,x.kind != 8)
 else (k,v,false)
theorem qmB{l:List Int}(h:okAll l=true){k:Int}(hk:k∈l):inR k 0 7=true:=by
 simp only[okAll,zS,zP]at h;simpa using h k hk
theorem qqU(g:Graph)(hg:g.sz≤8388608)(i:Nat)(hi:i<8)(x:Node)(hx:g.nodes[i]?=some x)(hok:qab x=true)(j:Nat)(k:Int)(hk:x.outs[j]?=some k)(r:Bool)(hr:qa1 g i x k=r):Tr prog (qaa f121 1) (qbh i (g.nodes.map Node.e) g.workers g.cap x.kind x.a x.b (x.outs.map eI) (j:Int)) (bif r then .ret else .normal) (bif r then qdp false else qbh i (g.nodes.map Node.e) g.workers g.cap x.kind x.a x.b (x.outs.map eI) ((j+1:Nat):Int)):=by
 have hj:=lt_of hk;have hl:x.outs.length≤2:=by grind[qab]
 have hk0:inR k 0 7=true:=qmB (by grind[qab]) (qag hk);have hk1:x.outs[(j:Int).toNat]?=some k:=by simpa using hk
 have hj1:decide ((j:Int)<(↑(x.outs.map eI).length:Int))=true:=lt1 hj;rcases ze (decide (k≥(↑(g.nodes.map Node.e).length:Int))) with h1 | h1
 ·skip
  obtain rfl:r=true:=by rw[←hr];grind[qa1,qbj,inR]
  exact qzY ⟨hj1,(by grind[inR,inInt,qab]),(by grind[inR,inInt,qab]),(qad eI hk1),h1,trivial⟩
 ·skip
  rcases ze (x.kind != 7) with h2 | h2
  ·skip
   rcases ze (decide (k≤(i:Int))) with h3 | h3
   ·skip
    obtain rfl:r=true:=by rw[←hr];grind[qa1,qbj,inR]
    exact qzZ ⟨hj1,(by grind[inR,inInt,qab]),(by grind[inR,inInt,qab]),(qad eI hk1),h1,h2,h3,trivial⟩
   ·skip
    obtain⟨y4,hy4⟩:=look (xs:=g.nodes) (i:=k) (by grind[inR,inInt,qab]) (by grind[inR,inInt,qab]);rcases ze (x.kind==7) with h5 | h5
    ·skip
     rcases ze (decide (k>(i:Int))) with h6 | h6
     ·skip
      obtain rfl:r=true:=by rw[←hr];grind[qa1,qbj,inR]
      exact qz0 ⟨hj1,(by grind[inR,inInt,qab]),(by grind[inR,inInt,qab]),(qad eI hk1),h1,h2,h3,(by grind[inR,inInt,qab]),(by grind[inR,inInt,qab]),(qad Node.e hy4),h5,h6,trivial⟩
     ·skip
      rcases ze (y4.kind != 5) with h7 | h7
      ·skip
       rcases ze (y4.kind != 6) with h8 | h8
       ·skip
        obtain rfl:r=true:=by rw[←hr];grind[qa1,qbj,inR]
        exact qz1 ⟨hj1,(by grind[inR,inInt,qab]),(by grind[inR,inInt,qab]),(qad eI hk1),h1,h2,h3,(by grind[inR,inInt,qab]),(by grind[inR,inInt,qab]),(qad Node.e hy4),h5,h6,h7,h8,trivial⟩
       ·skip
        obtain rfl:r=false:=by rw[←hr];grind[qa1,qbj,inR]
        exact qz2 ⟨hj1,(by grind[inR,inInt,qab]),(by grind[inR,inInt,qab]),(qad eI hk1),h1,h2,h3,(by grind[inR,inInt,qab]),(by grind[inR,inInt,qab]),(qad Node.e hy4),h5,h6,h7,h8,(by grind[inR,inInt,qab]),trivial⟩
      ·skip
       obtain rfl:r=false:=by rw[←hr];grind[qa1,qbj,inR]
       exact qz3 ⟨hj1,(by grind[inR,inInt,qab]),(by grind[inR,inInt,qab]),(qad eI hk1),h1,h2,h3,(by grind[inR,inInt,qab]),(by grind[inR,inInt,qab]),(qad Node.e hy4),h5,h6,h7,(by grind[inR,inInt,qab]),trivial⟩
    ·skip
     obtain rfl:r=false:=by rw[←hr];grind[qa1,qbj,inR]
     exact qz4 ⟨hj1,(by grind[inR,inInt,qab]),(by grind[inR,inInt,qab]),(qad eI hk1),h1,h2,h3,(by grind[inR,inInt,qab]),(by grind[inR,inInt,qab]),(qad Node.e hy4),h5,(by grind[inR,inInt,qab]),trivial⟩
  ·skip
   obtain⟨y9,hy9⟩:=look (xs:=g.nodes) (i:=k) (by grind[inR,inInt,qab]) (by grind[inR,inInt,qab]);rcases ze (x.kind==7) with h10 | h10
   ·skip
    rcases ze (decide (k>(i:Int))) with h11 | h11
    ·skip
     obtain rfl:r=true:=by rw[←hr];grind[qa1,qbj,inR]
     exact qz5 ⟨hj1,(by grind[inR,inInt,qab]),(by grind[inR,inInt,qab]),(qad eI hk1),h1,h2,(by grind[inR,inInt,qab]),(by grind[inR,inInt,qab]),(qad Node.e hy9),h10,h11,trivial⟩
    ·skip
     rcases ze (y9.kind != 5) with h12 | h12
     ·skip
      rcases ze (y9.kind != 6) with h13 | h13
      ·skip
       obtain rfl:r=true:=by rw[←hr];grind[qa1,qbj,inR]
       exact qz6 ⟨hj1,(by grind[inR,inInt,qab]),(by grind[inR,inInt,qab]),(qad eI hk1),h1,h2,(by grind[inR,inInt,qab]),(by grind[inR,inInt,qab]),(qad Node.e hy9),h10,h11,h12,h13,trivial⟩
      ·skip
       obtain rfl:r=false:=by rw[←hr];grind[qa1,qbj,inR]
       exact qz7 ⟨hj1,(by grind[inR,inInt,qab]),(by grind[inR,inInt,qab]),(qad eI hk1),h1,h2,(by grind[inR,inInt,qab]),(by grind[inR,inInt,qab]),(qad Node.e hy9),h10,h11,h12,h13,(by grind[inR,inInt,qab]),trivial⟩
     ·skip
      obtain rfl:r=false:=by rw[←hr];grind[qa1,qbj,inR]
      exact qz8 ⟨hj1,(by grind[inR,inInt,qab]),(by grind[inR,inInt,qab]),(qad eI hk1),h1,h2,(by grind[inR,inInt,qab]),(by grind[inR,inInt,qab]),(qad Node.e hy9),h10,h11,h12,(by grind[inR,inInt,qab]),trivial⟩
   ·skip
    obtain rfl:r=false:=by rw[←hr];grind[qa1,qbj,inR]
    exact qz9 ⟨hj1,(by grind[inR,inInt,qab]),(by grind[inR,inInt,qab]),(qad eI hk1),h1,h2,(by grind[inR,inInt,qab]),(by grind[inR,inInt,qab]),(qad Node.e hy9),h10,(by grind[inR,inInt,qab]),trivial⟩
theorem qqV(g:Graph)(hg:g.sz≤8388608)(i:Nat)(hi:i<8)(x:Node)(hx:g.nodes[i]?=some x)(hok:qab x=true)(j:Nat)(k:Int)(hk:x.outs[j]?=some k)(r:Bool)(hr:qa1 g i x k=r):Tr prog (qaa f144 1) (qbi (g.nodes.map Node.e) i (g.nodes.map Node.e) g.workers g.cap x.kind x.a x.b (x.outs.map eI) (j:Int)) (bif r then .ret else .normal) (bif r then qdq false else qbi (g.nodes.map Node.e) i (g.nodes.map Node.e) g.workers g.cap x.kind x.a x.b (x.outs.map eI) ((j+1:Nat):Int)):=by
 have hj:=lt_of hk;have hl:x.outs.length≤2:=by grind[qab]
 have hk0:inR k 0 7=true:=qmB (by grind[qab]) (qag hk);have hk1:x.outs[(j:Int).toNat]?=some k:=by simpa using hk
 have hj1:decide ((j:Int)<(↑(x.outs.map eI).length:Int))=true:=lt1 hj;rcases ze (decide (k≥(↑(g.nodes.map Node.e).length:Int))) with h1 | h1
 ·skip
  obtain rfl:r=true:=by rw[←hr];grind[qa1,qbj,inR]
  exact qAl ⟨hj1,(by grind[inR,inInt,qab]),(by grind[inR,inInt,qab]),(qad eI hk1),h1,trivial⟩
 ·skip
  obtain⟨y2,hy2⟩:=look (xs:=g.nodes) (i:=k) (by grind[inR,inInt,qab]) (by grind[inR,inInt,qab]);rcases ze (x.kind==7) with h3 | h3
  ·skip
   rcases ze (decide (k>(i:Int))) with h4 | h4
   ·skip
    obtain rfl:r=true:=by rw[←hr];grind[qa1,qbj,inR]
    exact qAm ⟨hj1,(by grind[inR,inInt,qab]),(by grind[inR,inInt,qab]),(qad eI hk1),h1,(by grind[inR,inInt,qab]),(by grind[inR,inInt,qab]),(qad Node.e hy2),h3,h4,trivial⟩
   ·skip
    rcases ze (y2.kind != 5) with h5 | h5
    ·skip
     rcases ze (y2.kind != 6) with h6 | h6
     ·skip
      obtain rfl:r=true:=by rw[←hr];grind[qa1,qbj,inR]
      exact qAn ⟨hj1,(by grind[inR,inInt,qab]),(by grind[inR,inInt,qab]),(qad eI hk1),h1,(by grind[inR,inInt,qab]),(by grind[inR,inInt,qab]),(qad Node.e hy2),h3,h4,h5,h6,trivial⟩
     ·skip
      rcases ze (x.kind != 7) with h7 | h7
      ·skip
       rcases ze (decide (k≤(i:Int))) with h8 | h8
       ·skip
        obtain rfl:r=true:=by rw[←hr];grind[qa1,qbj,inR]
        exact qAo ⟨hj1,(by grind[inR,inInt,qab]),(by grind[inR,inInt,qab]),(qad eI hk1),h1,(by grind[inR,inInt,qab]),(by grind[inR,inInt,qab]),(qad Node.e hy2),h3,h4,h5,h6,h7,h8,trivial⟩
       ·skip
        obtain rfl:r=false:=by rw[←hr];grind[qa1,qbj,inR]
        exact qAp ⟨hj1,(by grind[inR,inInt,qab]),(by grind[inR,inInt,qab]),(qad eI hk1),h1,(by grind[inR,inInt,qab]),(by grind[inR,inInt,qab]),(qad Node.e hy2),h3,h4,h5,h6,h7,h8,(by grind[inR,inInt,qab]),trivial⟩
      ·skip
       obtain rfl:r=false:=by rw[←hr];grind[qa1,qbj,inR]
       exact qAq ⟨hj1,(by grind[inR,inInt,qab]),(by grind[inR,inInt,qab]),(qad eI hk1),h1,(by grind[inR,inInt,qab]),(by grind[inR,inInt,qab]),(qad Node.e hy2),h3,h4,h5,h6,h7,(by grind[inR,inInt,qab]),trivial⟩
    ·skip
     rcases ze (x.kind != 7) with h9 | h9
     ·skip
      rcases ze (decide (k≤(i:Int))) with h10 | h10
      ·skip
       obtain rfl:r=true:=by rw[←hr];grind[qa1,qbj,inR]
       exact qAr ⟨hj1,(by grind[inR,inInt,qab]),(by grind[inR,inInt,qab]),(qad eI hk1),h1,(by grind[inR,inInt,qab]),(by grind[inR,inInt,qab]),(qad Node.e hy2),h3,h4,h5,h9,h10,trivial⟩
      ·skip
       obtain rfl:r=false:=by rw[←hr];grind[qa1,qbj,inR]
       exact qAs ⟨hj1,(by grind[inR,inInt,qab]),(by grind[inR,inInt,qab]),(qad eI hk1),h1,(by grind[inR,inInt,qab]),(by grind[inR,inInt,qab]),(qad Node.e hy2),h3,h4,h5,h9,h10,(by grind[inR,inInt,qab]),trivial⟩
     ·skip
      obtain rfl:r=false:=by rw[←hr];grind[qa1,qbj,inR]
      exact qAt ⟨hj1,(by grind[inR,inInt,qab]),(by grind[inR,inInt,qab]),(qad eI hk1),h1,(by grind[inR,inInt,qab]),(by grind[inR,inInt,qab]),(qad Node.e hy2),h3,h4,h5,h9,(by grind[inR,inInt,qab]),trivial⟩
  ·skip
   rcases ze (x.kind != 7) with h11 | h11
   ·skip
    rcases ze (decide (k≤(i:Int))) with h12 | h12
    ·skip
     obtain rfl:r=true:=by rw[←hr];grind[qa1,qbj,inR]
     exact qAu ⟨hj1,(by grind[inR,inInt,qab]),(by grind[inR,inInt,qab]),(qad eI hk1),h1,(by grind[inR,inInt,qab]),(by grind[inR,inInt,qab]),(qad Node.e hy2),h3,h11,h12,trivial⟩
    ·skip
     obtain rfl:r=false:=by rw[←hr];grind[qa1,qbj,inR]
     exact qAv ⟨hj1,(by grind[inR,inInt,qab]),(by grind[inR,inInt,qab]),(qad eI hk1),h1,(by grind[inR,inInt,qab]),(by grind[inR,inInt,qab]),(qad Node.e hy2),h3,h11,h12,(by grind[inR,inInt,qab]),trivial⟩
   ·skip
    obtain rfl:r=false:=by rw[←hr];grind[qa1,qbj,inR]
    exact qAw ⟨hj1,(by grind[inR,inInt,qab]),(by grind[inR,inInt,qab]),(qad eI hk1),h1,(by grind[inR,inInt,qab]),(by grind[inR,inInt,qab]),(qad Node.e hy2),h3,h11,(by grind[inR,inInt,qab]),trivial⟩
theorem qDB(g:Graph)(hg:g.sz≤8388608)(i:Nat)(hi:i<8)(x:Node)(hx:g.nodes[i]?=some x)(hok:qab x=true):
  (x.outs.any (qa1 g i x)=true∧qam prog (qaa f121 1) (qbh i (g.nodes.map Node.e) g.workers g.cap x.kind x.a x.b (x.outs.map eI) 0) .ret (qdp false))∨(x.outs.any (qa1 g i x)=false∧qam prog (qaa f121 1) (qbh i (g.nodes.map Node.e) g.workers g.cap x.kind x.a x.b (x.outs.map eI) 0) (.exit 2) (qmu i (g.nodes.map Node.e) g.workers g.cap)):=by
 have l:=qaW (P:=prog) (c:=(qaa f121 1)) x.outs (qa1 g i x) (fun j=>qbh i (g.nodes.map Node.e) g.workers g.cap x.kind x.a x.b (x.outs.map eI) j) (X:=fun _ _=>qdp false) qaE (qaf 2)
  (fun j k hk h=>qqU g hg i hi x hx hok j k hk false h)
  (fun j k hk h=>qqU g hg i hi x hx hok j k hk true h)
  (qAa ⟨ge1,trivial⟩)
 rcases l with⟨_,_,h1,h2⟩ | ⟨j,k,_,_,_,_,h1,h2⟩
 ·exact .inr ⟨h1,h2⟩
 ·exact .inl ⟨h1,h2⟩
theorem qDC(g:Graph)(hg:g.sz≤8388608)(i:Nat)(hi:i<8)(x:Node)(hx:g.nodes[i]?=some x)(hok:qab x=true):
  (x.outs.any (qa1 g i x)=true∧qam prog (qaa f144 1) (qbi (g.nodes.map Node.e) i (g.nodes.map Node.e) g.workers g.cap x.kind x.a x.b (x.outs.map eI) 0) .ret (qdq false))∨(x.outs.any (qa1 g i x)=false∧qam prog (qaa f144 1) (qbi (g.nodes.map Node.e) i (g.nodes.map Node.e) g.workers g.cap x.kind x.a x.b (x.outs.map eI) 0) (.exit 2) (qmw (g.nodes.map Node.e) i (g.nodes.map Node.e) g.workers g.cap)):=by
 have l:=qaW (P:=prog) (c:=(qaa f144 1)) x.outs (qa1 g i x) (fun j=>qbi (g.nodes.map Node.e) i (g.nodes.map Node.e) g.workers g.cap x.kind x.a x.b (x.outs.map eI) j) (X:=fun _ _=>qdq false) qaE (qaf 2)
  (fun j k hk h=>qqV g hg i hi x hx hok j k hk false h)
  (fun j k hk h=>qqV g hg i hi x hx hok j k hk true h)
  (qAx ⟨ge1,trivial⟩)
 rcases l with⟨_,_,h1,h2⟩ | ⟨j,k,_,_,_,_,h1,h2⟩
 ·exact .inr ⟨h1,h2⟩
 ·exact .inl ⟨h1,h2⟩
theorem qqW(g:Graph)(hg:g.sz≤8388608)(i:Nat)(hi:i<8)(x:Node)(hx:g.nodes[i]?=some x)(r:Bool)(hr:qbv g i x=r):Tr prog (qaa f121 0) (qcH ((i:Nat):Int) (g.nodes.map Node.e) g.workers g.cap) (bif r then .ret else .normal) (bif r then qfh false else qcH ((i+1:Nat):Int) (g.nodes.map Node.e) g.workers g.cap):=by
 have hj:=lt_of hx;have ho:=Graph.outs_le hg (qag hx);have hk1:g.nodes[(i:Int).toNat]?=some x:=by simpa using hx
 have hj1:decide ((i:Int)<(↑(g.nodes.map Node.e).length:Int))=true:=lt1 hj;have c1:=qqS x (by grind);rcases ze (qab x) with h2 | h2
 ·skip
  rcases ze ((x.kind==1)==((i:Int)==0)) with h3 | h3
  ·skip
   rcases qDB g hg i hi x hx (by grind) with⟨hL,l⟩ | ⟨hL,l⟩
   ·skip
    obtain rfl:r=true:=by rw[←hr];grind[qbv]
    exact qAb ⟨hj1,(by grind[inR,inInt,qab]),(by grind[inR,inInt,qab]),(qad Node.e hk1),c1,(by rw[h2];rfl),(by rw[h3];rfl),l,trivial⟩
   ·skip
    obtain rfl:r=false:=by rw[←hr];grind[qbv]
    exact qAc ⟨hj1,(by grind[inR,inInt,qab]),(by grind[inR,inInt,qab]),(qad Node.e hk1),c1,(by rw[h2];rfl),(by rw[h3];rfl),l,(by grind[inR,inInt,qab]),trivial⟩
  ·skip
   obtain rfl:r=true:=by rw[←hr];grind[qbv]
   exact qzX ⟨hj1,(by grind[inR,inInt,qab]),(by grind[inR,inInt,qab]),(qad Node.e hk1),c1,(by rw[h2];rfl),(by rw[h3];rfl),trivial⟩
 ·skip
  obtain rfl:r=true:=by rw[←hr];grind[qbv]
  exact qzW ⟨hj1,(by grind[inR,inInt,qab]),(by grind[inR,inInt,qab]),(qad Node.e hk1),c1,(by rw[h2];rfl),trivial⟩
theorem qqX(g:Graph)(hg:g.sz≤8388608)(i:Nat)(hi:i<8)(x:Node)(hx:g.nodes[i]?=some x)(r:Bool)(hr:qbv g i x=r):Tr prog (qaa f144 0) (qcI (g.nodes.map Node.e) ((i:Nat):Int) (g.nodes.map Node.e) g.workers g.cap) (bif r then .ret else .normal) (bif r then qfi false else qcI (g.nodes.map Node.e) ((i+1:Nat):Int) (g.nodes.map Node.e) g.workers g.cap):=by
 have hj:=lt_of hx;have ho:=Graph.outs_le hg (qag hx);have hk1:g.nodes[(i:Int).toNat]?=some x:=by simpa using hx
 have hj1:decide ((i:Int)<(↑(g.nodes.map Node.e).length:Int))=true:=lt1 hj;have c1:=qqT x (by grind);rcases ze (qab x) with h2 | h2
 ·skip
  rcases ze ((x.kind==1)==((i:Int)==0)) with h3 | h3
  ·skip
   rcases qDC g hg i hi x hx (by grind) with⟨hL,l⟩ | ⟨hL,l⟩
   ·skip
    obtain rfl:r=true:=by rw[←hr];grind[qbv]
    exact qAy ⟨hj1,(by grind[inR,inInt,qab]),(by grind[inR,inInt,qab]),(qad Node.e hk1),c1,(by rw[h2];rfl),(by rw[h3];rfl),l,trivial⟩
   ·skip
    obtain rfl:r=false:=by rw[←hr];grind[qbv]
    exact qAz ⟨hj1,(by grind[inR,inInt,qab]),(by grind[inR,inInt,qab]),(qad Node.e hk1),c1,(by rw[h2];rfl),(by rw[h3];rfl),l,(by grind[inR,inInt,qab]),trivial⟩
  ·skip
   obtain rfl:r=true:=by rw[←hr];grind[qbv]
   exact qAk ⟨hj1,(by grind[inR,inInt,qab]),(by grind[inR,inInt,qab]),(qad Node.e hk1),c1,(by rw[h2];rfl),(by rw[h3];rfl),trivial⟩
 ·skip
  obtain rfl:r=true:=by rw[←hr];grind[qbv]
  exact qAj ⟨hj1,(by grind[inR,inInt,qab]),(by grind[inR,inInt,qab]),(qad Node.e hk1),c1,(by rw[h2];rfl),trivial⟩
theorem qDD(g:Graph)(hg:g.sz≤8388608)(h8:g.nodes.length≤8):
  (anyI (qbv g) 0 g.nodes=true∧qam prog (qaa f121 0) (qcH 0 (g.nodes.map Node.e) g.workers g.cap) .ret (qfh false))∨(anyI (qbv g) 0 g.nodes=false∧qam prog (qaa f121 0) (qcH 0 (g.nodes.map Node.e) g.workers g.cap) (.exit 0) qmv):=by
 have l:=qdn (P:=prog) (c:=(qaa f121 0)) g.nodes (qbv g) (fun i=>qcH (i:Nat) (g.nodes.map Node.e) g.workers g.cap) (X:=qfh false) qaE (qaf 0)
  (fun i x hx h=>qqW g hg i (by have:=lt_of hx;omega) x hx false h)
  (fun i x hx h=>qqW g hg i (by have:=lt_of hx;omega) x hx true h)
  (qAd ⟨ge1,trivial⟩)
 rcases l with⟨h1,h2⟩ | ⟨h1,h2⟩
 ·exact .inr ⟨h1,h2⟩
 ·exact .inl ⟨h1,h2⟩
theorem qDE(g:Graph)(hg:g.sz≤8388608)(h8:g.nodes.length≤8):
  (anyI (qbv g) 0 g.nodes=true∧qam prog (qaa f144 0) (qcI (g.nodes.map Node.e) 0 (g.nodes.map Node.e) g.workers g.cap) .ret (qfi false))∨(anyI (qbv g) 0 g.nodes=false∧qam prog (qaa f144 0) (qcI (g.nodes.map Node.e) 0 (g.nodes.map Node.e) g.workers g.cap) (.exit 0) qmx):=by
 have l:=qdn (P:=prog) (c:=(qaa f144 0)) g.nodes (qbv g) (fun i=>qcI (g.nodes.map Node.e) (i:Nat) (g.nodes.map Node.e) g.workers g.cap) (X:=qfi false) qaE (qaf 0)
  (fun i x hx h=>qqX g hg i (by have:=lt_of hx;omega) x hx false h)
  (fun i x hx h=>qqX g hg i (by have:=lt_of hx;omega) x hx true h)
  (qAA ⟨ge1,trivial⟩)
 rcases l with⟨h1,h2⟩ | ⟨h1,h2⟩
 ·exact .inr ⟨h1,h2⟩
 ·exact .inl ⟨h1,h2⟩
theorem qjC(g:Graph)(hg:g.sz≤8388608):Rt 121 [.agg g.e] [.one (B (qaw g))]:=by
 have c1:=qbo (↑(g.nodes.map Node.e).length:Int) 1 8;rcases ze (inR (↑(g.nodes.map Node.e).length:Int) 1 8) with h2 | h2
 ·skip
  have c3:=qbo g.workers 1 4;rcases ze (inR g.workers 1 4) with h4 | h4
  ·skip
   have c5:=qbo g.cap 1 4;rcases ze (inR g.cap 1 4) with h6 | h6
   ·skip
    rcases qDD g hg (by grind[inR]) with⟨hL,l⟩ | ⟨hL,l⟩
    ·skip
     rw[show qaw g=false from by grind[qaw]];exact qAe ⟨c1,(by rw[h2];rfl),c3,(by rw[h4];rfl),c5,(by rw[h6];rfl),l,trivial⟩
    ·skip
     rw[show qaw g=true from by grind[qaw]];exact qAf ⟨c1,(by rw[h2];rfl),c3,(by rw[h4];rfl),c5,(by rw[h6];rfl),l,trivial⟩
   ·skip
    rw[show qaw g=false from by grind[qaw]];exact qzV ⟨c1,(by rw[h2];rfl),c3,(by rw[h4];rfl),c5,(by rw[h6];rfl),trivial⟩
  ·skip
   rw[show qaw g=false from by grind[qaw]];exact qzU ⟨c1,(by rw[h2];rfl),c3,(by rw[h4];rfl),trivial⟩
 ·skip
  rw[show qaw g=false from by grind[qaw]];exact qzT ⟨c1,(by rw[h2];rfl),trivial⟩
theorem qfj(g:Graph)(hg:g.sz≤8388608):Rt 144 [.agg g.e] [.one (B (qaw g))]:=by
 have c1:=qbN (↑(g.nodes.map Node.e).length:Int) 1 8;rcases ze (inR (↑(g.nodes.map Node.e).length:Int) 1 8) with h2 | h2
 ·skip
  have c3:=qbN g.workers 1 4;rcases ze (inR g.workers 1 4) with h4 | h4
  ·skip
   have c5:=qbN g.cap 1 4;rcases ze (inR g.cap 1 4) with h6 | h6
   ·skip
    rcases qDE g hg (by grind[inR]) with⟨hL,l⟩ | ⟨hL,l⟩
    ·skip
     rw[show qaw g=false from by grind[qaw]];exact qAB ⟨c1,(by rw[h2];rfl),c3,(by rw[h4];rfl),c5,(by rw[h6];rfl),l,trivial⟩
    ·skip
     rw[show qaw g=true from by grind[qaw]];exact qAC ⟨c1,(by rw[h2];rfl),c3,(by rw[h4];rfl),c5,(by rw[h6];rfl),l,trivial⟩
   ·skip
    rw[show qaw g=false from by grind[qaw]];exact qAi ⟨c1,(by rw[h2];rfl),c3,(by rw[h4];rfl),c5,(by rw[h6];rfl),trivial⟩
  ·skip
   rw[show qaw g=false from by grind[qaw]];exact qAh ⟨c1,(by rw[h2];rfl),c3,(by rw[h4];rfl),trivial⟩
 ·skip
  rw[show qaw g=false from by grind[qaw]];exact qAg ⟨c1,(by rw[h2];rfl),trivial⟩
theorem qDF(x:Node)(k v:Int)(hx:x.outs.length≤8388608):Rt 293 [.agg x.e,.one (I k),.one (I v)] [.one (I ((qak x k v).1)),.one (I ((qak x k v).2.1)),.one (B ((qak x k v).2.2))]:=by
 have c1:=qqS x (by grind);rcases ze (qab x) with h2 | h2
 ·skip
  have c3:=qbo k 0 99;rcases ze (inR k 0 99) with h4 | h4
  ·skip
   have c5:=qbo v 0 999;rcases ze (inR v 0 999) with h6 | h6
   ·skip
    rcases ze (x.kind==2) with h7 | h7
    ·skip
     have c8:=qDA (v+x.a) 999;rw[show qak x k v=(k,less (v+x.a) 999,true) from by grind[qak,qaL,less,qab,abOk]];exact qAX ⟨c1,(by rw[h2];rfl),c3,(by rw[h4];rfl),c5,(by rw[h6];rfl),h7,(by grind[qab,abOk,inR,inInt,qaL]),c8,trivial⟩
    ·skip
     rcases ze (x.kind==4) with h9 | h9
     ·skip
      rw[show qak x k v=((k+x.a).tmod 100,v,true) from by grind[qak,qaL,less,qab,abOk]];exact qAY ⟨c1,(by rw[h2];rfl),c3,(by rw[h4];rfl),c5,(by rw[h6];rfl),h7,h9,(by grind[qab,abOk,inR,inInt,qaL]),(by grind[qab,abOk,inR,inInt,qaL]),trivial⟩
     ·skip
      rcases ze (x.kind==3) with h10 | h10
      ·skip
       rw[show qak x k v=(k,v,k.tmod x.a==x.b) from by grind[qak,qaL,less,qab,abOk]];exact qAZ ⟨c1,(by rw[h2];rfl),c3,(by rw[h4];rfl),c5,(by rw[h6];rfl),h7,h9,h10,(by grind[qab,abOk,inR,inInt,qaL]),trivial⟩
      ·skip
       rw[show qak x k v=(k,v,x.kind != 8) from by grind[qak,qaL,less,qab,abOk]];exact qA0 ⟨c1,(by rw[h2];rfl),c3,(by rw[h4];rfl),c5,(by rw[h6];rfl),h7,h9,h10,trivial⟩
   ·skip
    rw[show qak x k v=(k,v,false) from by grind[qak,qaL,less,qab,abOk]];exact qAW ⟨c1,(by rw[h2];rfl),c3,(by rw[h4];rfl),c5,(by rw[h6];rfl),trivial⟩
  ·skip
   rw[show qak x k v=(k,v,false) from by grind[qak,qaL,less,qab,abOk]];exact qAV ⟨c1,(by rw[h2];rfl),c3,(by rw[h4];rfl),trivial⟩
 ·skip
  rw[show qak x k v=(k,v,false) from by grind[qak,qaL,less,qab,abOk]];exact qAU ⟨c1,(by rw[h2];rfl),trivial⟩
def qaF(a b:Cell):Bool:=a.op==b.op&&a.epoch==b.epoch&&a.key==b.key
def qaM(op ep key:Int)(s:Int×Bool)(a:Cell):Int×Bool:=if a.op=op∧a.epoch=ep∧a.key=key∧(s.2=false∨a.val<s.1) then (a.val,true) else s
def qcJ(xs:List Cell)(op ep key:Int):Int×Bool:=xs.foldl (qaM op ep key) (0,false)
theorem qDH(xs:List Cell)(hl:xs.length≤8388608)(op ep key m:Int)(f:Bool)(i:Nat)(a:Cell)(ha:xs[i]?=some a):Tr prog (qaa f324 0) (qbW (xs.map Cell.e) op ep key i f m) .normal (qbW (xs.map Cell.e) op ep key ((i+1:Nat):Int) (qaM op ep key (m,f) a).2 (qaM op ep key (m,f) a).1):=by
 have hj:=lt_of ha;have hk1:xs[(i:Int).toNat]?=some a:=by simpa using ha
 have hj1:decide ((i:Int)<(↑(xs.map Cell.e).length:Int))=true:=lt1 hj;rcases ze (a.op==op) with h1 | h1
 ·skip
  rcases ze (a.epoch==ep) with h2 | h2
  ·skip
   rcases ze (a.key==key) with h3 | h3
   ·skip
    rcases ze (f) with h4 | h4
    ·skip
     rcases ze (decide (a.val<m)) with h5 | h5
     ·skip
      rw[show qaM op ep key (m,f) a=(a.val,true) from by grind[qaM,qaF]];exact qzh ⟨hj1,(by grind[inInt]),(by grind[inInt]),(qad Cell.e hk1),h1,h2,h3,(by rw[h4];rfl),h5,(by grind[inInt]),trivial⟩
     ·skip
      rw[show qaM op ep key (m,f) a=(m,f) from by grind[qaM,qaF]];exact qzi ⟨hj1,(by grind[inInt]),(by grind[inInt]),(qad Cell.e hk1),h1,h2,h3,(by rw[h4];rfl),h5,(by grind[inInt]),trivial⟩
    ·skip
     rw[show qaM op ep key (m,f) a=(a.val,true) from by grind[qaM,qaF]];exact qzg ⟨hj1,(by grind[inInt]),(by grind[inInt]),(qad Cell.e hk1),h1,h2,h3,(by rw[h4];rfl),(by grind[inInt]),trivial⟩
   ·skip
    rw[show qaM op ep key (m,f) a=(m,f) from by grind[qaM,qaF]];exact qzj ⟨hj1,(by grind[inInt]),(by grind[inInt]),(qad Cell.e hk1),h1,h2,h3,(by grind[inInt]),trivial⟩
  ·skip
   rw[show qaM op ep key (m,f) a=(m,f) from by grind[qaM,qaF]];exact qzk ⟨hj1,(by grind[inInt]),(by grind[inInt]),(qad Cell.e hk1),h1,h2,(by grind[inInt]),trivial⟩
 ·skip
  rw[show qaM op ep key (m,f) a=(m,f) from by grind[qaM,qaF]];exact qzl ⟨hj1,(by grind[inInt]),(by grind[inInt]),(qad Cell.e hk1),h1,(by grind[inInt]),trivial⟩
theorem qqZ(xs:List Cell)(op ep key:Int)(hl:xs.length≤8388608):Rt 324 [.one (.sl 4 (xs.map Cell.e)),.one (I op),.one (I ep),.one (I key)] [.one (I (qcJ xs op ep key).1),.one (B (qcJ xs op ep key).2)]:=by
 have l:=qao (P:=prog) (c:=(qaa f324 0)) (qaf 0) xs.length (fun i:Nat=>qbW (xs.map Cell.e) op ep key i (qcT (qaM op ep key) (0,false) xs i).2 (qcT (qaM op ep key) (0,false) xs i).1) (fun i hi=>by
  obtain⟨a,ha⟩:=qal hi;rw[qji ha];exact qDH xs hl op ep key _ _ i a ha) (qzm ⟨ge1,trivial⟩)
 rw[qjj]at l;exact qzn ⟨l,trivial⟩
