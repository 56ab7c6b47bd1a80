/- GraphOk, Changed, LeastOf: what program and reference compute (cases put together by gentree.py). -/
import Derived.Test.YtenekpkjlgddnaaGreatP15
import Derived.Test.YtenekpkjlgddnaaGreatC0
import Derived.Test.YtenekpkjlgddnaaGreatGS
set_option linter.unusedVariables false
set_option linter.unusedSimpArgs false
namespace Go.Proofs.YtenekpkjlgddnaaGreat
open Go.Sx Go.RowKit Go.Proofs.Tryz
def qaH(g:Graph)(k:Int):Int:=match g.nodes[k.toNat]? with | some y=>y.kind | none=>0
def qau(g:Graph)(i:Nat)(x:Node)(k:Int):Bool:=
 decide ((g.nodes.length:Int)≤k)||(if x.kind=7 then decide ((i:Int)<k)||(qaH g k != 5&&qaH g k != 6) else decide (k≤i))
def qaX(g:Graph)(i:Nat)(x:Node):Bool:=!qaa x||(decide (x.kind=1) != decide ((i:Int)=0))||x.outs.any (qau g i x)
def qak(g:Graph):Bool:=inR g.nodes.length 1 8&&inR g.workers 1 4&&inR g.cap 1 4&&!(anyI (qaX g) 0 g.nodes)
def qap(x:Node)(k v:Int):Int×Int×Bool:=
 if qaa x&&qaC k v then
  if x.kind=2 then (k,less (v+x.a) 999,true)
  else if x.kind=4 then ((k+x.a).tmod 100,v,true)
  else if x.kind=3 then (k,v,k.tmod x.a==x.b)
  else (k,v,x.kind != 8)
 else (k,v,false)
theorem qk0{l:List Int}(h:okAll l=true){k:Int}(hk:k∈l):inR k 0 7=true:=by
 simp only[okAll,zS,zP]at h
 simpa using h k hk
theorem qk1(g:Graph)(hg:g.sz≤8388608)(i:Nat)(hi:i<8)(x:Node)(hx:g.nodes[i]?=some x)(hok:qaa x=true)(j:Nat)(k:Int)(hk:x.outs[j]?=some k)(r:Bool)(hr:qau g i x k=r):Tr prog (qab f12 1) (qaF i (g.nodes.map Node.e) g.workers g.cap x.kind x.a x.b (x.outs.map eI) (j:Int)) (bif r then .ret else .normal) (bif r then qcm false else qaF i (g.nodes.map Node.e) g.workers g.cap x.kind x.a x.b (x.outs.map eI) ((j+1:Nat):Int)):=by
 have hj:=lt_of hk
 have hl:x.outs.length≤2:=by grind[qaa]
 have hk0:inR k 0 7=true:=qk0 (by grind[qaa]) (qaq hk)
 have hk1:x.outs[(j:Int).toNat]?=some k:=by simpa using hk
 have hj1:decide ((j:Int)<(↑(x.outs.map eI).length:Int))=true:=lt1 hj
 rcases ze (decide (k≥(↑(g.nodes.map Node.e).length:Int))) with h1 | h1
 ·skip
  obtain rfl:r=true:=by rw[←hr];grind[qau,qaH,inR]
  exact qpW ⟨hj1,(by grind[inR,inInt,qaa]),(by grind[inR,inInt,qaa]),(qac eI hk1),h1,trivial⟩
 ·skip
  rcases ze (x.kind != 7) with h2 | h2
  ·skip
   rcases ze (decide (k≤(i:Int))) with h3 | h3
   ·skip
    obtain rfl:r=true:=by rw[←hr];grind[qau,qaH,inR]
    exact qpX ⟨hj1,(by grind[inR,inInt,qaa]),(by grind[inR,inInt,qaa]),(qac eI hk1),h1,h2,h3,trivial⟩
   ·skip
    obtain⟨y4,hy4⟩:=look (xs:=g.nodes) (i:=k) (by grind[inR,inInt,qaa]) (by grind[inR,inInt,qaa])
    rcases ze (x.kind==7) with h5 | h5
    ·skip
     rcases ze (decide (k>(i:Int))) with h6 | h6
     ·skip
      obtain rfl:r=true:=by rw[←hr];grind[qau,qaH,inR]
      exact qpY ⟨hj1,(by grind[inR,inInt,qaa]),(by grind[inR,inInt,qaa]),(qac eI hk1),h1,h2,h3,(by grind[inR,inInt,qaa]),(by grind[inR,inInt,qaa]),(qac Node.e hy4),h5,h6,trivial⟩
     ·skip
      rcases ze (y4.kind != 5) with h7 | h7
      ·skip
       rcases ze (y4.kind != 6) with h8 | h8
       ·skip
        obtain rfl:r=true:=by rw[←hr];grind[qau,qaH,inR]
        exact qpZ ⟨hj1,(by grind[inR,inInt,qaa]),(by grind[inR,inInt,qaa]),(qac eI hk1),h1,h2,h3,(by grind[inR,inInt,qaa]),(by grind[inR,inInt,qaa]),(qac Node.e hy4),h5,h6,h7,h8,trivial⟩
       ·skip
        obtain rfl:r=false:=by rw[←hr];grind[qau,qaH,inR]
        exact qp0 ⟨hj1,(by grind[inR,inInt,qaa]),(by grind[inR,inInt,qaa]),(qac eI hk1),h1,h2,h3,(by grind[inR,inInt,qaa]),(by grind[inR,inInt,qaa]),(qac Node.e hy4),h5,h6,h7,h8,(by grind[inR,inInt,qaa]),trivial⟩
      ·skip
       obtain rfl:r=false:=by rw[←hr];grind[qau,qaH,inR]
       exact qp1 ⟨hj1,(by grind[inR,inInt,qaa]),(by grind[inR,inInt,qaa]),(qac eI hk1),h1,h2,h3,(by grind[inR,inInt,qaa]),(by grind[inR,inInt,qaa]),(qac Node.e hy4),h5,h6,h7,(by grind[inR,inInt,qaa]),trivial⟩
    ·skip
     obtain rfl:r=false:=by rw[←hr];grind[qau,qaH,inR]
     exact qp2 ⟨hj1,(by grind[inR,inInt,qaa]),(by grind[inR,inInt,qaa]),(qac eI hk1),h1,h2,h3,(by grind[inR,inInt,qaa]),(by grind[inR,inInt,qaa]),(qac Node.e hy4),h5,(by grind[inR,inInt,qaa]),trivial⟩
  ·skip
   obtain⟨y9,hy9⟩:=look (xs:=g.nodes) (i:=k) (by grind[inR,inInt,qaa]) (by grind[inR,inInt,qaa])
   rcases ze (x.kind==7) with h10 | h10
   ·skip
    rcases ze (decide (k>(i:Int))) with h11 | h11
    ·skip
     obtain rfl:r=true:=by rw[←hr];grind[qau,qaH,inR]
     exact qp3 ⟨hj1,(by grind[inR,inInt,qaa]),(by grind[inR,inInt,qaa]),(qac eI hk1),h1,h2,(by grind[inR,inInt,qaa]),(by grind[inR,inInt,qaa]),(qac Node.e hy9),h10,h11,trivial⟩
    ·skip
     rcases ze (y9.kind != 5) with h12 | h12
     ·skip
      rcases ze (y9.kind != 6) with h13 | h13
      ·skip
       obtain rfl:r=true:=by rw[←hr];grind[qau,qaH,inR]
       exact qp4 ⟨hj1,(by grind[inR,inInt,qaa]),(by grind[inR,inInt,qaa]),(qac eI hk1),h1,h2,(by grind[inR,inInt,qaa]),(by grind[inR,inInt,qaa]),(qac Node.e hy9),h10,h11,h12,h13,trivial⟩
      ·skip
       obtain rfl:r=false:=by rw[←hr];grind[qau,qaH,inR]
       exact qp5 ⟨hj1,(by grind[inR,inInt,qaa]),(by grind[inR,inInt,qaa]),(qac eI hk1),h1,h2,(by grind[inR,inInt,qaa]),(by grind[inR,inInt,qaa]),(qac Node.e hy9),h10,h11,h12,h13,(by grind[inR,inInt,qaa]),trivial⟩
     ·skip
      obtain rfl:r=false:=by rw[←hr];grind[qau,qaH,inR]
      exact qp6 ⟨hj1,(by grind[inR,inInt,qaa]),(by grind[inR,inInt,qaa]),(qac eI hk1),h1,h2,(by grind[inR,inInt,qaa]),(by grind[inR,inInt,qaa]),(qac Node.e hy9),h10,h11,h12,(by grind[inR,inInt,qaa]),trivial⟩
   ·skip
    obtain rfl:r=false:=by rw[←hr];grind[qau,qaH,inR]
    exact qp7 ⟨hj1,(by grind[inR,inInt,qaa]),(by grind[inR,inInt,qaa]),(qac eI hk1),h1,h2,(by grind[inR,inInt,qaa]),(by grind[inR,inInt,qaa]),(qac Node.e hy9),h10,(by grind[inR,inInt,qaa]),trivial⟩
theorem qk2(g:Graph)(hg:g.sz≤8388608)(i:Nat)(hi:i<8)(x:Node)(hx:g.nodes[i]?=some x)(hok:qaa x=true)(j:Nat)(k:Int)(hk:x.outs[j]?=some k)(r:Bool)(hr:qau g i x k=r):Tr prog (qab f59 1) (qaG (g.nodes.map Node.e) i (g.nodes.map Node.e) g.workers g.cap x.kind x.a x.b (x.outs.map eI) (j:Int)) (bif r then .ret else .normal) (bif r then qcn false else qaG (g.nodes.map Node.e) i (g.nodes.map Node.e) g.workers g.cap x.kind x.a x.b (x.outs.map eI) ((j+1:Nat):Int)):=by
 have hj:=lt_of hk
 have hl:x.outs.length≤2:=by grind[qaa]
 have hk0:inR k 0 7=true:=qk0 (by grind[qaa]) (qaq hk)
 have hk1:x.outs[(j:Int).toNat]?=some k:=by simpa using hk
 have hj1:decide ((j:Int)<(↑(x.outs.map eI).length:Int))=true:=lt1 hj
 rcases ze (decide (k≥(↑(g.nodes.map Node.e).length:Int))) with h1 | h1
 ·skip
  obtain rfl:r=true:=by rw[←hr];grind[qau,qaH,inR]
  exact qqj ⟨hj1,(by grind[inR,inInt,qaa]),(by grind[inR,inInt,qaa]),(qac eI hk1),h1,trivial⟩
 ·skip
  obtain⟨y2,hy2⟩:=look (xs:=g.nodes) (i:=k) (by grind[inR,inInt,qaa]) (by grind[inR,inInt,qaa])
  rcases ze (x.kind==7) with h3 | h3
  ·skip
   rcases ze (decide (k>(i:Int))) with h4 | h4
   ·skip
    obtain rfl:r=true:=by rw[←hr];grind[qau,qaH,inR]
    exact qqk ⟨hj1,(by grind[inR,inInt,qaa]),(by grind[inR,inInt,qaa]),(qac eI hk1),h1,(by grind[inR,inInt,qaa]),(by grind[inR,inInt,qaa]),(qac Node.e hy2),h3,h4,trivial⟩
   ·skip
    rcases ze (y2.kind != 5) with h5 | h5
    ·skip
     rcases ze (y2.kind != 6) with h6 | h6
     ·skip
      obtain rfl:r=true:=by rw[←hr];grind[qau,qaH,inR]
      exact qql ⟨hj1,(by grind[inR,inInt,qaa]),(by grind[inR,inInt,qaa]),(qac eI hk1),h1,(by grind[inR,inInt,qaa]),(by grind[inR,inInt,qaa]),(qac Node.e hy2),h3,h4,h5,h6,trivial⟩
     ·skip
      rcases ze (x.kind != 7) with h7 | h7
      ·skip
       rcases ze (decide (k≤(i:Int))) with h8 | h8
       ·skip
        obtain rfl:r=true:=by rw[←hr];grind[qau,qaH,inR]
        exact qqm ⟨hj1,(by grind[inR,inInt,qaa]),(by grind[inR,inInt,qaa]),(qac eI hk1),h1,(by grind[inR,inInt,qaa]),(by grind[inR,inInt,qaa]),(qac Node.e hy2),h3,h4,h5,h6,h7,h8,trivial⟩
       ·skip
        obtain rfl:r=false:=by rw[←hr];grind[qau,qaH,inR]
        exact qqn ⟨hj1,(by grind[inR,inInt,qaa]),(by grind[inR,inInt,qaa]),(qac eI hk1),h1,(by grind[inR,inInt,qaa]),(by grind[inR,inInt,qaa]),(qac Node.e hy2),h3,h4,h5,h6,h7,h8,(by grind[inR,inInt,qaa]),trivial⟩
      ·skip
       obtain rfl:r=false:=by rw[←hr];grind[qau,qaH,inR]
       exact qqo ⟨hj1,(by grind[inR,inInt,qaa]),(by grind[inR,inInt,qaa]),(qac eI hk1),h1,(by grind[inR,inInt,qaa]),(by grind[inR,inInt,qaa]),(qac Node.e hy2),h3,h4,h5,h6,h7,(by grind[inR,inInt,qaa]),trivial⟩
    ·skip
     rcases ze (x.kind != 7) with h9 | h9
     ·skip
      rcases ze (decide (k≤(i:Int))) with h10 | h10
      ·skip
       obtain rfl:r=true:=by rw[←hr];grind[qau,qaH,inR]
       exact qqp ⟨hj1,(by grind[inR,inInt,qaa]),(by grind[inR,inInt,qaa]),(qac eI hk1),h1,(by grind[inR,inInt,qaa]),(by grind[inR,inInt,qaa]),(qac Node.e hy2),h3,h4,h5,h9,h10,trivial⟩
      ·skip
       obtain rfl:r=false:=by rw[←hr];grind[qau,qaH,inR]
       exact qqq ⟨hj1,(by grind[inR,inInt,qaa]),(by grind[inR,inInt,qaa]),(qac eI hk1),h1,(by grind[inR,inInt,qaa]),(by grind[inR,inInt,qaa]),(qac Node.e hy2),h3,h4,h5,h9,h10,(by grind[inR,inInt,qaa]),trivial⟩
     ·skip
      obtain rfl:r=false:=by rw[←hr];grind[qau,qaH,inR]
      exact qqr ⟨hj1,(by grind[inR,inInt,qaa]),(by grind[inR,inInt,qaa]),(qac eI hk1),h1,(by grind[inR,inInt,qaa]),(by grind[inR,inInt,qaa]),(qac Node.e hy2),h3,h4,h5,h9,(by grind[inR,inInt,qaa]),trivial⟩
  ·skip
   rcases ze (x.kind != 7) with h11 | h11
   ·skip
    rcases ze (decide (k≤(i:Int))) with h12 | h12
    ·skip
     obtain rfl:r=true:=by rw[←hr];grind[qau,qaH,inR]
     exact qqs ⟨hj1,(by grind[inR,inInt,qaa]),(by grind[inR,inInt,qaa]),(qac eI hk1),h1,(by grind[inR,inInt,qaa]),(by grind[inR,inInt,qaa]),(qac Node.e hy2),h3,h11,h12,trivial⟩
    ·skip
     obtain rfl:r=false:=by rw[←hr];grind[qau,qaH,inR]
     exact qqt ⟨hj1,(by grind[inR,inInt,qaa]),(by grind[inR,inInt,qaa]),(qac eI hk1),h1,(by grind[inR,inInt,qaa]),(by grind[inR,inInt,qaa]),(qac Node.e hy2),h3,h11,h12,(by grind[inR,inInt,qaa]),trivial⟩
   ·skip
    obtain rfl:r=false:=by rw[←hr];grind[qau,qaH,inR]
    exact qqu ⟨hj1,(by grind[inR,inInt,qaa]),(by grind[inR,inInt,qaa]),(qac eI hk1),h1,(by grind[inR,inInt,qaa]),(by grind[inR,inInt,qaa]),(qac Node.e hy2),h3,h11,(by grind[inR,inInt,qaa]),trivial⟩
theorem qto(g:Graph)(hg:g.sz≤8388608)(i:Nat)(hi:i<8)(x:Node)(hx:g.nodes[i]?=some x)(hok:qaa x=true):
  (x.outs.any (qau g i x)=true∧qai prog (qab f12 1) (qaF i (g.nodes.map Node.e) g.workers g.cap x.kind x.a x.b (x.outs.map eI) 0) .ret (qcm false))∨(x.outs.any (qau g i x)=false∧qai prog (qab f12 1) (qaF i (g.nodes.map Node.e) g.workers g.cap x.kind x.a x.b (x.outs.map eI) 0) (.exit 2) (qhW i (g.nodes.map Node.e) g.workers g.cap)):=by
 have l:=qa7 (P:=prog) (c:=(qab f12 1)) x.outs (qau g i x) (fun j=>qaF i (g.nodes.map Node.e) g.workers g.cap x.kind x.a x.b (x.outs.map eI) j) (X:=fun _ _=>qcm false) qaE (qaj 2)
  (fun j k hk h=>qk1 g hg i hi x hx hok j k hk false h)
  (fun j k hk h=>qk1 g hg i hi x hx hok j k hk true h)
  (qp8 ⟨ge1,trivial⟩)
 rcases l with⟨_,_,h1,h2⟩ | ⟨j,k,_,_,_,_,h1,h2⟩
 ·exact .inr ⟨h1,h2⟩
 ·exact .inl ⟨h1,h2⟩
theorem qtp(g:Graph)(hg:g.sz≤8388608)(i:Nat)(hi:i<8)(x:Node)(hx:g.nodes[i]?=some x)(hok:qaa x=true):
  (x.outs.any (qau g i x)=true∧qai prog (qab f59 1) (qaG (g.nodes.map Node.e) i (g.nodes.map Node.e) g.workers g.cap x.kind x.a x.b (x.outs.map eI) 0) .ret (qcn false))∨(x.outs.any (qau g i x)=false∧qai prog (qab f59 1) (qaG (g.nodes.map Node.e) i (g.nodes.map Node.e) g.workers g.cap x.kind x.a x.b (x.outs.map eI) 0) (.exit 2) (qhY (g.nodes.map Node.e) i (g.nodes.map Node.e) g.workers g.cap)):=by
 have l:=qa7 (P:=prog) (c:=(qab f59 1)) x.outs (qau g i x) (fun j=>qaG (g.nodes.map Node.e) i (g.nodes.map Node.e) g.workers g.cap x.kind x.a x.b (x.outs.map eI) j) (X:=fun _ _=>qcn false) qaE (qaj 2)
  (fun j k hk h=>qk2 g hg i hi x hx hok j k hk false h)
  (fun j k hk h=>qk2 g hg i hi x hx hok j k hk true h)
  (qqv ⟨ge1,trivial⟩)
 rcases l with⟨_,_,h1,h2⟩ | ⟨j,k,_,_,_,_,h1,h2⟩
 ·exact .inr ⟨h1,h2⟩
 ·exact .inl ⟨h1,h2⟩
theorem qk3(g:Graph)(hg:g.sz≤8388608)(i:Nat)(hi:i<8)(x:Node)(hx:g.nodes[i]?=some x)(r:Bool)(hr:qaX g i x=r):Tr prog (qab f12 0) (qbK ((i:Nat):Int) (g.nodes.map Node.e) g.workers g.cap) (bif r then .ret else .normal) (bif r then qdF false else qbK ((i+1:Nat):Int) (g.nodes.map Node.e) g.workers g.cap):=by
 have hj:=lt_of hx
 have ho:=Graph.outs_le hg (qaq hx)
 have hk1:g.nodes[(i:Int).toNat]?=some x:=by simpa using hx
 have hj1:decide ((i:Int)<(↑(g.nodes.map Node.e).length:Int))=true:=lt1 hj
 have c1:=qtn x (by grind)
 rcases ze (qaa x) with h2 | h2
 ·skip
  rcases ze ((x.kind==1)==((i:Int)==0)) with h3 | h3
  ·skip
   rcases qto g hg i hi x hx (by grind) with⟨hL,l⟩ | ⟨hL,l⟩
   ·skip
    obtain rfl:r=true:=by rw[←hr];grind[qaX]
    exact qp9 ⟨hj1,(by grind[inR,inInt,qaa]),(by grind[inR,inInt,qaa]),(qac Node.e hk1),c1,(by rw[h2];rfl),(by rw[h3];rfl),l,trivial⟩
   ·skip
    obtain rfl:r=false:=by rw[←hr];grind[qaX]
    exact qqa ⟨hj1,(by grind[inR,inInt,qaa]),(by grind[inR,inInt,qaa]),(qac Node.e hk1),c1,(by rw[h2];rfl),(by rw[h3];rfl),l,(by grind[inR,inInt,qaa]),trivial⟩
  ·skip
   obtain rfl:r=true:=by rw[←hr];grind[qaX]
   exact qpV ⟨hj1,(by grind[inR,inInt,qaa]),(by grind[inR,inInt,qaa]),(qac Node.e hk1),c1,(by rw[h2];rfl),(by rw[h3];rfl),trivial⟩
 ·skip
  obtain rfl:r=true:=by rw[←hr];grind[qaX]
  exact qpU ⟨hj1,(by grind[inR,inInt,qaa]),(by grind[inR,inInt,qaa]),(qac Node.e hk1),c1,(by rw[h2];rfl),trivial⟩
theorem qk4(g:Graph)(hg:g.sz≤8388608)(i:Nat)(hi:i<8)(x:Node)(hx:g.nodes[i]?=some x)(r:Bool)(hr:qaX g i x=r):Tr prog (qab f59 0) (qbL (g.nodes.map Node.e) ((i:Nat):Int) (g.nodes.map Node.e) g.workers g.cap) (bif r then .ret else .normal) (bif r then qdG false else qbL (g.nodes.map Node.e) ((i+1:Nat):Int) (g.nodes.map Node.e) g.workers g.cap):=by
 have hj:=lt_of hx
 have ho:=Graph.outs_le hg (qaq hx)
 have hk1:g.nodes[(i:Int).toNat]?=some x:=by simpa using hx
 have hj1:decide ((i:Int)<(↑(g.nodes.map Node.e).length:Int))=true:=lt1 hj
 have c1:=qkZ x (by grind)
 rcases ze (qaa x) with h2 | h2
 ·skip
  rcases ze ((x.kind==1)==((i:Int)==0)) with h3 | h3
  ·skip
   rcases qtp g hg i hi x hx (by grind) with⟨hL,l⟩ | ⟨hL,l⟩
   ·skip
    obtain rfl:r=true:=by rw[←hr];grind[qaX]
    exact qqw ⟨hj1,(by grind[inR,inInt,qaa]),(by grind[inR,inInt,qaa]),(qac Node.e hk1),c1,(by rw[h2];rfl),(by rw[h3];rfl),l,trivial⟩
   ·skip
    obtain rfl:r=false:=by rw[←hr];grind[qaX]
    exact qqx ⟨hj1,(by grind[inR,inInt,qaa]),(by grind[inR,inInt,qaa]),(qac Node.e hk1),c1,(by rw[h2];rfl),(by rw[h3];rfl),l,(by grind[inR,inInt,qaa]),trivial⟩
  ·skip
   obtain rfl:r=true:=by rw[←hr];grind[qaX]
   exact qqi ⟨hj1,(by grind[inR,inInt,qaa]),(by grind[inR,inInt,qaa]),(qac Node.e hk1),c1,(by rw[h2];rfl),(by rw[h3];rfl),trivial⟩
 ·skip
  obtain rfl:r=true:=by rw[←hr];grind[qaX]
  exact qqh ⟨hj1,(by grind[inR,inInt,qaa]),(by grind[inR,inInt,qaa]),(qac Node.e hk1),c1,(by rw[h2];rfl),trivial⟩
theorem qtq(g:Graph)(hg:g.sz≤8388608)(h8:g.nodes.length≤8):
  (anyI (qaX g) 0 g.nodes=true∧qai prog (qab f12 0) (qbK 0 (g.nodes.map Node.e) g.workers g.cap) .ret (qdF false))∨(anyI (qaX g) 0 g.nodes=false∧qai prog (qab f12 0) (qbK 0 (g.nodes.map Node.e) g.workers g.cap) (.exit 0) qhX):=by
 have l:=qeL (P:=prog) (c:=(qab f12 0)) g.nodes (qaX g) (fun i=>qbK (i:Nat) (g.nodes.map Node.e) g.workers g.cap) (X:=qdF false) qaE (qaj 0)
  (fun i x hx h=>qk3 g hg i (by have:=lt_of hx;omega) x hx false h)
  (fun i x hx h=>qk3 g hg i (by have:=lt_of hx;omega) x hx true h)
  (qqb ⟨ge1,trivial⟩)
 rcases l with⟨h1,h2⟩ | ⟨h1,h2⟩
 ·exact .inr ⟨h1,h2⟩
 ·exact .inl ⟨h1,h2⟩
theorem qtr(g:Graph)(hg:g.sz≤8388608)(h8:g.nodes.length≤8):
  (anyI (qaX g) 0 g.nodes=true∧qai prog (qab f59 0) (qbL (g.nodes.map Node.e) 0 (g.nodes.map Node.e) g.workers g.cap) .ret (qdG false))∨(anyI (qaX g) 0 g.nodes=false∧qai prog (qab f59 0) (qbL (g.nodes.map Node.e) 0 (g.nodes.map Node.e) g.workers g.cap) (.exit 0) qhZ):=by
 have l:=qeL (P:=prog) (c:=(qab f59 0)) g.nodes (qaX g) (fun i=>qbL (g.nodes.map Node.e) (i:Nat) (g.nodes.map Node.e) g.workers g.cap) (X:=qdG false) qaE (qaj 0)
  (fun i x hx h=>qk4 g hg i (by have:=lt_of hx;omega) x hx false h)
  (fun i x hx h=>qk4 g hg i (by have:=lt_of hx;omega) x hx true h)
  (qqy ⟨ge1,trivial⟩)
 rcases l with⟨h1,h2⟩ | ⟨h1,h2⟩
 ·exact .inr ⟨h1,h2⟩
 ·exact .inl ⟨h1,h2⟩
theorem qts(g:Graph)(hg:g.sz≤8388608):Rt 12 [.agg g.e] [.one (B (qak g))]:=by
 have c1:=qbc (↑(g.nodes.map Node.e).length:Int) 1 8
 rcases ze (inR (↑(g.nodes.map Node.e).length:Int) 1 8) with h2 | h2
 ·skip
  have c3:=qbc g.workers 1 4
  rcases ze (inR g.workers 1 4) with h4 | h4
  ·skip
   have c5:=qbc g.cap 1 4
   rcases ze (inR g.cap 1 4) with h6 | h6
   ·skip
    rcases qtq g hg (by grind[inR]) with⟨hL,l⟩ | ⟨hL,l⟩
    ·skip
     rw[show qak g=false from by grind[qak]]
     exact qqc ⟨c1,(by rw[h2];rfl),c3,(by rw[h4];rfl),c5,(by rw[h6];rfl),l,trivial⟩
    ·skip
     rw[show qak g=true from by grind[qak]]
     exact qqd ⟨c1,(by rw[h2];rfl),c3,(by rw[h4];rfl),c5,(by rw[h6];rfl),l,trivial⟩
   ·skip
    rw[show qak g=false from by grind[qak]]
    exact qpT ⟨c1,(by rw[h2];rfl),c3,(by rw[h4];rfl),c5,(by rw[h6];rfl),trivial⟩
  ·skip
   rw[show qak g=false from by grind[qak]]
   exact qpS ⟨c1,(by rw[h2];rfl),c3,(by rw[h4];rfl),trivial⟩
 ·skip
  rw[show qak g=false from by grind[qak]]
  exact qpR ⟨c1,(by rw[h2];rfl),trivial⟩
theorem qeb(g:Graph)(hg:g.sz≤8388608):Rt 59 [.agg g.e] [.one (B (qak g))]:=by
 have c1:=qa4 (↑(g.nodes.map Node.e).length:Int) 1 8
 rcases ze (inR (↑(g.nodes.map Node.e).length:Int) 1 8) with h2 | h2
 ·skip
  have c3:=qa4 g.workers 1 4
  rcases ze (inR g.workers 1 4) with h4 | h4
  ·skip
   have c5:=qa4 g.cap 1 4
   rcases ze (inR g.cap 1 4) with h6 | h6
   ·skip
    rcases qtr g hg (by grind[inR]) with⟨hL,l⟩ | ⟨hL,l⟩
    ·skip
     rw[show qak g=false from by grind[qak]]
     exact qqz ⟨c1,(by rw[h2];rfl),c3,(by rw[h4];rfl),c5,(by rw[h6];rfl),l,trivial⟩
    ·skip
     rw[show qak g=true from by grind[qak]]
     exact qqA ⟨c1,(by rw[h2];rfl),c3,(by rw[h4];rfl),c5,(by rw[h6];rfl),l,trivial⟩
   ·skip
    rw[show qak g=false from by grind[qak]]
    exact qqg ⟨c1,(by rw[h2];rfl),c3,(by rw[h4];rfl),c5,(by rw[h6];rfl),trivial⟩
  ·skip
   rw[show qak g=false from by grind[qak]]
   exact qqf ⟨c1,(by rw[h2];rfl),c3,(by rw[h4];rfl),trivial⟩
 ·skip
  rw[show qak g=false from by grind[qak]]
  exact qqe ⟨c1,(by rw[h2];rfl),trivial⟩
theorem qtt(x:Node)(k v:Int)(hx:x.outs.length≤8388608):Rt 75 [.agg x.e,.one (I k),.one (I v)] [.one (I ((qap x k v).1)),.one (I ((qap x k v).2.1)),.one (B ((qap x k v).2.2))]:=by
 have c1:=qkZ x (by grind)
 rcases ze (qaa x) with h2 | h2
 ·skip
  have c3:=qkX k v
  rcases ze (qaC k v) with h4 | h4
  ·skip
   rcases ze (x.kind==2) with h5 | h5
   ·skip
    rw[show qap x k v=(k,if v+x.a<999 then v+x.a else 999,true) from by grind[qap,qaC,less,qaa,abOk]]
    exact qqR ⟨c1,(by rw[h2];rfl),c3,(by rw[h4];rfl),h5,(by grind[qaa,abOk,inR,inInt,qaC]),trivial⟩
   ·skip
    rcases ze (x.kind==4) with h6 | h6
    ·skip
     rw[show qap x k v=((k+x.a).tmod 100,v,true) from by grind[qap,qaC,less,qaa,abOk]]
     exact qqS ⟨c1,(by rw[h2];rfl),c3,(by rw[h4];rfl),h5,h6,(by grind[qaa,abOk,inR,inInt,qaC]),(by grind[qaa,abOk,inR,inInt,qaC]),trivial⟩
    ·skip
     rcases ze (x.kind==3) with h7 | h7
     ·skip
      rw[show qap x k v=(k,v,k.tmod x.a==x.b) from by grind[qap,qaC,less,qaa,abOk]]
      exact qqT ⟨c1,(by rw[h2];rfl),c3,(by rw[h4];rfl),h5,h6,h7,(by grind[qaa,abOk,inR,inInt,qaC]),trivial⟩
     ·skip
      rw[show qap x k v=(k,v,x.kind != 8) from by grind[qap,qaC,less,qaa,abOk]]
      exact qqU ⟨c1,(by rw[h2];rfl),c3,(by rw[h4];rfl),h5,h6,h7,trivial⟩
  ·skip
   rw[show qap x k v=(k,v,false) from by grind[qap,qaC,less,qaa,abOk]]
   exact qqQ ⟨c1,(by rw[h2];rfl),c3,(by rw[h4];rfl),trivial⟩
 ·skip
  rw[show qap x k v=(k,v,false) from by grind[qap,qaC,less,qaa,abOk]]
  exact qqP ⟨c1,(by rw[h2];rfl),trivial⟩
def qbd(a b:Cell):Bool:=a.op==b.op&&a.epoch==b.epoch&&a.key==b.key
def qbM(op ep key:Int)(s:Int×Bool)(a:Cell):Int×Bool:=if a.op=op∧a.epoch=ep∧a.key=key∧(s.2=false∨a.val<s.1) then (a.val,true) else s
def qeS(xs:List Cell)(op ep key:Int):Int×Bool:=xs.foldl (qbM op ep key) (0,false)
theorem qk5(a b:Cell):Rt 96 [.agg a.e,.agg b.e] [.one (B (qbd a b))]:=by
 rcases ze (a.op==b.op) with h1 | h1
 ·skip
  rcases ze (a.epoch==b.epoch) with h2 | h2
  ·skip
   rw[show qbd a b=(a.key==b.key) from by grind[qbd]]
   exact qpg ⟨h1,h2,trivial⟩
  ·skip
   rw[show qbd a b=false from by grind[qbd]]
   exact qph ⟨h1,h2,trivial⟩
 ·skip
  rw[show qbd a b=false from by grind[qbd]]
  exact qpi ⟨h1,trivial⟩
theorem qtu(xs:List Cell)(hl:xs.length≤8388608)(op ep key m:Int)(f:Bool)(i:Nat)(a:Cell)(ha:xs[i]?=some a):Tr prog (qab f93 0) (qbJ (xs.map Cell.e) op ep key i f m) .normal (qbJ (xs.map Cell.e) op ep key ((i+1:Nat):Int) (qbM op ep key (m,f) a).2 (qbM op ep key (m,f) a).1):=by
 have hj:=lt_of ha
 have hk1:xs[(i:Int).toNat]?=some a:=by simpa using ha
 have hj1:decide ((i:Int)<(↑(xs.map Cell.e).length:Int))=true:=lt1 hj
 have c1:=qk5 a (⟨op,ep,key,0⟩:Cell)
 rcases ze (qbd a (⟨op,ep,key,0⟩:Cell)) with h2 | h2
 ·skip
  rcases ze (f) with h3 | h3
  ·skip
   rcases ze (decide (a.val<m)) with h4 | h4
   ·skip
    rw[show qbM op ep key (m,f) a=(a.val,true) from by grind[qbM,qbd]]
    exact qpq ⟨hj1,(by grind[inInt]),(by grind[inInt]),(qac Cell.e hk1),c1,h2,(by rw[h3];rfl),h4,(by grind[inInt]),trivial⟩
   ·skip
    rw[show qbM op ep key (m,f) a=(m,f) from by grind[qbM,qbd]]
    exact qpr ⟨hj1,(by grind[inInt]),(by grind[inInt]),(qac Cell.e hk1),c1,h2,(by rw[h3];rfl),h4,(by grind[inInt]),trivial⟩
  ·skip
   rw[show qbM op ep key (m,f) a=(a.val,true) from by grind[qbM,qbd]]
   exact qpp ⟨hj1,(by grind[inInt]),(by grind[inInt]),(qac Cell.e hk1),c1,h2,(by rw[h3];rfl),(by grind[inInt]),trivial⟩
 ·skip
  rw[show qbM op ep key (m,f) a=(m,f) from by grind[qbM,qbd]]
  exact qps ⟨hj1,(by grind[inInt]),(by grind[inInt]),(qac Cell.e hk1),c1,h2,(by grind[inInt]),trivial⟩
theorem qtv(xs:List Cell)(op ep key:Int)(hl:xs.length≤8388608):Rt 93 [.one (.sl 4 (xs.map Cell.e)),.one (I op),.one (I ep),.one (I key)] [.one (I (qeS xs op ep key).1),.one (B (qeS xs op ep key).2)]:=by
 have l:=qaT (P:=prog) (c:=(qab f93 0)) (qaj 0) xs.length (fun i:Nat=>qbJ (xs.map Cell.e) op ep key i (qdu (qbM op ep key) (0,false) xs i).2 (qdu (qbM op ep key) (0,false) xs i).1) (fun i hi=>by
  obtain⟨a,ha⟩:=qah hi
  rw[qnh ha]
  exact qtu xs hl op ep key _ _ i a ha) (qpt ⟨ge1,trivial⟩)
 rw[qni]at l
 exact qpu ⟨l,trivial⟩
end Go.Proofs.YtenekpkjlgddnaaGreat
namespace Go.Proofs.YtenekpkjlgddnaaGreat
open Go.Sx Go.RowKit Go.Proofs.Tryz
theorem qvo{P:Program}{f:Nat}{args:List GA}{k:Nat}{l l':List (List D)}(h:RetG P f args [.one (.sl k l)])(hl:l=l'):RetG P f args [.one (.sl k l')]:=hl▸h
theorem qia(xs:List Cell)(p:Cell→Bool)(g:Nat)(caps:List D)(hl:xs.length≤8388608)(hc:qaA prog g=true)(hp:∀x∈xs,∀r,p x=r→Rt g ([.agg x.e]++caps.map .one) [.one (B r)]):
  ∀(n i:Nat) (ys:List Cell),n+i=xs.length→ys.length=xs.length→ys.drop i=xs.drop i→ys.take ((xs.take i).filter fun a=>!p a).length=(xs.take i).filter (fun a=>!p a)→
  ∃zs:List Cell,qai prog (qab f94 0) (qcX g caps i ((xs.take i).filter fun a=>!p a).length (ys.map Cell.e)) (.exit 0) (qhT (zs.map Cell.e) (xs.filter fun a=>!p a).length)∧zs.length=xs.length∧zs.take (xs.filter fun a=>!p a).length=xs.filter (fun a=>!p a)
 | 0,i,ys,hi,hy,_,ht=>by
  have e:xs.take i=xs:=zbk (by omega)
  rw[e]at ht ⊢
  exact⟨ys,.last (qaj 0) (qpn _ _ _ _ _ ⟨dF (by simp;omega),trivial⟩),hy,ht⟩
 | n+1,i,ys,hi,hy,hd,ht=>by
  obtain⟨a,ha⟩:=qah (xs:=xs) (i:=i) (by omega)
  have hya:ys[i]?=some a:=by
   have e1:ys[i]?=(ys.drop i)[0]?:=by simp
   have e2:xs[i]?=(xs.drop i)[0]?:=by simp
   rw[e1,hd,←e2,ha]
  have hf:=qfP (fun a=>!p a) ha
  have hle:=qky (fun a=>!p a) xs i
  have hdn:ys.drop (i+1)=xs.drop (i+1):=by
   have:=congrArg (List.drop 1) hd
   simpa[List.drop_drop,Nat.add_comm]using this
  cases h:p a with
  | true=>
   rw[h]at hf
   simp only[zZ,zao,zci,zaa]at hf
   obtain⟨zs,h1,h2,h3⟩:=qia xs p g caps hl hc hp n (i+1) ys (by omega) hy hdn (by rw[hf];exact ht)
   rw[hf]at h1
   exact⟨zs,.more (qpm _ _ _ _ _ _ _ _ _ _ ⟨dT (by simp;omega),lt0,by simp;omega,qad Cell.e hya,hc,hp a (qaq ha) true h,rfl,⟨by omega,by omega⟩,trivial⟩) h1,h2,h3⟩
  | false=>
   rw[h]at hf
   simp only[zbc,zbb]at hf
   generalize hj:((xs.take i).filter fun a=>!p a).length=j at*
   obtain⟨b,hb⟩:=qah (xs:=ys) (i:=j) (by omega)
   obtain⟨zs,h1,h2,h3⟩:=qia xs p g caps hl hc hp n (i+1) (ys.set j a) (by omega) (by simpa using hy) (by rw[List.drop_set_of_lt (by omega)];exact hdn) (by
    rw[hf,zab,hj,List.length_singleton,List.take_set,←ht]
    have hjl:j<ys.length:=by omega
    rw[List.take_succ_eq_append_getElem hjl,List.set_append_right _ _ (by simp;omega)]
    simp[zay,Nat.min_eq_left (Nat.le_of_lt hjl)])
   rw[hf,zab,hj,List.length_singleton]at h1
   refine⟨zs,.more (tr_to (fun l=>qcX g caps ((i+1:Nat):Int) ((j+1:Nat):Int) l) (qpl _ _ _ _ _ _ _ _ _ _ _ _ _ _ ⟨dT (by simp;omega),lt0,by simp;omega,qad Cell.e hya,hc,hp a (qaq ha) false h,rfl,lt0,by simp;omega,qad Cell.e hb,⟨by omega,by omega⟩,⟨by omega,by omega⟩,trivial⟩) ?_) h1,h2,h3⟩
   show List.set _ _ a.e=_
   rw[zae,←zau]
theorem qvp(xs:List Cell)(p:Cell→Bool)(g:Nat)(caps:List D)(hl:xs.length≤8388608)(hc:qaA prog g=true)(hp:∀x∈xs,Rt g ([.agg x.e]++caps.map .one) [.one (B (p x))]):
  RetG prog 94 [.one (.gv 4 (xs.map Cell.e) none),.one (.ro (.cl g caps))] [.one (.sl 4 ((xs.filter fun a=>!p a).map Cell.e))]:=by
 have hp':∀x∈xs,∀r,p x=r→Rt g ([.agg x.e]++caps.map .one) [.one (B r)]:=fun x hx r h=>h▸hp x hx
 have ix:=qtF xs p g caps hl hc hp
 unfold idxI at ix
 cases h:xs.findIdx? p with
 | none=>
  rw[h]at ix
  rw[zbs]at h
  have e:(xs.filter fun a=>!p a)=xs:=List.filter_eq_self.2 fun a ha=>by simp[h a ha]
  rw[e]
  exact qpk _ _ _ _ ⟨ix,rfl,trivial⟩
 | some i=>
  rw[h]at ix
  change Ret _ _ _ [.one (I (i:Int))]at ix
  rw[zai]at h
  obtain⟨hi,h2,h3⟩:=h
  have hx:xs[i]?=some xs[i]:=zu hi
  have e0:(xs.take i).filter (fun a=>!p a)=xs.take i:=List.filter_eq_self.2 fun a ha=>by
   obtain⟨j,hj,rfl⟩:=List.getElem_of_mem ha
   have hji:j<i:=by simp at hj;omega
   have:=h3 j hji
   simpa using this
  have e1:=qfP (fun a=>!p a) hx
  rw[h2]at e1
  simp only[zZ,zao,zci,zaa]at e1
  rw[e0]at e1
  have e2:(xs.take i).length=i:=by rw[zay];omega
  obtain⟨zs,l,hz,ht⟩:=qia xs p g caps hl hc hp' (xs.length-(i+1)) (i+1) xs (by omega) rfl rfl (by rw[e1,e2])
  rw[e1,e2]at l
  have hlt:(xs.filter fun a=>!p a).length<xs.length:=by
   have e3:xs.filter (fun a=>!p a)=xs.take i++(xs.drop (i+1)).filter fun a=>!p a:=by
    have:=zcb (i+1) xs
    rw[←this,List.filter_append,this,e1]
   rw[e3,zab,e2]
   have:=zat (fun a=>!p a) (xs.drop (i+1))
   rw[List.length_drop]at this
   omega
  generalize xs.filter (fun a=>!p a)=fs at*
  refine qvo (qpo _ _ _ _ _ _ ⟨ix,zbq.2 (by omega),⟨by omega,by omega⟩,l,by simp,by simp;omega,qaM _ Cell.flat _,by simp,by simp,by simp;omega,trivial⟩) ?_
  simp only[zV,zae,Nat.sub_zero,zck,←zcr]
  rw[ht,zbw (by simp),zbk (by simp)]
def qcD(k:Int):Bool:=k==5||k==6||k==8
def qbN(xs:List Cell)(x:Cell):List Cell×Bool:=
 if (qeS xs x.op x.epoch x.key).2&&decide ((qeS xs x.op x.epoch x.key).1≤x.val) then (xs,false) else (qca (xs.filter fun a=>!qbd x a) x,true)
def qav(kind:Int)(xs:List Cell)(x:Cell):List Cell×Bool:=
 if kind=6 then (if qcY xs x then (xs,false) else (qca xs x,true))
 else if kind=5∨kind=8 then qbN xs x
 else (xs,true)
theorem qlg(xs:List Cell)(x:Cell)(hl:xs.length≤8388608):Rt 87 [.one (.sl 4 (xs.map Cell.e)),.agg x.e] [.one (.sl 4 ((qbN xs x).1.map Cell.e)),.one (B (qbN xs x).2)]:=by
 have c:=qtv xs x.op x.epoch x.key hl
 have cp:=qcZ xs hl
 have d:=qvp xs (qbd x) 95 [D.ptr x.e] hl (by kernel_rfl) (fun y _=>qpj ⟨qk5 x y,trivial⟩)
 have pc:=qkS (xs.filter fun a=>!qbd x a) x (zce (zat ..) hl)
 unfold qbN
 generalize qeS xs x.op x.epoch x.key=m at*
 obtain⟨v,f⟩:=m
 cases f with
 | false=>exact qpx ⟨c,rfl,cp,d,pc,trivial⟩
 | true=>
  by_cases h:v≤x.val
  ·rw[dT h]
   exact qpv ⟨c,rfl,dT h,cp,trivial⟩
  ·rw[dF h]
   exact qpw ⟨c,rfl,dF h,cp,d,pc,trivial⟩
theorem qlh(kind:Int)(xs:List Cell)(x:Cell)(hl:xs.length≤8388608):Rt 76 [.one (I kind),.one (.sl 4 (xs.map Cell.e)),.agg x.e] [.one (.sl 4 (((qav kind xs x).1).map Cell.e)),.one (B ((qav kind xs x).2))]:=by
 rcases ze (kind==5) with h1 | h1
 ·skip
  have c2:=qlg xs x (by omega)
  rw[show qav kind xs x=(((qbN xs x).1),(qbN xs x).2) from by grind[qav,qbN,qca]]
  exact qpy ⟨h1,h1,c2,trivial⟩
 ·skip
  rcases ze (kind==8) with h3 | h3
  ·skip
   have c4:=qlg xs x (by omega)
   rw[show qav kind xs x=(((qbN xs x).1),(qbN xs x).2) from by grind[qav,qbN,qca]]
   exact qpz ⟨h1,h3,c4,trivial⟩
  ·skip
   rcases ze (kind==6) with h5 | h5
   ·skip
    have c6:=qkS xs x (by omega)
    have c7:=qkQ xs x (by omega)
    rw[show qav kind xs x=((qca xs x),!(qcY xs x)) from by grind[qav,qbN,qca]]
    exact qpA ⟨h1,h3,h5,c6,c7,trivial⟩
   ·skip
    have c8:=qcZ xs (by omega)
    rw[show qav kind xs x=(xs,true) from by grind[qav,qbN,qca]]
    exact qpB ⟨h1,h3,h5,c8,trivial⟩
def sends(x:Node)(s:Stamp)(key val:Int):List Record:=x.outs.map fun k=>⟨k,s,key,val⟩
def cellOf(r:Record):Cell:=⟨r.op,r.stamp.epoch,r.key,r.val⟩
def qaN(g:Graph)(cs:List Cell)(r:Record)(x:Node):List Cell×List Record×Bool:=
 if qak g&&qao r then
  if !(qap x r.key r.val).2.2&&x.kind != 8 then (cs,[],true)
  else if !(qav x.kind cs ⟨r.op,r.stamp.epoch,r.key,r.val⟩).2 then ((qav x.kind cs ⟨r.op,r.stamp.epoch,r.key,r.val⟩).1,[],true)
  else if x.kind=7 then
   ((qav x.kind cs ⟨r.op,r.stamp.epoch,r.key,r.val⟩).1,(bif (qaW r.stamp).2 then sends x (qaW r.stamp).1 (qap x r.key r.val).1 (qap x r.key r.val).2.1 else []),true)
  else ((qav x.kind cs ⟨r.op,r.stamp.epoch,r.key,r.val⟩).1,sends x r.stamp (qap x r.key r.val).1 (qap x r.key r.val).2.1,true)
 else (cs,[],false)
theorem qli(x:Node)(s:Stamp)(key val:Int){i:Nat}{k:Int}(h:x.outs[i]?=some k):(((x.outs.take (i+1)).map fun k=>(⟨k,s,key,val⟩:Record)).map Record.e)=(((x.outs.take i).map fun k=>(⟨k,s,key,val⟩:Record)).map Record.e)++[(⟨k,s,key,val⟩:Record).e]:=by
 simp[zbe,h]
theorem qlj(x:Node)(hx:x.outs.length≤8388608)(s:Stamp)(key val:Int)(nx:List (List D)):qai prog (qab f61 0) (qdL s.epoch s.turn (x.outs.map eI) key val nx 0 []) (.exit 0) (qc6 nx ((sends x s key val).map Record.e)):=by
 have l:=qaT (P:=prog) (c:=(qab f61 0)) (qaj 0) x.outs.length (fun i:Nat=>qdL s.epoch s.turn (x.outs.map eI) key val nx i (((x.outs.take i).map fun k=>(⟨k,s,key,val⟩:Record)).map Record.e)) (fun i hi=>by
  obtain⟨k,hk⟩:=qah hi
  rw[qli x s key val hk]
  exact qvc ⟨lt1 hi,lt0,lt2 hi,qad eI hk,rfl,by simp;omega,by simp;omega,qbA (Record.flat ⟨k,s,key,val⟩),up1 hi hx,trivial⟩) (qvd ⟨ge1,trivial⟩)
 rw[zC]at l
 exact l
theorem qlk(x:Node)(hx:x.outs.length≤8388608)(b:Bool)(s:Stamp)(key val:Int)(nx:List (List D)):qai prog (qab f61 0) (qcr (x.outs.map eI) key val nx s.epoch s.turn b 0 []) (.exit 0) (qc6 nx ((bif b then sends x s key val else []).map Record.e)):=by
 cases b with
 | true=>
  have l:=qaT (P:=prog) (c:=(qab f61 0)) (qaj 0) x.outs.length (fun i:Nat=>qcr (x.outs.map eI) key val nx s.epoch s.turn true i (((x.outs.take i).map fun k=>(⟨k,s,key,val⟩:Record)).map Record.e)) (fun i hi=>by
   obtain⟨k,hk⟩:=qah hi
   rw[qli x s key val hk]
   exact qu9 ⟨lt1 hi,lt0,lt2 hi,qad eI hk,rfl,by simp;omega,by simp;omega,qbA (Record.flat ⟨k,s,key,val⟩),up1 hi hx,trivial⟩) (qlf ⟨ge1,trivial⟩)
  rw[zC]at l
  exact l
 | false=>
  exact qaT (P:=prog) (c:=(qab f61 0)) (qaj 0) x.outs.length (fun i:Nat=>qcr (x.outs.map eI) key val nx s.epoch s.turn false i []) (fun i hi=>by
   obtain⟨k,hk⟩:=qah hi
   exact qva ⟨lt1 hi,lt0,lt2 hi,qad eI hk,rfl,up1 hi hx,trivial⟩) (qlf ⟨ge1,trivial⟩)
theorem qvq(g:Graph)(cs:List Cell)(r:Record)(x:Node)(hg:g.sz≤8388608)(hl:cs.length≤8388608)(hn:qaU g r.op=some x):Rt 61 [.agg g.e,.one (.sl 4 (cs.map Cell.e)),.agg r.e] [.one (.sl 4 ((qaN g cs r x).1.map Cell.e)),.one (.sl 5 ((qaN g cs r x).2.1.map Record.e)),.one (B (qaN g cs r x).2.2)]:=by
 have hx:=Graph.outs_le hg (qpP hn)
 obtain⟨hk0,hk2,_,_⟩:=qkT hn
 have hk1:g.nodes[r.op.toNat]?=some x:=by have:=hn;unfold qaU at this;rwa[zp hk0]at this
 have c1:=qeb g hg
 rcases ze (qak g) with h2 | h2
 ·skip
  have c3:=qc1 r
  rcases ze (qao r) with h4 | h4
  ·skip
   have c5:=qea g r.op true (by rw[hn];rfl) hg
   have c6:=qtt x r.key r.val hx
   rcases ze ((qap x r.key r.val).2.2) with h7 | h7
   ·skip
    have c8:=qlh x.kind cs (⟨r.op,r.stamp.epoch,r.key,r.val⟩:Cell) (by omega)
    rcases ze ((qav x.kind cs (⟨r.op,r.stamp.epoch,r.key,r.val⟩:Cell)).2) with h9 | h9
    ·skip
     rcases ze (x.kind==7) with h10 | h10
     ·skip
      have c11:=qh2 r.stamp
      
      rw[show qaN g cs r x=(((qav x.kind cs (⟨r.op,r.stamp.epoch,r.key,r.val⟩:Cell)).1),(bif (qaW r.stamp).2 then sends x ((qaW r.stamp).1) ((qap x r.key r.val).1) ((qap x r.key r.val).2.1) else []),true) from by grind[qaN,qcD,qav]]
      exact qvg ⟨c1,(by rw[h2];rfl),c3,(by rw[h4];rfl),c5,rfl,(by first | omega | (simp only[zb,zh];omega) | exact qaM _ Cell.flat _ | grind[inInt]),(by first | omega | (simp only[zb,zh];omega) | exact qaM _ Cell.flat _ | grind[inInt]),(qac Node.e hk1),c6,(by rw[h7];rfl),c8,(by rw[h9];rfl),h10,c11,(qlk x hx ((qaW r.stamp).2) ((qaW r.stamp).1) ((qap x r.key r.val).1) ((qap x r.key r.val).2.1) _),trivial⟩
     ·skip
      
      rw[show qaN g cs r x=(((qav x.kind cs (⟨r.op,r.stamp.epoch,r.key,r.val⟩:Cell)).1),(sends x r.stamp ((qap x r.key r.val).1) ((qap x r.key r.val).2.1)),true) from by grind[qaN,qcD,qav]]
      exact qvh ⟨c1,(by rw[h2];rfl),c3,(by rw[h4];rfl),c5,rfl,(by first | omega | (simp only[zb,zh];omega) | exact qaM _ Cell.flat _ | grind[inInt]),(by first | omega | (simp only[zb,zh];omega) | exact qaM _ Cell.flat _ | grind[inInt]),(qac Node.e hk1),c6,(by rw[h7];rfl),c8,(by rw[h9];rfl),h10,(qlj x hx r.stamp ((qap x r.key r.val).1) ((qap x r.key r.val).2.1) _),trivial⟩
    ·skip
     rw[show qaN g cs r x=(((qav x.kind cs (⟨r.op,r.stamp.epoch,r.key,r.val⟩:Cell)).1),([]:List Record),true) from by grind[qaN,qcD,qav]]
     exact qvf ⟨c1,(by rw[h2];rfl),c3,(by rw[h4];rfl),c5,rfl,(by first | omega | (simp only[zb,zh];omega) | exact qaM _ Cell.flat _ | grind[inInt]),(by first | omega | (simp only[zb,zh];omega) | exact qaM _ Cell.flat _ | grind[inInt]),(qac Node.e hk1),c6,(by rw[h7];rfl),c8,(by rw[h9];rfl),trivial⟩
   ·skip
    rcases ze (x.kind != 8) with h12 | h12
    ·skip
     have c13:=qcZ cs (by omega)
     rw[show qaN g cs r x=(cs,([]:List Record),true) from by grind[qaN,qcD,qav]]
     exact qu7 ⟨c1,(by rw[h2];rfl),c3,(by rw[h4];rfl),c5,rfl,(by first | omega | (simp only[zb,zh];omega) | exact qaM _ Cell.flat _ | grind[inInt]),(by first | omega | (simp only[zb,zh];omega) | exact qaM _ Cell.flat _ | grind[inInt]),(qac Node.e hk1),c6,(by rw[h7];rfl),h12,c13,trivial⟩
    ·skip
     have c14:=qlh x.kind cs (⟨r.op,r.stamp.epoch,r.key,r.val⟩:Cell) (by omega)
     rcases ze ((qav x.kind cs (⟨r.op,r.stamp.epoch,r.key,r.val⟩:Cell)).2) with h15 | h15
     ·skip
      rcases ze (x.kind==7) with h16 | h16
      ·skip
       have c17:=qh2 r.stamp
       
       rw[show qaN g cs r x=(((qav x.kind cs (⟨r.op,r.stamp.epoch,r.key,r.val⟩:Cell)).1),(bif (qaW r.stamp).2 then sends x ((qaW r.stamp).1) ((qap x r.key r.val).1) ((qap x r.key r.val).2.1) else []),true) from by grind[qaN,qcD,qav]]
       exact qvb ⟨c1,(by rw[h2];rfl),c3,(by rw[h4];rfl),c5,rfl,(by first | omega | (simp only[zb,zh];omega) | exact qaM _ Cell.flat _ | grind[inInt]),(by first | omega | (simp only[zb,zh];omega) | exact qaM _ Cell.flat _ | grind[inInt]),(qac Node.e hk1),c6,(by rw[h7];rfl),h12,c14,(by rw[h15];rfl),h16,c17,(qlk x hx ((qaW r.stamp).2) ((qaW r.stamp).1) ((qap x r.key r.val).1) ((qap x r.key r.val).2.1) _),trivial⟩
      ·skip
       
       rw[show qaN g cs r x=(((qav x.kind cs (⟨r.op,r.stamp.epoch,r.key,r.val⟩:Cell)).1),(sends x r.stamp ((qap x r.key r.val).1) ((qap x r.key r.val).2.1)),true) from by grind[qaN,qcD,qav]]
       exact qve ⟨c1,(by rw[h2];rfl),c3,(by rw[h4];rfl),c5,rfl,(by first | omega | (simp only[zb,zh];omega) | exact qaM _ Cell.flat _ | grind[inInt]),(by first | omega | (simp only[zb,zh];omega) | exact qaM _ Cell.flat _ | grind[inInt]),(qac Node.e hk1),c6,(by rw[h7];rfl),h12,c14,(by rw[h15];rfl),h16,(qlj x hx r.stamp ((qap x r.key r.val).1) ((qap x r.key r.val).2.1) _),trivial⟩
     ·skip
      rw[show qaN g cs r x=(((qav x.kind cs (⟨r.op,r.stamp.epoch,r.key,r.val⟩:Cell)).1),([]:List Record),true) from by grind[qaN,qcD,qav]]
      exact qu8 ⟨c1,(by rw[h2];rfl),c3,(by rw[h4];rfl),c5,rfl,(by first | omega | (simp only[zb,zh];omega) | exact qaM _ Cell.flat _ | grind[inInt]),(by first | omega | (simp only[zb,zh];omega) | exact qaM _ Cell.flat _ | grind[inInt]),(qac Node.e hk1),c6,(by rw[h7];rfl),h12,c14,(by rw[h15];rfl),trivial⟩
  ·skip
   have c18:=qcZ cs (by omega)
   rw[show qaN g cs r x=(cs,([]:List Record),false) from by grind[qaN,qcD,qav]]
   exact qle ⟨c1,(by rw[h2];rfl),c3,(by rw[h4];rfl),c18,trivial⟩
 ·skip
  have c19:=qcZ cs (by omega)
  rw[show qaN g cs r x=(cs,([]:List Record),false) from by grind[qaN,qcD,qav]]
  exact qld ⟨c1,(by rw[h2];rfl),c19,trivial⟩
end Go.Proofs.YtenekpkjlgddnaaGreat
namespace Go.Proofs.YtenekpkjlgddnaaGreat
open Go.Sx Go.RowKit Go.Proofs.Tryz
def qaO(g:Graph)(cs:List Cell)(r:Record):List Cell×List Record×Bool:=match qaU g r.op with | some x=>qaN g cs r x | none=>(cs,[],false)
theorem qvr(g:Graph)(cs:List Cell)(r:Record)(hg:g.sz≤8388608)(hl:cs.length≤8388608):Rt 61 [.agg g.e,.one (.sl 4 (cs.map Cell.e)),.agg r.e] [.one (.sl 4 ((qaO g cs r).1.map Cell.e)),.one (.sl 5 ((qaO g cs r).2.1.map Record.e)),.one (B (qaO g cs r).2.2)]:=by
 unfold qaO
 cases h:qaU g r.op with
 | some x=>exact qvq g cs r x hg hl h
 | none=>
  have c1:=qeb g hg
  have c2:=qc1 r
  have c3:=qea g r.op false (by rw[h];rfl) hg
  have cp:=qcZ cs hl
  generalize qak g=b1 at*
  generalize qao r=b2 at*
  cases b1 with
  | false=>exact qld ⟨c1,rfl,cp,trivial⟩
  | true=>
   cases b2 with
   | false=>exact qle ⟨c1,rfl,c2,rfl,cp,trivial⟩
   | true=>exact qu6 ⟨c1,rfl,c2,rfl,c3,rfl,cp,trivial⟩
def qcs(g:Graph)(r:Record)(x:Node):Bool:=qak g&&qao r&&x.kind==7&&decide (0<x.outs.length)&&!(qaW r.stamp).2
def capped(g:Graph)(r:Record):Bool:=match qaU g r.op with | some x=>qcs g r x | none=>false
theorem qvs{g:Graph}(h:qak g=true){op:Int}{x:Node}(hn:qaU g op=some x):qaa x=true:=by
 simp only[qak,zj,zS]at h
 unfold qaU at hn
 split at hn
 ·have:=qfQ h.2 op.toNat x hn
  simp only[qaX,zy,zX]at this
  exact this.1.1
 ·cases hn
theorem qvt{x:Node}(h:qaa x=true):x.outs.length≤2:=by
 simp only[qaa,zj,zi]at h
 exact h.1.1.1.2
theorem qvu(kind:Int)(cs:List Cell)(x:Cell):(qav kind cs x).1.length≤cs.length+1:=by
 have h1:=qkP cs x
 have h2:=qkP (cs.filter fun a=>!qbd x a) x
 have h3:=zat (fun a=>!qbd x a) cs
 unfold qav
 split
 ·split<;>simp<;>omega
 ·split
  ·unfold qbN
   split<;>simp<;>omega
  ·simp
theorem qvv{g:Graph}(hg:qak g=true)(cs:List Cell)(r:Record):(qaO g cs r).1.length≤cs.length+1∧(qaO g cs r).2.1.length≤2:=by
 unfold qaO
 cases h:qaU g r.op with
 | none=>exact⟨by simp,by simp⟩
 | some x=>
  have hx:=qvt (qvs hg h)
  have hr:=qvu x.kind cs ⟨r.op,r.stamp.epoch,r.key,r.val⟩
  have hs:∀s k v,(sends x s k v).length≤2:=fun s k v=>by simpa[sends]using hx
  simp only[qaN]
  split
  ·split
   ·exact⟨by simp,by simp⟩
   ·split
    ·exact⟨hr,by simp⟩
    ·split
     ·refine⟨hr,?_⟩
      cases (qaW r.stamp).2 with
      | true=>exact hs _ _ _
      | false=>simp
     ·exact⟨hr,hs _ _ _⟩
  ·exact⟨by simp,by simp⟩
end Go.Proofs.YtenekpkjlgddnaaGreat
