import Derived.Test.YtdchjefneblpgaaGreatP15
set_option linter.unusedVariables false
set_option linter.unusedSimpArgs false
namespace Go.Proofs.YtdchjefneblpgaaGreat
open Go.Sx Go.RowKit Go.Proofs.Tryz
def hv(g:bR)(k:Int):Int:=match g.nodes[k.toNat]? with | some y=>y.kind | none=>0
def fG(g:bR)(i:Nat)(x:Node)(k:Int):Bool:=
 decide ((g.nodes.length:Int)<=k)||(if x.kind=7 then decide ((i:Int)<k)||(hv g k != 5&&hv g k != 6) else decide (k<=i))
def iw(g:bR)(i:Nat)(x:Node):Bool:=!aN x||(decide (x.kind=1) != decide ((i:Int)=0))||x.outs.any (fG g i x)
def dY(g:bR):Bool:=aq g.nodes.length 1 8&&aq g.ay 1 4&&aq g.cap 1 4&&!(anyI (iw g) 0 g.nodes)
def cK(x:Node)(k v:Int):Int×Int×Bool:=
 if aN x&&eY k v then
  if x.kind=2 then (k,less (v+x.a) 999,true)
  else if x.kind=4 then ((k+x.a).tmod 100,v,true)
  else if x.kind=3 then (k,v,k.tmod x.a==x.b)
  else (k,v,x.kind != 8)
 else (k,v,false)
theorem Ka{l:List Int}(h:l6 l=true){k:Int}(hk:k∈l):aq k 0 7=true:=by
 grind[l6,h8,hd]
theorem QB(g:bR)(av:g.sz<=8388608)(i:Nat)(hi:i<8)(x:Node)(ak:g.nodes[i]?=some x)(cJ:aN x=true)(j:Nat)(k:Int)(hk:x.outs[j]?=some k)(r:Bool)(aH:fG g i x k=r):gf prog (ao f121 1) (hs i (g.nodes.map Node.e) g.ay g.cap x.kind x.a x.b (x.outs.map a6) (j:Int)) (bif r then .ret else .normal) (bif r then qh false else hs i (g.nodes.map Node.e) g.ay g.cap x.kind x.a x.b (x.outs.map a6) ((j+1:Nat):Int)):=by
 have bg:=a1 hk;have ap:x.outs.length<=2:=by grind[aN]
 have l0:aq k 0 7=true:=Ka (by grind[aN]) (eA hk);have dd:x.outs[(j:Int).toNat]?=some k:=by grind
 have dV:decide ((j:Int)<(↑(x.outs.map a6).length:Int))=true:=b6 bg;rcases cD (decide (k>=(↑(g.nodes.map Node.e).length:Int))) with h1 | h1
 ·skip
  obtain rfl:r=true:=by grind[fG,hv,aq]
  exact aoZ ⟨dV,(by grind),(by grind),(bC a6 dd),h1,aa⟩
 skip
 rcases cD (x.kind != 7) with U | U
 ·skip
  rcases cD (decide (k<=(i:Int))) with ax | ax
  ·skip
   obtain rfl:r=true:=by grind[fG,hv,aq]
   exact ao0 ⟨dV,(by grind),(by grind),(bC a6 dd),h1,U,ax,aa⟩
  skip
  obtain⟨Vj,yE⟩:=look (xs:=g.nodes) (i:=k) (by grind) (by grind);rcases cD (x.kind==7) with aY | aY
  ·skip
   rcases cD (decide (k>(i:Int))) with bx | bx
   ·skip
    obtain rfl:r=true:=by rw[<-aH];grind[fG,hv,aq]
    exact ao1 ⟨dV,(by grind[aq,aI,aN]),(by grind[aq,aI,aN]),(bC a6 dd),h1,U,ax,(by grind[aq,aI,aN]),(by grind[aq,aI,aN]),(bC Node.e yE),aY,bx,aa⟩
   skip
   rcases cD (Vj.kind != 5) with bN | bN
   ·skip
    rcases cD (Vj.kind != 6) with db | db
    ·skip
     obtain rfl:r=true:=by rw[<-aH];grind[fG,hv,aq]
     exact aoc ⟨dV,(by grind[aq,aI,aN]),(by grind[aq,aI,aN]),(bC a6 dd),h1,U,ax,(by grind[aq,aI,aN]),(by grind[aq,aI,aN]),(bC Node.e yE),aY,bx,bN,db,aa⟩
    skip
    obtain rfl:r=false:=by rw[<-aH];grind[fG,hv,aq]
    exact aod ⟨dV,(by grind[aq,aI,aN]),(by grind[aq,aI,aN]),(bC a6 dd),h1,U,ax,(by grind[aq,aI,aN]),(by grind[aq,aI,aN]),(bC Node.e yE),aY,bx,bN,db,(by grind[aq,aI,aN]),aa⟩
   skip
   obtain rfl:r=false:=by rw[<-aH];grind[fG,hv,aq]
   exact aoe ⟨dV,(by grind[aq,aI,aN]),(by grind[aq,aI,aN]),(bC a6 dd),h1,U,ax,(by grind[aq,aI,aN]),(by grind[aq,aI,aN]),(bC Node.e yE),aY,bx,bN,(by grind[aq,aI,aN]),aa⟩
  skip
  obtain rfl:r=false:=by grind[fG,hv,aq]
  exact aof ⟨dV,(by grind),(by grind),(bC a6 dd),h1,U,ax,(by grind),(by grind),(bC Node.e yE),aY,(by grind[aq,aI,aN]),aa⟩
 skip
 obtain⟨EE,rr⟩:=look (xs:=g.nodes) (i:=k) (by grind[aq,aI,aN]) (by grind);rcases cD (x.kind==7) with dy | dy
 ·skip
  rcases cD (decide (k>(i:Int))) with hj | hj
  ·skip
   obtain rfl:r=true:=by grind[fG,hv,aq]
   exact aog ⟨dV,(by grind),(by grind),(bC a6 dd),h1,U,(by grind),(by grind),(bC Node.e rr),dy,hj,aa⟩
  skip
  rcases cD (EE.kind != 5) with hB | hB
  ·skip
   rcases cD (EE.kind != 6) with ss | ss
   ·skip
    obtain rfl:r=true:=by grind[fG,hv,aq]
    exact aoh ⟨dV,(by grind),(by grind),(bC a6 dd),h1,U,(by grind[aq,aI,aN]),(by grind),(bC Node.e rr),dy,hj,hB,ss,aa⟩
   skip
   obtain rfl:r=false:=by grind[fG,hv,aq]
   exact aoi ⟨dV,(by grind),(by grind),(bC a6 dd),h1,U,(by grind[aq,aI,aN]),(by grind),(bC Node.e rr),dy,hj,hB,ss,(by grind[aq,aI,aN]),aa⟩
  skip
  obtain rfl:r=false:=by grind[fG,hv,aq]
  exact aoj ⟨dV,(by grind),(by grind),(bC a6 dd),h1,U,(by grind[aq,aI,aN]),(by grind),(bC Node.e rr),dy,hj,hB,(by grind[aq,aI,aN]),aa⟩
 skip
 obtain rfl:r=false:=by rw[<-aH];grind[fG,hv,aq]
 exact aok ⟨dV,(by grind[aq,aI,aN]),(by grind[aq,aI,aN]),(bC a6 dd),h1,U,(by grind[aq,aI,aN]),(by grind[aq,aI,aN]),(bC Node.e rr),dy,(by grind[aq,aI,aN]),aa⟩
theorem QC(g:bR)(av:g.sz<=8388608)(i:Nat)(hi:i<8)(x:Node)(ak:g.nodes[i]?=some x)(cJ:aN x=true)(j:Nat)(k:Int)(hk:x.outs[j]?=some k)(r:Bool)(aH:fG g i x k=r):gf prog (ao f179 1) (ht (g.nodes.map Node.e) i (g.nodes.map Node.e) g.ay g.cap x.kind x.a x.b (x.outs.map a6) (j:Int)) (bif r then .ret else .normal) (bif r then qi false else ht (g.nodes.map Node.e) i (g.nodes.map Node.e) g.ay g.cap x.kind x.a x.b (x.outs.map a6) ((j+1:Nat):Int)):=by
 have bg:=a1 hk;have ap:x.outs.length<=2:=by grind[aN]
 have l0:aq k 0 7=true:=Ka (by grind[aN]) (eA hk);have dd:x.outs[(j:Int).toNat]?=some k:=by grind
 have dV:decide ((j:Int)<(↑(x.outs.map a6).length:Int))=true:=b6 bg;rcases cD (decide (k>=(↑(g.nodes.map Node.e).length:Int))) with h1 | h1
 ·skip
  obtain rfl:r=true:=by grind[fG,hv,aq]
  exact aow ⟨dV,(by grind),(by grind),(bC a6 dd),h1,aa⟩
 skip
 obtain⟨e0,ks⟩:=look (xs:=g.nodes) (i:=k) (by grind[aq,aI,aN]) (by grind);rcases cD (x.kind==7) with ax | ax
 ·skip
  rcases cD (decide (k>(i:Int))) with aJ | aJ
  ·skip
   obtain rfl:r=true:=by grind[fG,hv,aq]
   exact aox ⟨dV,(by grind),(by grind),(bC a6 dd),h1,(by grind),(by grind),(bC Node.e ks),ax,aJ,aa⟩
  skip
  rcases cD (e0.kind != 5) with aY | aY
  ·skip
   rcases cD (e0.kind != 6) with bx | bx
   ·skip
    obtain rfl:r=true:=by grind[fG,hv,aq]
    exact aoy ⟨dV,(by grind),(by grind),(bC a6 dd),h1,(by grind[aq,aI,aN]),(by grind),(bC Node.e ks),ax,aJ,aY,bx,aa⟩
   skip
   rcases cD (x.kind != 7) with bN | bN
   ·skip
    rcases cD (decide (k<=(i:Int))) with db | db
    ·skip
     obtain rfl:r=true:=by rw[<-aH];grind[fG,hv,aq]
     exact aoz ⟨dV,(by grind[aq,aI,aN]),(by grind[aq,aI,aN]),(bC a6 dd),h1,(by grind[aq,aI,aN]),(by grind[aq,aI,aN]),(bC Node.e ks),ax,aJ,aY,bx,bN,db,aa⟩
    skip
    obtain rfl:r=false:=by rw[<-aH];grind[fG,hv,aq]
    exact aoA ⟨dV,(by grind[aq,aI,aN]),(by grind[aq,aI,aN]),(bC a6 dd),h1,(by grind[aq,aI,aN]),(by grind[aq,aI,aN]),(bC Node.e ks),ax,aJ,aY,bx,bN,db,(by grind[aq,aI,aN]),aa⟩
   skip
   obtain rfl:r=false:=by grind[fG,hv,aq]
   exact aoB ⟨dV,(by grind),(by grind),(bC a6 dd),h1,(by grind[aq,aI,aN]),(by grind),(bC Node.e ks),ax,aJ,aY,bx,bN,(by grind[aq,aI,aN]),aa⟩
  skip
  rcases cD (x.kind != 7) with dQ | dQ
  ·skip
   rcases cD (decide (k<=(i:Int))) with dy | dy
   ·skip
    obtain rfl:r=true:=by rw[<-aH];grind[fG,hv,aq]
    exact an2 ⟨dV,(by grind[aq,aI,aN]),(by grind[aq,aI,aN]),(bC a6 dd),h1,(by grind[aq,aI,aN]),(by grind[aq,aI,aN]),(bC Node.e ks),ax,aJ,aY,dQ,dy,aa⟩
   skip
   obtain rfl:r=false:=by rw[<-aH];grind[fG,hv,aq]
   exact an3 ⟨dV,(by grind[aq,aI,aN]),(by grind[aq,aI,aN]),(bC a6 dd),h1,(by grind[aq,aI,aN]),(by grind[aq,aI,aN]),(bC Node.e ks),ax,aJ,aY,dQ,dy,(by grind[aq,aI,aN]),aa⟩
  skip
  obtain rfl:r=false:=by grind[fG,hv,aq]
  exact an4 ⟨dV,(by grind),(by grind),(bC a6 dd),h1,(by grind[aq,aI,aN]),(by grind),(bC Node.e ks),ax,aJ,aY,dQ,(by grind[aq,aI,aN]),aa⟩
 skip
 rcases cD (x.kind != 7) with hj | hj
 ·skip
  rcases cD (decide (k<=(i:Int))) with hB | hB
  ·skip
   obtain rfl:r=true:=by grind[fG,hv,aq]
   exact an5 ⟨dV,(by grind),(by grind),(bC a6 dd),h1,(by grind[aq,aI,aN]),(by grind),(bC Node.e ks),ax,hj,hB,aa⟩
  skip
  obtain rfl:r=false:=by grind[fG,hv,aq]
  exact an6 ⟨dV,(by grind),(by grind),(bC a6 dd),h1,(by grind),(by grind),(bC Node.e ks),ax,hj,hB,(by grind[aq,aI,aN]),aa⟩
 skip
 obtain rfl:r=false:=by rw[<-aH];grind[fG,hv,aq]
 exact an7 ⟨dV,(by grind[aq,aI,aN]),(by grind[aq,aI,aN]),(bC a6 dd),h1,(by grind[aq,aI,aN]),(by grind[aq,aI,aN]),(bC Node.e ks),ax,hj,(by grind[aq,aI,aN]),aa⟩
theorem YP(g:bR)(av:g.sz<=8388608)(i:Nat)(hi:i<8)(x:Node)(ak:g.nodes[i]?=some x)(cJ:aN x=true):
  (x.outs.any (fG g i x)=true/\cV prog (ao f121 1) (hs i (g.nodes.map Node.e) g.ay g.cap x.kind x.a x.b (x.outs.map a6) 0) .ret (qh false))\/(x.outs.any (fG g i x)=false/\cV prog (ao f121 1) (hs i (g.nodes.map Node.e) g.ay g.cap x.kind x.a x.b (x.outs.map a6) 0) (.exit 2) (J4 i (g.nodes.map Node.e) g.ay g.cap)):=by
 have l:=gy (P:=prog) (c:=(ao f121 1)) x.outs (fG g i x) (fun j=>hs i (g.nodes.map Node.e) g.ay g.cap x.kind x.a x.b (x.outs.map a6) j) (X:=fun _ _=>qh false) e7 (cH 2)
  (fun j k hk h=>QB g av i hi x ak cJ j k hk false h)
  (fun j k hk h=>QB g av i hi x ak cJ j k hk true h)
  (aol ⟨dz,aa⟩)
 grind
theorem YQ(g:bR)(av:g.sz<=8388608)(i:Nat)(hi:i<8)(x:Node)(ak:g.nodes[i]?=some x)(cJ:aN x=true):
  (x.outs.any (fG g i x)=true/\cV prog (ao f179 1) (ht (g.nodes.map Node.e) i (g.nodes.map Node.e) g.ay g.cap x.kind x.a x.b (x.outs.map a6) 0) .ret (qi false))\/(x.outs.any (fG g i x)=false/\cV prog (ao f179 1) (ht (g.nodes.map Node.e) i (g.nodes.map Node.e) g.ay g.cap x.kind x.a x.b (x.outs.map a6) 0) (.exit 2) (J6 (g.nodes.map Node.e) i (g.nodes.map Node.e) g.ay g.cap)):=by
 have l:=gy (P:=prog) (c:=(ao f179 1)) x.outs (fG g i x) (fun j=>ht (g.nodes.map Node.e) i (g.nodes.map Node.e) g.ay g.cap x.kind x.a x.b (x.outs.map a6) j) (X:=fun _ _=>qi false) e7 (cH 2)
  (fun j k hk h=>QC g av i hi x ak cJ j k hk false h)
  (fun j k hk h=>QC g av i hi x ak cJ j k hk true h)
  (an8 ⟨dz,aa⟩)
 grind
theorem QD(g:bR)(av:g.sz<=8388608)(i:Nat)(hi:i<8)(x:Node)(ak:g.nodes[i]?=some x)(r:Bool)(aH:iw g i x=r):gf prog (ao f121 0) (nq ((i:Nat):Int) (g.nodes.map Node.e) g.ay g.cap) (bif r then .ret else .normal) (bif r then uK false else nq ((i+1:Nat):Int) (g.nodes.map Node.e) g.ay g.cap):=by
 have bg:=a1 ak;have aZ:=bR.yR av (eA ak);have dd:g.nodes[(i:Int).toNat]?=some x:=by grind
 have dV:decide ((i:Int)<(↑(g.nodes.map Node.e).length:Int))=true:=b6 bg;have c1:=Qz x (by grind);rcases cD (aN x) with U | U
 ·skip
  rcases cD ((x.kind==1)==((i:Int)==0)) with ax | ax
  ·skip
   rcases YP g av i hi x ak (by grind) with⟨cv,l⟩ | ⟨cv,l⟩
   ·skip
    obtain rfl:r=true:=by grind[iw]
    exact aom ⟨dV,(by grind),(by grind),(bC Node.e dd),c1,(by rw[U];rfl),(by rw[ax];rfl),l,aa⟩
   skip
   obtain rfl:r=false:=by grind[iw]
   exact aon ⟨dV,(by grind),(by grind),(bC Node.e dd),c1,(by rw[U];rfl),(by rw[ax];rfl),l,(by grind[aq,aI,aN]),aa⟩
  skip
  obtain rfl:r=true:=by grind[iw]
  exact aoY ⟨dV,(by grind),(by grind),(bC Node.e dd),c1,(by rw[U];rfl),(by rw[ax];rfl),aa⟩
 skip
 obtain rfl:r=true:=by grind[iw]
 exact aoX ⟨dV,(by grind),(by grind),(bC Node.e dd),c1,(by rw[U];rfl),aa⟩
theorem QE(g:bR)(av:g.sz<=8388608)(i:Nat)(hi:i<8)(x:Node)(ak:g.nodes[i]?=some x)(r:Bool)(aH:iw g i x=r):gf prog (ao f179 0) (nr (g.nodes.map Node.e) ((i:Nat):Int) (g.nodes.map Node.e) g.ay g.cap) (bif r then .ret else .normal) (bif r then uL false else nr (g.nodes.map Node.e) ((i+1:Nat):Int) (g.nodes.map Node.e) g.ay g.cap):=by
 have bg:=a1 ak;have aZ:=bR.yR av (eA ak);have dd:g.nodes[(i:Int).toNat]?=some x:=by grind
 have dV:decide ((i:Int)<(↑(g.nodes.map Node.e).length:Int))=true:=b6 bg;have c1:=QA x (by grind);rcases cD (aN x) with U | U
 ·skip
  rcases cD ((x.kind==1)==((i:Int)==0)) with ax | ax
  ·skip
   rcases YQ g av i hi x ak (by grind) with⟨cv,l⟩ | ⟨cv,l⟩
   ·skip
    obtain rfl:r=true:=by grind[iw]
    exact an9 ⟨dV,(by grind),(by grind),(bC Node.e dd),c1,(by rw[U];rfl),(by rw[ax];rfl),l,aa⟩
   skip
   obtain rfl:r=false:=by grind[iw]
   exact aoa ⟨dV,(by grind),(by grind),(bC Node.e dd),c1,(by rw[U];rfl),(by rw[ax];rfl),l,(by grind[aq,aI,aN]),aa⟩
  skip
  obtain rfl:r=true:=by grind[iw]
  exact aov ⟨dV,(by grind),(by grind),(bC Node.e dd),c1,(by rw[U];rfl),(by rw[ax];rfl),aa⟩
 skip
 obtain rfl:r=true:=by grind[iw]
 exact aou ⟨dV,(by grind),(by grind),(bC Node.e dd),c1,(by rw[U];rfl),aa⟩
theorem YR(g:bR)(av:g.sz<=8388608)(db:g.nodes.length<=8):
  (anyI (iw g) 0 g.nodes=true/\cV prog (ao f121 0) (nq 0 (g.nodes.map Node.e) g.ay g.cap) .ret (uK false))\/(anyI (iw g) 0 g.nodes=false/\cV prog (ao f121 0) (nq 0 (g.nodes.map Node.e) g.ay g.cap) (.exit 0) J5):=by
 have l:=s9 (P:=prog) (c:=(ao f121 0)) g.nodes (iw g) (fun i=>nq (i:Nat) (g.nodes.map Node.e) g.ay g.cap) (X:=uK false) e7 (cH 0)
  (fun i x ak h=>QD g av i (by grind) x ak false h)
  (fun i x ak h=>QD g av i (by grind) x ak true h)
  (aoo ⟨dz,aa⟩)
 grind
theorem YS(g:bR)(av:g.sz<=8388608)(db:g.nodes.length<=8):
  (anyI (iw g) 0 g.nodes=true/\cV prog (ao f179 0) (nr (g.nodes.map Node.e) 0 (g.nodes.map Node.e) g.ay g.cap) .ret (uL false))\/(anyI (iw g) 0 g.nodes=false/\cV prog (ao f179 0) (nr (g.nodes.map Node.e) 0 (g.nodes.map Node.e) g.ay g.cap) (.exit 0) J7):=by
 have l:=s9 (P:=prog) (c:=(ao f179 0)) g.nodes (iw g) (fun i=>nr (g.nodes.map Node.e) (i:Nat) (g.nodes.map Node.e) g.ay g.cap) (X:=uL false) e7 (cH 0)
  (fun i x ak h=>QE g av i (by grind) x ak false h)
  (fun i x ak h=>QE g av i (by grind) x ak true h)
  (aob ⟨dz,aa⟩)
 grind
theorem w7(g:bR)(av:g.sz<=8388608):ar 121 [.agg g.e] [.one (B (dY g))]:=by
 have c1:=hI (↑(g.nodes.map Node.e).length:Int) 1 8;rcases cD (aq (↑(g.nodes.map Node.e).length:Int) 1 8) with U | U
 ·skip
  have cu:=hI g.ay 1 4;rcases cD (aq g.ay 1 4) with aJ | aJ
  ·skip
   have fJ:=hI g.cap 1 4;rcases cD (aq g.cap 1 4) with bx | bx
   ·skip
    rcases YR g av (by grind[aq]) with⟨cv,l⟩ | ⟨cv,l⟩
    ·skip
     rw[show dY g=false from by grind[dY]];exact aop ⟨c1,(by rw[U];rfl),cu,(by rw[aJ];rfl),fJ,(by rw[bx];rfl),l,aa⟩
    skip
    rw[show dY g=true from by grind[dY]];exact aoq ⟨c1,(by rw[U];rfl),cu,(by rw[aJ];rfl),fJ,(by rw[bx];rfl),l,aa⟩
   skip
   rw[show dY g=false from by grind[dY]];exact aoW ⟨c1,(by rw[U];rfl),cu,(by rw[aJ];rfl),fJ,(by rw[bx];rfl),aa⟩
  skip
  rw[show dY g=false from by grind[dY]];exact aoV ⟨c1,(by rw[U];rfl),cu,(by rw[aJ];rfl),aa⟩
 skip
 rw[show dY g=false from by grind[dY]];exact aoU ⟨c1,(by rw[U];rfl),aa⟩
theorem w8(g:bR)(av:g.sz<=8388608):ar 179 [.agg g.e] [.one (B (dY g))]:=by
 have c1:=jU (↑(g.nodes.map Node.e).length:Int) 1 8;rcases cD (aq (↑(g.nodes.map Node.e).length:Int) 1 8) with U | U
 ·skip
  have cu:=jU g.ay 1 4;rcases cD (aq g.ay 1 4) with aJ | aJ
  ·skip
   have fJ:=jU g.cap 1 4;rcases cD (aq g.cap 1 4) with bx | bx
   ·skip
    rcases YS g av (by grind[aq]) with⟨cv,l⟩ | ⟨cv,l⟩
    ·skip
     rw[show dY g=false from by grind[dY]];exact apD ⟨c1,(by rw[U];rfl),cu,(by rw[aJ];rfl),fJ,(by rw[bx];rfl),l,aa⟩
    skip
    rw[show dY g=true from by grind[dY]];exact apE ⟨c1,(by rw[U];rfl),cu,(by rw[aJ];rfl),fJ,(by rw[bx];rfl),l,aa⟩
   skip
   rw[show dY g=false from by grind[dY]];exact aot ⟨c1,(by rw[U];rfl),cu,(by rw[aJ];rfl),fJ,(by rw[bx];rfl),aa⟩
  skip
  rw[show dY g=false from by grind[dY]];exact aos ⟨c1,(by rw[U];rfl),cu,(by rw[aJ];rfl),aa⟩
 skip
 rw[show dY g=false from by grind[dY]];exact aor ⟨c1,(by rw[U];rfl),aa⟩
theorem YT(x:Node)(k v:Int)(ak:x.outs.length<=8388608):ar 267 [.agg x.e,.one (I k),.one (I v)] [.one (I ((cK x k v).1)),.one (I ((cK x k v).2.1)),.one (B ((cK x k v).2.2))]:=by
 have c1:=Qz x (by grind);rcases cD (aN x) with U | U
 ·skip
  have cu:=hI k 0 99;rcases cD (aq k 0 99) with aJ | aJ
  ·skip
   have fJ:=hI v 0 999;rcases cD (aq v 0 999) with bx | bx
   ·skip
    rcases cD (x.kind==2) with bN | bN
    ·skip
     have lg:=arc (v+x.a) 999;rw[show cK x k v=(k,less (v+x.a) 999,true) from by grind[cK,eY,less,aN,bI]];exact apZ ⟨c1,(by rw[U];rfl),cu,(by rw[aJ];rfl),fJ,(by rw[bx];rfl),bN,(by grind[aN,bI,aq,aI,eY]),lg,aa⟩
    skip
    rcases cD (x.kind==4) with dQ | dQ
    ·skip
     rw[show cK x k v=((k+x.a).tmod 100,v,true) from by grind[cK,eY,less,aN,bI]];exact ap0 ⟨c1,(by rw[U];rfl),cu,(by rw[aJ];rfl),fJ,(by rw[bx];rfl),bN,dQ,(by grind[aN,bI,aq,aI,eY]),(by grind),aa⟩
    skip
    rcases cD (x.kind==3) with dy | dy
    ·skip
     rw[show cK x k v=(k,v,k.tmod x.a==x.b) from by grind[cK,eY,less,aN,bI]];exact ap1 ⟨c1,(by rw[U];rfl),cu,(by rw[aJ];rfl),fJ,(by rw[bx];rfl),bN,dQ,dy,(by grind[aN,bI,aq,aI,eY]),aa⟩
    skip
    rw[show cK x k v=(k,v,x.kind != 8) from by grind[cK,eY,less,aN,bI]];exact ap2 ⟨c1,(by rw[U];rfl),cu,(by rw[aJ];rfl),fJ,(by rw[bx];rfl),bN,dQ,dy,aa⟩
   skip
   rw[show cK x k v=(k,v,false) from by grind[cK,eY,less,aN,bI]];exact apY ⟨c1,(by rw[U];rfl),cu,(by rw[aJ];rfl),fJ,(by rw[bx];rfl),aa⟩
  skip
  rw[show cK x k v=(k,v,false) from by grind[cK,eY,less,aN,bI]];exact apX ⟨c1,(by rw[U];rfl),cu,(by rw[aJ];rfl),aa⟩
 skip
 rw[show cK x k v=(k,v,false) from by grind[cK,eY,less,aN,bI]];exact apW ⟨c1,(by rw[U];rfl),aa⟩
theorem YU(x:Node)(k v:Int)(ak:x.outs.length<=8388608):ar 298 [.agg x.e,.one (I k),.one (I v)] [.one (I ((cK x k v).1)),.one (I ((cK x k v).2.1)),.one (B ((cK x k v).2.2))]:=by
 have c1:=QA x (by grind);rcases cD (aN x) with U | U
 ·skip
  have cu:=Qy k v;rcases cD (eY k v) with aJ | aJ
  ·skip
   rcases cD (x.kind==2) with aY | aY
   ·skip
    rw[show cK x k v=(k,if v+x.a<999 then v+x.a else 999,true) from by grind[cK,eY,less,aN,bI]];exact ape ⟨c1,(by rw[U];rfl),cu,(by rw[aJ];rfl),aY,(by grind[aN,bI,aq,aI,eY]),aa⟩
   skip
   rcases cD (x.kind==4) with bx | bx
   ·skip
    rw[show cK x k v=((k+x.a).tmod 100,v,true) from by grind[cK,eY,less,aN,bI]];exact apf ⟨c1,(by rw[U];rfl),cu,(by rw[aJ];rfl),aY,bx,(by grind[aN,bI,aq,aI,eY]),(by grind),aa⟩
   skip
   rcases cD (x.kind==3) with bN | bN
   ·skip
    rw[show cK x k v=(k,v,k.tmod x.a==x.b) from by grind[cK,eY,less,aN,bI]];exact apg ⟨c1,(by rw[U];rfl),cu,(by rw[aJ];rfl),aY,bx,bN,(by grind[aN,bI,aq,aI,eY]),aa⟩
   skip
   rw[show cK x k v=(k,v,x.kind != 8) from by grind[cK,eY,less,aN,bI]];exact aph ⟨c1,(by rw[U];rfl),cu,(by rw[aJ];rfl),aY,bx,bN,aa⟩
  skip
  rw[show cK x k v=(k,v,false) from by grind[cK,eY,less,aN,bI]];exact apd ⟨c1,(by rw[U];rfl),cu,(by rw[aJ];rfl),aa⟩
 skip
 rw[show cK x k v=(k,v,false) from by grind[cK,eY,less,aN,bI]];exact apc ⟨c1,(by rw[U];rfl),aa⟩
def eJ(a b:Cell):Bool:=a.op==b.op&&a.bc==b.bc&&a.key==b.key
def gM(op cB key:Int)(s:Int×Bool)(a:Cell):Int×Bool:=if a.op=op/\a.bc=cB/\a.key=key/\(s.2=false\/a.val<s.1) then (a.val,true) else s
def pB(xs:List Cell)(op cB key:Int):Int×Bool:=xs.foldl (gM op cB key) (0,false)
theorem QF(a b:Cell):ar 347 [.agg a.e,.agg b.e] [.one (B (eJ a b))]:=by
 rcases cD (a.op==b.op) with h1 | h1
 ·skip
  rcases cD (a.bc==b.bc) with U | U
  ·skip
   rw[show eJ a b=(a.key==b.key) from by grind[eJ]];exact al3 ⟨h1,U,aa⟩
  skip
  rw[show eJ a b=false from by grind[eJ]];exact al4 ⟨h1,U,aa⟩
 skip
 rw[show eJ a b=false from by grind[eJ]];exact al5 ⟨h1,aa⟩
theorem YV(xs:List Cell)(ap:xs.length<=8388608)(op cB key m:Int)(f:Bool)(i:Nat)(a:Cell)(ah:xs[i]?=some a):gf prog (ao f324 0) (kz (xs.map Cell.e) op cB key i f m) .normal (kz (xs.map Cell.e) op cB key ((i+1:Nat):Int) (gM op cB key (m,f) a).2 (gM op cB key (m,f) a).1):=by
 have bg:=a1 ah;have dd:xs[(i:Int).toNat]?=some a:=by grind
 have dV:decide ((i:Int)<(↑(xs.map Cell.e).length:Int))=true:=b6 bg;rcases cD (a.op==op) with h1 | h1
 ·skip
  rcases cD (a.bc==cB) with U | U
  ·skip
   rcases cD (a.key==key) with ax | ax
   ·skip
    rcases cD (f) with aJ | aJ
    ·skip
     rcases cD (decide (a.val<m)) with aY | aY
     ·skip
      rw[show gM op cB key (m,f) a=(a.val,true) from by grind[gM,eJ]];exact ani ⟨dV,(by grind[aI]),(by grind[aI]),(bC Cell.e dd),h1,U,ax,(by rw[aJ];rfl),aY,(by grind[aI]),aa⟩
     skip
     rw[show gM op cB key (m,f) a=(m,f) from by grind[gM,eJ]];exact anj ⟨dV,(by grind[aI]),(by grind[aI]),(bC Cell.e dd),h1,U,ax,(by rw[aJ];rfl),aY,(by grind[aI]),aa⟩
    skip
    rw[show gM op cB key (m,f) a=(a.val,true) from by grind[gM,eJ]];exact anh ⟨dV,(by grind[aI]),(by grind[aI]),(bC Cell.e dd),h1,U,ax,(by rw[aJ];rfl),(by grind[aI]),aa⟩
   skip
   rw[show gM op cB key (m,f) a=(m,f) from by grind[gM,eJ]];exact ank ⟨dV,(by grind[aI]),(by grind[aI]),(bC Cell.e dd),h1,U,ax,(by grind[aI]),aa⟩
  skip
  rw[show gM op cB key (m,f) a=(m,f) from by grind[gM,eJ]];exact anl ⟨dV,(by grind[aI]),(by grind[aI]),(bC Cell.e dd),h1,U,(by grind[aI]),aa⟩
 skip
 rw[show gM op cB key (m,f) a=(m,f) from by grind[gM,eJ]];exact anm ⟨dV,(by grind[aI]),(by grind[aI]),(bC Cell.e dd),h1,(by grind[aI]),aa⟩
theorem YW(xs:List Cell)(ap:xs.length<=8388608)(op cB key m:Int)(f:Bool)(i:Nat)(a:Cell)(ah:xs[i]?=some a):gf prog (ao f344 0) (nn (xs.map Cell.e) op cB key i f m) .normal (nn (xs.map Cell.e) op cB key ((i+1:Nat):Int) (gM op cB key (m,f) a).2 (gM op cB key (m,f) a).1):=by
 have bg:=a1 ah;have dd:xs[(i:Int).toNat]?=some a:=by grind
 have dV:decide ((i:Int)<(↑(xs.map Cell.e).length:Int))=true:=b6 bg;have c1:=QF a (⟨op,cB,key,0⟩:Cell);rcases cD (eJ a (⟨op,cB,key,0⟩:Cell)) with U | U
 ·skip
  rcases cD (f) with ax | ax
  ·skip
   rcases cD (decide (a.val<m)) with aJ | aJ
   ·skip
    rw[show gM op cB key (m,f) a=(a.val,true) from by grind[gM,eJ]];exact anG ⟨dV,(by grind[aI]),(by grind[aI]),(bC Cell.e dd),c1,U,(by rw[ax];rfl),aJ,(by grind[aI]),aa⟩
   skip
   rw[show gM op cB key (m,f) a=(m,f) from by grind[gM,eJ]];exact anH ⟨dV,(by grind[aI]),(by grind[aI]),(bC Cell.e dd),c1,U,(by rw[ax];rfl),aJ,(by grind[aI]),aa⟩
  skip
  rw[show gM op cB key (m,f) a=(a.val,true) from by grind[gM,eJ]];exact anF ⟨dV,(by grind[aI]),(by grind[aI]),(bC Cell.e dd),c1,U,(by rw[ax];rfl),(by grind[aI]),aa⟩
 skip
 rw[show gM op cB key (m,f) a=(m,f) from by grind[gM,eJ]];exact anI ⟨dV,(by grind[aI]),(by grind[aI]),(bC Cell.e dd),c1,U,(by grind[aI]),aa⟩
theorem QG(xs:List Cell)(op cB key:Int)(ap:xs.length<=8388608):ar 324 [.one (.J 4 (xs.map Cell.e)),.one (I op),.one (I cB),.one (I key)] [.one (I (pB xs op cB key).1),.one (B (pB xs op cB key).2)]:=by
 have l:=eN (P:=prog) (c:=(ao f324 0)) (cH 0) xs.length (fun i:Nat=>kz (xs.map Cell.e) op cB key i (rO (gM op cB key) (0,false) xs i).2 (rO (gM op cB key) (0,false) xs i).1) (fun i hi=>by
  obtain⟨a,ah⟩:=cS hi;grind[Qf,YV]) (ann ⟨dz,aa⟩)
 rw[Qg]at l;exact ano ⟨l,aa⟩
theorem YX(xs:List Cell)(op cB key:Int)(ap:xs.length<=8388608):ar 344 [.one (.J 4 (xs.map Cell.e)),.one (I op),.one (I cB),.one (I key)] [.one (I (pB xs op cB key).1),.one (B (pB xs op cB key).2)]:=by
 have l:=eN (P:=prog) (c:=(ao f344 0)) (cH 0) xs.length (fun i:Nat=>nn (xs.map Cell.e) op cB key i (rO (gM op cB key) (0,false) xs i).2 (rO (gM op cB key) (0,false) xs i).1) (fun i hi=>by
  obtain⟨a,ah⟩:=cS hi;grind[Qf,YW]) (anJ ⟨dz,aa⟩)
 rw[Qg]at l;exact anK ⟨l,aa⟩
