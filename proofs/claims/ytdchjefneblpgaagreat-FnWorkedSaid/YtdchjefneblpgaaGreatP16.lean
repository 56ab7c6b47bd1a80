import Derived.Test.YtdchjefneblpgaaGreatP15
set_option linter.unusedVariables false
set_option linter.unusedSimpArgs false
namespace Go.Proofs.YtdchjefneblpgaaGreat
open Go.Sx Go.RowKit Go.Proofs.Tryz
def hy(g:bR)(k:Int):Int:=match g.nodes[k.toNat]? with | some y=>y.kind | none=>0
def fG(g:bR)(i:Nat)(x:Node)(k:Int):Bool:=
 decide ((g.nodes.length:Int)<=k)||(if x.kind=7 then decide ((i:Int)<k)||(hy g k != 5&&hy g k != 6) else decide (k<=i))
def iw(g:bR)(i:Nat)(x:Node):Bool:=!aN x||(decide (x.kind=1) != decide ((i:Int)=0))||x.outs.any (fG g i x)
def dY(g:bR):Bool:=aq g.nodes.length 1 8&&aq g.ay 1 4&&aq g.cap 1 4&&!(anyI (iw g) 0 g.nodes)
def cK(x:Node)(k v:Int):Int×Int×Bool:=
 if aN x&&eY k v then
  if x.kind=2 then (k,less (v+x.a) 999,true)
  else if x.kind=4 then ((k+x.a).tmod 100,v,true)
  else if x.kind=3 then (k,v,k.tmod x.a==x.b)
  else (k,v,x.kind != 8)
 else (k,v,false)
theorem Kb{l:List Int}(h:l9 l=true){k:Int}(hk:k∈l):aq k 0 7=true:=by
 grind[l9,h8,hg]
theorem QD(g:bR)(av:g.sz<=8388608)(i:Nat)(hi:i<8)(x:Node)(ak:g.nodes[i]?=some x)(cJ:aN x=true)(j:Nat)(k:Int)(hk:x.outs[j]?=some k)(r:Bool)(aH:fG g i x k=r):gf prog (ao f121 1) (hv i (g.nodes.map Node.e) g.ay g.cap x.kind x.a x.b (x.outs.map a6) (j:Int)) (bif r then .ret else .normal) (bif r then qh false else hv i (g.nodes.map Node.e) g.ay g.cap x.kind x.a x.b (x.outs.map a6) ((j+1:Nat):Int)):=by
 have bg:=a1 hk;have ap:x.outs.length<=2:=by grind[aN]
 have l3:aq k 0 7=true:=Kb (by grind[aN]) (eA hk);have dd:x.outs[(j:Int).toNat]?=some k:=by grind
 have dV:decide ((j:Int)<(↑(x.outs.map a6).length:Int))=true:=b6 bg;rcases cD (decide (k>=(↑(g.nodes.map Node.e).length:Int))) with h1 | h1
 ·skip
  obtain rfl:r=true:=by grind[fG,hy,aq]
  exact ao3 ⟨dV,(by grind),(by grind),(bC a6 dd),h1,aa⟩
 skip
 rcases cD (x.kind != 7) with U | U
 ·skip
  rcases cD (decide (k<=(i:Int))) with ax | ax
  ·skip
   obtain rfl:r=true:=by grind[fG,hy,aq]
   exact ao4 ⟨dV,(by grind),(by grind),(bC a6 dd),h1,U,ax,aa⟩
  skip
  obtain⟨Vl,yG⟩:=look (xs:=g.nodes) (i:=k) (by grind) (by grind);rcases cD (x.kind==7) with aX | aX
  ·skip
   rcases cD (decide (k>(i:Int))) with bx | bx
   ·skip
    obtain rfl:r=true:=by rw[<-aH];grind[fG,hy,aq]
    exact ao5 ⟨dV,(by grind[aq,aJ,aN]),(by grind[aq,aJ,aN]),(bC a6 dd),h1,U,ax,(by grind[aq,aJ,aN]),(by grind[aq,aJ,aN]),(bC Node.e yG),aX,bx,aa⟩
   skip
   rcases cD (Vl.kind != 5) with bN | bN
   ·skip
    rcases cD (Vl.kind != 6) with db | db
    ·skip
     obtain rfl:r=true:=by rw[<-aH];grind[fG,hy,aq]
     exact aog ⟨dV,(by grind[aq,aJ,aN]),(by grind[aq,aJ,aN]),(bC a6 dd),h1,U,ax,(by grind[aq,aJ,aN]),(by grind[aq,aJ,aN]),(bC Node.e yG),aX,bx,bN,db,aa⟩
    skip
    obtain rfl:r=false:=by rw[<-aH];grind[fG,hy,aq]
    exact aoh ⟨dV,(by grind[aq,aJ,aN]),(by grind[aq,aJ,aN]),(bC a6 dd),h1,U,ax,(by grind[aq,aJ,aN]),(by grind[aq,aJ,aN]),(bC Node.e yG),aX,bx,bN,db,(by grind[aq,aJ,aN]),aa⟩
   skip
   obtain rfl:r=false:=by rw[<-aH];grind[fG,hy,aq]
   exact aoi ⟨dV,(by grind[aq,aJ,aN]),(by grind[aq,aJ,aN]),(bC a6 dd),h1,U,ax,(by grind[aq,aJ,aN]),(by grind[aq,aJ,aN]),(bC Node.e yG),aX,bx,bN,(by grind[aq,aJ,aN]),aa⟩
  skip
  obtain rfl:r=false:=by grind[fG,hy,aq]
  exact aoj ⟨dV,(by grind),(by grind),(bC a6 dd),h1,U,ax,(by grind),(by grind),(bC Node.e yG),aX,(by grind[aq,aJ,aN]),aa⟩
 skip
 obtain⟨EG,rr⟩:=look (xs:=g.nodes) (i:=k) (by grind[aq,aJ,aN]) (by grind);rcases cD (x.kind==7) with dy | dy
 ·skip
  rcases cD (decide (k>(i:Int))) with hn | hn
  ·skip
   obtain rfl:r=true:=by grind[fG,hy,aq]
   exact aok ⟨dV,(by grind),(by grind),(bC a6 dd),h1,U,(by grind),(by grind),(bC Node.e rr),dy,hn,aa⟩
  skip
  rcases cD (EG.kind != 5) with hB | hB
  ·skip
   rcases cD (EG.kind != 6) with ss | ss
   ·skip
    obtain rfl:r=true:=by grind[fG,hy,aq]
    exact aol ⟨dV,(by grind),(by grind),(bC a6 dd),h1,U,(by grind[aq,aJ,aN]),(by grind),(bC Node.e rr),dy,hn,hB,ss,aa⟩
   skip
   obtain rfl:r=false:=by grind[fG,hy,aq]
   exact aom ⟨dV,(by grind),(by grind),(bC a6 dd),h1,U,(by grind[aq,aJ,aN]),(by grind),(bC Node.e rr),dy,hn,hB,ss,(by grind[aq,aJ,aN]),aa⟩
  skip
  obtain rfl:r=false:=by grind[fG,hy,aq]
  exact aon ⟨dV,(by grind),(by grind),(bC a6 dd),h1,U,(by grind[aq,aJ,aN]),(by grind),(bC Node.e rr),dy,hn,hB,(by grind[aq,aJ,aN]),aa⟩
 skip
 obtain rfl:r=false:=by rw[<-aH];grind[fG,hy,aq]
 exact aoo ⟨dV,(by grind[aq,aJ,aN]),(by grind[aq,aJ,aN]),(bC a6 dd),h1,U,(by grind[aq,aJ,aN]),(by grind[aq,aJ,aN]),(bC Node.e rr),dy,(by grind[aq,aJ,aN]),aa⟩
theorem QE(g:bR)(av:g.sz<=8388608)(i:Nat)(hi:i<8)(x:Node)(ak:g.nodes[i]?=some x)(cJ:aN x=true)(j:Nat)(k:Int)(hk:x.outs[j]?=some k)(r:Bool)(aH:fG g i x k=r):gf prog (ao f179 1) (hx (g.nodes.map Node.e) i (g.nodes.map Node.e) g.ay g.cap x.kind x.a x.b (x.outs.map a6) (j:Int)) (bif r then .ret else .normal) (bif r then qi false else hx (g.nodes.map Node.e) i (g.nodes.map Node.e) g.ay g.cap x.kind x.a x.b (x.outs.map a6) ((j+1:Nat):Int)):=by
 have bg:=a1 hk;have ap:x.outs.length<=2:=by grind[aN]
 have l3:aq k 0 7=true:=Kb (by grind[aN]) (eA hk);have dd:x.outs[(j:Int).toNat]?=some k:=by grind
 have dV:decide ((j:Int)<(↑(x.outs.map a6).length:Int))=true:=b6 bg;rcases cD (decide (k>=(↑(g.nodes.map Node.e).length:Int))) with h1 | h1
 ·skip
  obtain rfl:r=true:=by grind[fG,hy,aq]
  exact aoA ⟨dV,(by grind),(by grind),(bC a6 dd),h1,aa⟩
 skip
 obtain⟨e0,ks⟩:=look (xs:=g.nodes) (i:=k) (by grind[aq,aJ,aN]) (by grind);rcases cD (x.kind==7) with ax | ax
 ·skip
  rcases cD (decide (k>(i:Int))) with aI | aI
  ·skip
   obtain rfl:r=true:=by grind[fG,hy,aq]
   exact aoB ⟨dV,(by grind),(by grind),(bC a6 dd),h1,(by grind),(by grind),(bC Node.e ks),ax,aI,aa⟩
  skip
  rcases cD (e0.kind != 5) with aX | aX
  ·skip
   rcases cD (e0.kind != 6) with bx | bx
   ·skip
    obtain rfl:r=true:=by grind[fG,hy,aq]
    exact aoC ⟨dV,(by grind),(by grind),(bC a6 dd),h1,(by grind[aq,aJ,aN]),(by grind),(bC Node.e ks),ax,aI,aX,bx,aa⟩
   skip
   rcases cD (x.kind != 7) with bN | bN
   ·skip
    rcases cD (decide (k<=(i:Int))) with db | db
    ·skip
     obtain rfl:r=true:=by rw[<-aH];grind[fG,hy,aq]
     exact aoD ⟨dV,(by grind[aq,aJ,aN]),(by grind[aq,aJ,aN]),(bC a6 dd),h1,(by grind[aq,aJ,aN]),(by grind[aq,aJ,aN]),(bC Node.e ks),ax,aI,aX,bx,bN,db,aa⟩
    skip
    obtain rfl:r=false:=by rw[<-aH];grind[fG,hy,aq]
    exact aoE ⟨dV,(by grind[aq,aJ,aN]),(by grind[aq,aJ,aN]),(bC a6 dd),h1,(by grind[aq,aJ,aN]),(by grind[aq,aJ,aN]),(bC Node.e ks),ax,aI,aX,bx,bN,db,(by grind[aq,aJ,aN]),aa⟩
   skip
   obtain rfl:r=false:=by grind[fG,hy,aq]
   exact aoF ⟨dV,(by grind),(by grind),(bC a6 dd),h1,(by grind[aq,aJ,aN]),(by grind),(bC Node.e ks),ax,aI,aX,bx,bN,(by grind[aq,aJ,aN]),aa⟩
  skip
  rcases cD (x.kind != 7) with dQ | dQ
  ·skip
   rcases cD (decide (k<=(i:Int))) with dy | dy
   ·skip
    obtain rfl:r=true:=by rw[<-aH];grind[fG,hy,aq]
    exact an6 ⟨dV,(by grind[aq,aJ,aN]),(by grind[aq,aJ,aN]),(bC a6 dd),h1,(by grind[aq,aJ,aN]),(by grind[aq,aJ,aN]),(bC Node.e ks),ax,aI,aX,dQ,dy,aa⟩
   skip
   obtain rfl:r=false:=by rw[<-aH];grind[fG,hy,aq]
   exact an7 ⟨dV,(by grind[aq,aJ,aN]),(by grind[aq,aJ,aN]),(bC a6 dd),h1,(by grind[aq,aJ,aN]),(by grind[aq,aJ,aN]),(bC Node.e ks),ax,aI,aX,dQ,dy,(by grind[aq,aJ,aN]),aa⟩
  skip
  obtain rfl:r=false:=by grind[fG,hy,aq]
  exact an8 ⟨dV,(by grind),(by grind),(bC a6 dd),h1,(by grind[aq,aJ,aN]),(by grind),(bC Node.e ks),ax,aI,aX,dQ,(by grind[aq,aJ,aN]),aa⟩
 skip
 rcases cD (x.kind != 7) with hn | hn
 ·skip
  rcases cD (decide (k<=(i:Int))) with hB | hB
  ·skip
   obtain rfl:r=true:=by grind[fG,hy,aq]
   exact an9 ⟨dV,(by grind),(by grind),(bC a6 dd),h1,(by grind[aq,aJ,aN]),(by grind),(bC Node.e ks),ax,hn,hB,aa⟩
  skip
  obtain rfl:r=false:=by grind[fG,hy,aq]
  exact aoa ⟨dV,(by grind),(by grind),(bC a6 dd),h1,(by grind),(by grind),(bC Node.e ks),ax,hn,hB,(by grind[aq,aJ,aN]),aa⟩
 skip
 obtain rfl:r=false:=by rw[<-aH];grind[fG,hy,aq]
 exact aob ⟨dV,(by grind[aq,aJ,aN]),(by grind[aq,aJ,aN]),(bC a6 dd),h1,(by grind[aq,aJ,aN]),(by grind[aq,aJ,aN]),(bC Node.e ks),ax,hn,(by grind[aq,aJ,aN]),aa⟩
theorem YT(g:bR)(av:g.sz<=8388608)(i:Nat)(hi:i<8)(x:Node)(ak:g.nodes[i]?=some x)(cJ:aN x=true):
  (x.outs.any (fG g i x)=true/\cW prog (ao f121 1) (hv i (g.nodes.map Node.e) g.ay g.cap x.kind x.a x.b (x.outs.map a6) 0) .ret (qh false))\/(x.outs.any (fG g i x)=false/\cW prog (ao f121 1) (hv i (g.nodes.map Node.e) g.ay g.cap x.kind x.a x.b (x.outs.map a6) 0) (.exit 2) (J5 i (g.nodes.map Node.e) g.ay g.cap)):=by
 have l:=gy (P:=prog) (c:=(ao f121 1)) x.outs (fG g i x) (fun j=>hv i (g.nodes.map Node.e) g.ay g.cap x.kind x.a x.b (x.outs.map a6) j) (X:=fun _ _=>qh false) e7 (cH 2)
  (fun j k hk h=>QD g av i hi x ak cJ j k hk false h)
  (fun j k hk h=>QD g av i hi x ak cJ j k hk true h)
  (aop ⟨dz,aa⟩)
 grind
theorem YU(g:bR)(av:g.sz<=8388608)(i:Nat)(hi:i<8)(x:Node)(ak:g.nodes[i]?=some x)(cJ:aN x=true):
  (x.outs.any (fG g i x)=true/\cW prog (ao f179 1) (hx (g.nodes.map Node.e) i (g.nodes.map Node.e) g.ay g.cap x.kind x.a x.b (x.outs.map a6) 0) .ret (qi false))\/(x.outs.any (fG g i x)=false/\cW prog (ao f179 1) (hx (g.nodes.map Node.e) i (g.nodes.map Node.e) g.ay g.cap x.kind x.a x.b (x.outs.map a6) 0) (.exit 2) (J7 (g.nodes.map Node.e) i (g.nodes.map Node.e) g.ay g.cap)):=by
 have l:=gy (P:=prog) (c:=(ao f179 1)) x.outs (fG g i x) (fun j=>hx (g.nodes.map Node.e) i (g.nodes.map Node.e) g.ay g.cap x.kind x.a x.b (x.outs.map a6) j) (X:=fun _ _=>qi false) e7 (cH 2)
  (fun j k hk h=>QE g av i hi x ak cJ j k hk false h)
  (fun j k hk h=>QE g av i hi x ak cJ j k hk true h)
  (aoc ⟨dz,aa⟩)
 grind
theorem QF(g:bR)(av:g.sz<=8388608)(i:Nat)(hi:i<8)(x:Node)(ak:g.nodes[i]?=some x)(r:Bool)(aH:iw g i x=r):gf prog (ao f121 0) (nr ((i:Nat):Int) (g.nodes.map Node.e) g.ay g.cap) (bif r then .ret else .normal) (bif r then uN false else nr ((i+1:Nat):Int) (g.nodes.map Node.e) g.ay g.cap):=by
 have bg:=a1 ak;have aZ:=bR.yU av (eA ak);have dd:g.nodes[(i:Int).toNat]?=some x:=by grind
 have dV:decide ((i:Int)<(↑(g.nodes.map Node.e).length:Int))=true:=b6 bg;have c1:=QB x (by grind);rcases cD (aN x) with U | U
 ·skip
  rcases cD ((x.kind==1)==((i:Int)==0)) with ax | ax
  ·skip
   rcases YT g av i hi x ak (by grind) with⟨cv,l⟩ | ⟨cv,l⟩
   ·skip
    obtain rfl:r=true:=by grind[iw]
    exact aoq ⟨dV,(by grind),(by grind),(bC Node.e dd),c1,(by rw[U];rfl),(by rw[ax];rfl),l,aa⟩
   skip
   obtain rfl:r=false:=by grind[iw]
   exact aor ⟨dV,(by grind),(by grind),(bC Node.e dd),c1,(by rw[U];rfl),(by rw[ax];rfl),l,(by grind[aq,aJ,aN]),aa⟩
  skip
  obtain rfl:r=true:=by grind[iw]
  exact ao2 ⟨dV,(by grind),(by grind),(bC Node.e dd),c1,(by rw[U];rfl),(by rw[ax];rfl),aa⟩
 skip
 obtain rfl:r=true:=by grind[iw]
 exact ao1 ⟨dV,(by grind),(by grind),(bC Node.e dd),c1,(by rw[U];rfl),aa⟩
theorem QG(g:bR)(av:g.sz<=8388608)(i:Nat)(hi:i<8)(x:Node)(ak:g.nodes[i]?=some x)(r:Bool)(aH:iw g i x=r):gf prog (ao f179 0) (nt (g.nodes.map Node.e) ((i:Nat):Int) (g.nodes.map Node.e) g.ay g.cap) (bif r then .ret else .normal) (bif r then uO false else nt (g.nodes.map Node.e) ((i+1:Nat):Int) (g.nodes.map Node.e) g.ay g.cap):=by
 have bg:=a1 ak;have aZ:=bR.yU av (eA ak);have dd:g.nodes[(i:Int).toNat]?=some x:=by grind
 have dV:decide ((i:Int)<(↑(g.nodes.map Node.e).length:Int))=true:=b6 bg;have c1:=QC x (by grind);rcases cD (aN x) with U | U
 ·skip
  rcases cD ((x.kind==1)==((i:Int)==0)) with ax | ax
  ·skip
   rcases YU g av i hi x ak (by grind) with⟨cv,l⟩ | ⟨cv,l⟩
   ·skip
    obtain rfl:r=true:=by grind[iw]
    exact aod ⟨dV,(by grind),(by grind),(bC Node.e dd),c1,(by rw[U];rfl),(by rw[ax];rfl),l,aa⟩
   skip
   obtain rfl:r=false:=by grind[iw]
   exact aoe ⟨dV,(by grind),(by grind),(bC Node.e dd),c1,(by rw[U];rfl),(by rw[ax];rfl),l,(by grind[aq,aJ,aN]),aa⟩
  skip
  obtain rfl:r=true:=by grind[iw]
  exact aoz ⟨dV,(by grind),(by grind),(bC Node.e dd),c1,(by rw[U];rfl),(by rw[ax];rfl),aa⟩
 skip
 obtain rfl:r=true:=by grind[iw]
 exact aoy ⟨dV,(by grind),(by grind),(bC Node.e dd),c1,(by rw[U];rfl),aa⟩
theorem YV(g:bR)(av:g.sz<=8388608)(db:g.nodes.length<=8):
  (anyI (iw g) 0 g.nodes=true/\cW prog (ao f121 0) (nr 0 (g.nodes.map Node.e) g.ay g.cap) .ret (uN false))\/(anyI (iw g) 0 g.nodes=false/\cW prog (ao f121 0) (nr 0 (g.nodes.map Node.e) g.ay g.cap) (.exit 0) J6):=by
 have l:=s' (P:=prog) (c:=(ao f121 0)) g.nodes (iw g) (fun i=>nr (i:Nat) (g.nodes.map Node.e) g.ay g.cap) (X:=uN false) e7 (cH 0)
  (fun i x ak h=>QF g av i (by grind) x ak false h)
  (fun i x ak h=>QF g av i (by grind) x ak true h)
  (aos ⟨dz,aa⟩)
 grind
theorem YW(g:bR)(av:g.sz<=8388608)(db:g.nodes.length<=8):
  (anyI (iw g) 0 g.nodes=true/\cW prog (ao f179 0) (nt (g.nodes.map Node.e) 0 (g.nodes.map Node.e) g.ay g.cap) .ret (uO false))\/(anyI (iw g) 0 g.nodes=false/\cW prog (ao f179 0) (nt (g.nodes.map Node.e) 0 (g.nodes.map Node.e) g.ay g.cap) (.exit 0) J8):=by
 have l:=s' (P:=prog) (c:=(ao f179 0)) g.nodes (iw g) (fun i=>nt (g.nodes.map Node.e) (i:Nat) (g.nodes.map Node.e) g.ay g.cap) (X:=uO false) e7 (cH 0)
  (fun i x ak h=>QG g av i (by grind) x ak false h)
  (fun i x ak h=>QG g av i (by grind) x ak true h)
  (aof ⟨dz,aa⟩)
 grind
theorem w8(g:bR)(av:g.sz<=8388608):ar 121 [.agg g.e] [.one (B (dY g))]:=by
 have c1:=hI (↑(g.nodes.map Node.e).length:Int) 1 8;rcases cD (aq (↑(g.nodes.map Node.e).length:Int) 1 8) with U | U
 ·skip
  have cu:=hI g.ay 1 4;rcases cD (aq g.ay 1 4) with aI | aI
  ·skip
   have fJ:=hI g.cap 1 4;rcases cD (aq g.cap 1 4) with bx | bx
   ·skip
    rcases YV g av (by grind[aq]) with⟨cv,l⟩ | ⟨cv,l⟩
    ·skip
     rw[show dY g=false from by grind[dY]];exact aot ⟨c1,(by rw[U];rfl),cu,(by rw[aI];rfl),fJ,(by rw[bx];rfl),l,aa⟩
    skip
    rw[show dY g=true from by grind[dY]];exact aou ⟨c1,(by rw[U];rfl),cu,(by rw[aI];rfl),fJ,(by rw[bx];rfl),l,aa⟩
   skip
   rw[show dY g=false from by grind[dY]];exact ao0 ⟨c1,(by rw[U];rfl),cu,(by rw[aI];rfl),fJ,(by rw[bx];rfl),aa⟩
  skip
  rw[show dY g=false from by grind[dY]];exact aoZ ⟨c1,(by rw[U];rfl),cu,(by rw[aI];rfl),aa⟩
 skip
 rw[show dY g=false from by grind[dY]];exact aoY ⟨c1,(by rw[U];rfl),aa⟩
theorem w9(g:bR)(av:g.sz<=8388608):ar 179 [.agg g.e] [.one (B (dY g))]:=by
 have c1:=jV (↑(g.nodes.map Node.e).length:Int) 1 8;rcases cD (aq (↑(g.nodes.map Node.e).length:Int) 1 8) with U | U
 ·skip
  have cu:=jV g.ay 1 4;rcases cD (aq g.ay 1 4) with aI | aI
  ·skip
   have fJ:=jV g.cap 1 4;rcases cD (aq g.cap 1 4) with bx | bx
   ·skip
    rcases YW g av (by grind[aq]) with⟨cv,l⟩ | ⟨cv,l⟩
    ·skip
     rw[show dY g=false from by grind[dY]];exact apH ⟨c1,(by rw[U];rfl),cu,(by rw[aI];rfl),fJ,(by rw[bx];rfl),l,aa⟩
    skip
    rw[show dY g=true from by grind[dY]];exact apI ⟨c1,(by rw[U];rfl),cu,(by rw[aI];rfl),fJ,(by rw[bx];rfl),l,aa⟩
   skip
   rw[show dY g=false from by grind[dY]];exact aox ⟨c1,(by rw[U];rfl),cu,(by rw[aI];rfl),fJ,(by rw[bx];rfl),aa⟩
  skip
  rw[show dY g=false from by grind[dY]];exact aow ⟨c1,(by rw[U];rfl),cu,(by rw[aI];rfl),aa⟩
 skip
 rw[show dY g=false from by grind[dY]];exact aov ⟨c1,(by rw[U];rfl),aa⟩
theorem YX(x:Node)(k v:Int)(ak:x.outs.length<=8388608):ar 267 [.agg x.e,.one (I k),.one (I v)] [.one (I ((cK x k v).1)),.one (I ((cK x k v).2.1)),.one (B ((cK x k v).2.2))]:=by
 have c1:=QB x (by grind);rcases cD (aN x) with U | U
 ·skip
  have cu:=hI k 0 99;rcases cD (aq k 0 99) with aI | aI
  ·skip
   have fJ:=hI v 0 999;rcases cD (aq v 0 999) with bx | bx
   ·skip
    rcases cD (x.kind==2) with bN | bN
    ·skip
     have lk:=ari (v+x.a) 999;rw[show cK x k v=(k,less (v+x.a) 999,true) from by grind[cK,eY,less,aN,bI]];exact ap3 ⟨c1,(by rw[U];rfl),cu,(by rw[aI];rfl),fJ,(by rw[bx];rfl),bN,(by grind[aN,bI,aq,aJ,eY]),lk,aa⟩
    skip
    rcases cD (x.kind==4) with dQ | dQ
    ·skip
     rw[show cK x k v=((k+x.a).tmod 100,v,true) from by grind[cK,eY,less,aN,bI]];exact ap4 ⟨c1,(by rw[U];rfl),cu,(by rw[aI];rfl),fJ,(by rw[bx];rfl),bN,dQ,(by grind[aN,bI,aq,aJ,eY]),(by grind),aa⟩
    skip
    rcases cD (x.kind==3) with dy | dy
    ·skip
     rw[show cK x k v=(k,v,k.tmod x.a==x.b) from by grind[cK,eY,less,aN,bI]];exact ap5 ⟨c1,(by rw[U];rfl),cu,(by rw[aI];rfl),fJ,(by rw[bx];rfl),bN,dQ,dy,(by grind[aN,bI,aq,aJ,eY]),aa⟩
    skip
    rw[show cK x k v=(k,v,x.kind != 8) from by grind[cK,eY,less,aN,bI]];exact ap6 ⟨c1,(by rw[U];rfl),cu,(by rw[aI];rfl),fJ,(by rw[bx];rfl),bN,dQ,dy,aa⟩
   skip
   rw[show cK x k v=(k,v,false) from by grind[cK,eY,less,aN,bI]];exact ap2 ⟨c1,(by rw[U];rfl),cu,(by rw[aI];rfl),fJ,(by rw[bx];rfl),aa⟩
  skip
  rw[show cK x k v=(k,v,false) from by grind[cK,eY,less,aN,bI]];exact ap1 ⟨c1,(by rw[U];rfl),cu,(by rw[aI];rfl),aa⟩
 skip
 rw[show cK x k v=(k,v,false) from by grind[cK,eY,less,aN,bI]];exact ap0 ⟨c1,(by rw[U];rfl),aa⟩
theorem YY(x:Node)(k v:Int)(ak:x.outs.length<=8388608):ar 298 [.agg x.e,.one (I k),.one (I v)] [.one (I ((cK x k v).1)),.one (I ((cK x k v).2.1)),.one (B ((cK x k v).2.2))]:=by
 have c1:=QC x (by grind);rcases cD (aN x) with U | U
 ·skip
  have cu:=QA k v;rcases cD (eY k v) with aI | aI
  ·skip
   rcases cD (x.kind==2) with aX | aX
   ·skip
    rw[show cK x k v=(k,if v+x.a<999 then v+x.a else 999,true) from by grind[cK,eY,less,aN,bI]];exact api ⟨c1,(by rw[U];rfl),cu,(by rw[aI];rfl),aX,(by grind[aN,bI,aq,aJ,eY]),aa⟩
   skip
   rcases cD (x.kind==4) with bx | bx
   ·skip
    rw[show cK x k v=((k+x.a).tmod 100,v,true) from by grind[cK,eY,less,aN,bI]];exact apj ⟨c1,(by rw[U];rfl),cu,(by rw[aI];rfl),aX,bx,(by grind[aN,bI,aq,aJ,eY]),(by grind),aa⟩
   skip
   rcases cD (x.kind==3) with bN | bN
   ·skip
    rw[show cK x k v=(k,v,k.tmod x.a==x.b) from by grind[cK,eY,less,aN,bI]];exact apk ⟨c1,(by rw[U];rfl),cu,(by rw[aI];rfl),aX,bx,bN,(by grind[aN,bI,aq,aJ,eY]),aa⟩
   skip
   rw[show cK x k v=(k,v,x.kind != 8) from by grind[cK,eY,less,aN,bI]];exact apl ⟨c1,(by rw[U];rfl),cu,(by rw[aI];rfl),aX,bx,bN,aa⟩
  skip
  rw[show cK x k v=(k,v,false) from by grind[cK,eY,less,aN,bI]];exact aph ⟨c1,(by rw[U];rfl),cu,(by rw[aI];rfl),aa⟩
 skip
 rw[show cK x k v=(k,v,false) from by grind[cK,eY,less,aN,bI]];exact apg ⟨c1,(by rw[U];rfl),aa⟩
def eJ(a b:Cell):Bool:=a.op==b.op&&a.bc==b.bc&&a.key==b.key
def gN(op cB key:Int)(s:Int×Bool)(a:Cell):Int×Bool:=if a.op=op/\a.bc=cB/\a.key=key/\(s.2=false\/a.val<s.1) then (a.val,true) else s
def pB(xs:List Cell)(op cB key:Int):Int×Bool:=xs.foldl (gN op cB key) (0,false)
theorem QH(a b:Cell):ar 347 [.agg a.e,.agg b.e] [.one (B (eJ a b))]:=by
 rcases cD (a.op==b.op) with h1 | h1
 ·skip
  rcases cD (a.bc==b.bc) with U | U
  ·skip
   rw[show eJ a b=(a.key==b.key) from by grind[eJ]];exact al7 ⟨h1,U,aa⟩
  skip
  rw[show eJ a b=false from by grind[eJ]];exact al8 ⟨h1,U,aa⟩
 skip
 rw[show eJ a b=false from by grind[eJ]];exact al9 ⟨h1,aa⟩
theorem YZ(xs:List Cell)(ap:xs.length<=8388608)(op cB key m:Int)(f:Bool)(i:Nat)(a:Cell)(ag:xs[i]?=some a):gf prog (ao f324 0) (kz (xs.map Cell.e) op cB key i f m) .normal (kz (xs.map Cell.e) op cB key ((i+1:Nat):Int) (gN op cB key (m,f) a).2 (gN op cB key (m,f) a).1):=by
 have bg:=a1 ag;have dd:xs[(i:Int).toNat]?=some a:=by grind
 have dV:decide ((i:Int)<(↑(xs.map Cell.e).length:Int))=true:=b6 bg;rcases cD (a.op==op) with h1 | h1
 ·skip
  rcases cD (a.bc==cB) with U | U
  ·skip
   rcases cD (a.key==key) with ax | ax
   ·skip
    rcases cD (f) with aI | aI
    ·skip
     rcases cD (decide (a.val<m)) with aX | aX
     ·skip
      rw[show gN op cB key (m,f) a=(a.val,true) from by grind[gN,eJ]];exact anm ⟨dV,(by grind[aJ]),(by grind[aJ]),(bC Cell.e dd),h1,U,ax,(by rw[aI];rfl),aX,(by grind[aJ]),aa⟩
     skip
     rw[show gN op cB key (m,f) a=(m,f) from by grind[gN,eJ]];exact ann ⟨dV,(by grind[aJ]),(by grind[aJ]),(bC Cell.e dd),h1,U,ax,(by rw[aI];rfl),aX,(by grind[aJ]),aa⟩
    skip
    rw[show gN op cB key (m,f) a=(a.val,true) from by grind[gN,eJ]];exact anl ⟨dV,(by grind[aJ]),(by grind[aJ]),(bC Cell.e dd),h1,U,ax,(by rw[aI];rfl),(by grind[aJ]),aa⟩
   skip
   rw[show gN op cB key (m,f) a=(m,f) from by grind[gN,eJ]];exact ano ⟨dV,(by grind[aJ]),(by grind[aJ]),(bC Cell.e dd),h1,U,ax,(by grind[aJ]),aa⟩
  skip
  rw[show gN op cB key (m,f) a=(m,f) from by grind[gN,eJ]];exact anp ⟨dV,(by grind[aJ]),(by grind[aJ]),(bC Cell.e dd),h1,U,(by grind[aJ]),aa⟩
 skip
 rw[show gN op cB key (m,f) a=(m,f) from by grind[gN,eJ]];exact anq ⟨dV,(by grind[aJ]),(by grind[aJ]),(bC Cell.e dd),h1,(by grind[aJ]),aa⟩
theorem Y0(xs:List Cell)(ap:xs.length<=8388608)(op cB key m:Int)(f:Bool)(i:Nat)(a:Cell)(ag:xs[i]?=some a):gf prog (ao f344 0) (np (xs.map Cell.e) op cB key i f m) .normal (np (xs.map Cell.e) op cB key ((i+1:Nat):Int) (gN op cB key (m,f) a).2 (gN op cB key (m,f) a).1):=by
 have bg:=a1 ag;have dd:xs[(i:Int).toNat]?=some a:=by grind
 have dV:decide ((i:Int)<(↑(xs.map Cell.e).length:Int))=true:=b6 bg;have c1:=QH a (⟨op,cB,key,0⟩:Cell);rcases cD (eJ a (⟨op,cB,key,0⟩:Cell)) with U | U
 ·skip
  rcases cD (f) with ax | ax
  ·skip
   rcases cD (decide (a.val<m)) with aI | aI
   ·skip
    rw[show gN op cB key (m,f) a=(a.val,true) from by grind[gN,eJ]];exact anK ⟨dV,(by grind[aJ]),(by grind[aJ]),(bC Cell.e dd),c1,U,(by rw[ax];rfl),aI,(by grind[aJ]),aa⟩
   skip
   rw[show gN op cB key (m,f) a=(m,f) from by grind[gN,eJ]];exact anL ⟨dV,(by grind[aJ]),(by grind[aJ]),(bC Cell.e dd),c1,U,(by rw[ax];rfl),aI,(by grind[aJ]),aa⟩
  skip
  rw[show gN op cB key (m,f) a=(a.val,true) from by grind[gN,eJ]];exact anJ ⟨dV,(by grind[aJ]),(by grind[aJ]),(bC Cell.e dd),c1,U,(by rw[ax];rfl),(by grind[aJ]),aa⟩
 skip
 rw[show gN op cB key (m,f) a=(m,f) from by grind[gN,eJ]];exact anM ⟨dV,(by grind[aJ]),(by grind[aJ]),(bC Cell.e dd),c1,U,(by grind[aJ]),aa⟩
theorem QI(xs:List Cell)(op cB key:Int)(ap:xs.length<=8388608):ar 324 [.one (.J 4 (xs.map Cell.e)),.one (I op),.one (I cB),.one (I key)] [.one (I (pB xs op cB key).1),.one (B (pB xs op cB key).2)]:=by
 have l:=eN (P:=prog) (c:=(ao f324 0)) (cH 0) xs.length (fun i:Nat=>kz (xs.map Cell.e) op cB key i (rO (gN op cB key) (0,false) xs i).2 (rO (gN op cB key) (0,false) xs i).1) (fun i hi=>by
  obtain⟨a,ag⟩:=cS hi;grind[Qh,YZ]) (anr ⟨dz,aa⟩)
 rw[Qi]at l;exact ant ⟨l,aa⟩
theorem Y1(xs:List Cell)(op cB key:Int)(ap:xs.length<=8388608):ar 344 [.one (.J 4 (xs.map Cell.e)),.one (I op),.one (I cB),.one (I key)] [.one (I (pB xs op cB key).1),.one (B (pB xs op cB key).2)]:=by
 have l:=eN (P:=prog) (c:=(ao f344 0)) (cH 0) xs.length (fun i:Nat=>np (xs.map Cell.e) op cB key i (rO (gN op cB key) (0,false) xs i).2 (rO (gN op cB key) (0,false) xs i).1) (fun i hi=>by
  obtain⟨a,ag⟩:=cS hi;grind[Qh,Y0]) (anN ⟨dz,aa⟩)
 rw[Qi]at l;exact anO ⟨l,aa⟩
