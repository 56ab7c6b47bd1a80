import Derived.Test.YtdchjefneblpgaaGreatP15
set_option linter.unusedVariables false
set_option linter.unusedSimpArgs false
namespace Go.Proofs.YtdchjefneblpgaaGreat
open Go.Sx Go.RowKit Go.Proofs.Tryz
def hW(g:b1)(k:Int):Int:=match g.nodes[k.toNat]? with | some y=>y.kind | none=>0
def fQ(g:b1)(i:Nat)(x:Node)(k:Int):Bool:=
 decide ((g.nodes.length:Int)<=k)||(if x.kind=7 then decide ((i:Int)<k)||(hW g k != 5&&hW g k != 6) else decide (k<=i))
def iN(g:b1)(i:Nat)(x:Node):Bool:=!aL x||(decide (x.kind=1) != decide ((i:Int)=0))||x.outs.any (fQ g i x)
def eA(g:b1):Bool:=ap g.nodes.length 1 8&&ap g.ay 1 4&&ap g.cap 1 4&&!(anyI (iN g) 0 g.nodes)
def dQ(x:Node)(k v:Int):Int×Int×Bool:=
 if aL x&&f' k v then
  if x.kind=2 then (k,less (v+x.a) 999,true)
  else if x.kind=4 then ((k+x.a).tmod 100,v,true)
  else if x.kind=3 then (k,v,k.tmod x.a==x.b)
  else (k,v,x.kind != 8)
 else (k,v,false)
theorem JG{l:List Int}(h:mF l=true){k:Int}(hk:k∈l):ap k 0 7=true:=by
 simp only[mF,g',hr]at h;simpa using h k hk
theorem QT(g:b1)(au:g.sz<=8388608)(i:Nat)(hi:i<8)(x:Node)(ag:g.nodes[i]?=some x)(cG:aL x=true)(j:Nat)(k:Int)(hk:x.outs[j]?=some k)(r:Bool)(aD:fQ g i x k=r):fz prog (ar f121 1) (hU i (g.nodes.map Node.e) g.ay g.cap x.kind x.a x.b (x.outs.map a8) (j:Int)) (bif r then .ret else .normal) (bif r then qO false else hU i (g.nodes.map Node.e) g.ay g.cap x.kind x.a x.b (x.outs.map a8) ((j+1:Nat):Int)):=by
 have a':=a6 hk;have ak:x.outs.length<=2:=by grind[aL]
 have mC:ap k 0 7=true:=JG (by grind[aL]) (eX hk);have dO:x.outs[(j:Int).toNat]?=some k:=by simpa using hk
 have ew:decide ((j:Int)<(↑(x.outs.map a8).length:Int))=true:=cf a';rcases c7 (decide (k>=(↑(g.nodes.map Node.e).length:Int))) with h1 | h1
 ·skip
  obtain rfl:r=true:=by rw[<-aD];grind[fQ,hW,ap]
  exact aoQ ⟨ew,(by grind[ap,az,aL]),(by grind[ap,az,aL]),(bM a8 dO),h1,aa⟩
 skip
 rcases c7 (x.kind != 7) with U | U
 ·skip
  rcases c7 (decide (k<=(i:Int))) with ax | ax
  ·skip
   obtain rfl:r=true:=by rw[<-aD];grind[fQ,hW,ap]
   exact aoR ⟨ew,(by grind[ap,az,aL]),(by grind[ap,az,aL]),(bM a8 dO),h1,U,ax,aa⟩
  skip
  obtain⟨VV,ze⟩:=look (xs:=g.nodes) (i:=k) (by grind[ap,az,aL]) (by grind[ap,az,aL]);rcases c7 (x.kind==7) with aV | aV
  ·skip
   rcases c7 (decide (k>(i:Int))) with bw | bw
   ·skip
    obtain rfl:r=true:=by rw[<-aD];grind[fQ,hW,ap]
    exact aoS ⟨ew,(by grind[ap,az,aL]),(by grind[ap,az,aL]),(bM a8 dO),h1,U,ax,(by grind[ap,az,aL]),(by grind[ap,az,aL]),(bM Node.e ze),aV,bw,aa⟩
   skip
   rcases c7 (VV.kind != 5) with bX | bX
   ·skip
    rcases c7 (VV.kind != 6) with c8 | c8
    ·skip
     obtain rfl:r=true:=by rw[<-aD];grind[fQ,hW,ap]
     exact aoT ⟨ew,(by grind[ap,az,aL]),(by grind[ap,az,aL]),(bM a8 dO),h1,U,ax,(by grind[ap,az,aL]),(by grind[ap,az,aL]),(bM Node.e ze),aV,bw,bX,c8,aa⟩
    skip
    obtain rfl:r=false:=by rw[<-aD];grind[fQ,hW,ap]
    exact aoU ⟨ew,(by grind[ap,az,aL]),(by grind[ap,az,aL]),(bM a8 dO),h1,U,ax,(by grind[ap,az,aL]),(by grind[ap,az,aL]),(bM Node.e ze),aV,bw,bX,c8,(by grind[ap,az,aL]),aa⟩
   skip
   obtain rfl:r=false:=by rw[<-aD];grind[fQ,hW,ap]
   exact aoV ⟨ew,(by grind[ap,az,aL]),(by grind[ap,az,aL]),(bM a8 dO),h1,U,ax,(by grind[ap,az,aL]),(by grind[ap,az,aL]),(bM Node.e ze),aV,bw,bX,(by grind[ap,az,aL]),aa⟩
  skip
  obtain rfl:r=false:=by rw[<-aD];grind[fQ,hW,ap]
  exact aoW ⟨ew,(by grind[ap,az,aL]),(by grind[ap,az,aL]),(bM a8 dO),h1,U,ax,(by grind[ap,az,aL]),(by grind[ap,az,aL]),(bM Node.e ze),aV,(by grind[ap,az,aL]),aa⟩
 skip
 obtain⟨Fe,rZ⟩:=look (xs:=g.nodes) (i:=k) (by grind[ap,az,aL]) (by grind[ap,az,aL]);rcases c7 (x.kind==7) with dK | dK
 ·skip
  rcases c7 (decide (k>(i:Int))) with hM | hM
  ·skip
   obtain rfl:r=true:=by rw[<-aD];grind[fQ,hW,ap]
   exact aoX ⟨ew,(by grind[ap,az,aL]),(by grind[ap,az,aL]),(bM a8 dO),h1,U,(by grind[ap,az,aL]),(by grind[ap,az,aL]),(bM Node.e rZ),dK,hM,aa⟩
  skip
  rcases c7 (Fe.kind != 5) with j7 | j7
  ·skip
   rcases c7 (Fe.kind != 6) with sT | sT
   ·skip
    obtain rfl:r=true:=by rw[<-aD];grind[fQ,hW,ap]
    exact aoY ⟨ew,(by grind[ap,az,aL]),(by grind[ap,az,aL]),(bM a8 dO),h1,U,(by grind[ap,az,aL]),(by grind[ap,az,aL]),(bM Node.e rZ),dK,hM,j7,sT,aa⟩
   skip
   obtain rfl:r=false:=by rw[<-aD];grind[fQ,hW,ap]
   exact aoZ ⟨ew,(by grind[ap,az,aL]),(by grind[ap,az,aL]),(bM a8 dO),h1,U,(by grind[ap,az,aL]),(by grind[ap,az,aL]),(bM Node.e rZ),dK,hM,j7,sT,(by grind[ap,az,aL]),aa⟩
  skip
  obtain rfl:r=false:=by rw[<-aD];grind[fQ,hW,ap]
  exact aoa ⟨ew,(by grind[ap,az,aL]),(by grind[ap,az,aL]),(bM a8 dO),h1,U,(by grind[ap,az,aL]),(by grind[ap,az,aL]),(bM Node.e rZ),dK,hM,j7,(by grind[ap,az,aL]),aa⟩
 skip
 obtain rfl:r=false:=by rw[<-aD];grind[fQ,hW,ap]
 exact aob ⟨ew,(by grind[ap,az,aL]),(by grind[ap,az,aL]),(bM a8 dO),h1,U,(by grind[ap,az,aL]),(by grind[ap,az,aL]),(bM Node.e rZ),dK,(by grind[ap,az,aL]),aa⟩
theorem QU(g:b1)(au:g.sz<=8388608)(i:Nat)(hi:i<8)(x:Node)(ag:g.nodes[i]?=some x)(cG:aL x=true)(j:Nat)(k:Int)(hk:x.outs[j]?=some k)(r:Bool)(aD:fQ g i x k=r):fz prog (ar f179 1) (hV (g.nodes.map Node.e) i (g.nodes.map Node.e) g.ay g.cap x.kind x.a x.b (x.outs.map a8) (j:Int)) (bif r then .ret else .normal) (bif r then qP false else hV (g.nodes.map Node.e) i (g.nodes.map Node.e) g.ay g.cap x.kind x.a x.b (x.outs.map a8) ((j+1:Nat):Int)):=by
 have a':=a6 hk;have ak:x.outs.length<=2:=by grind[aL]
 have mC:ap k 0 7=true:=JG (by grind[aL]) (eX hk);have dO:x.outs[(j:Int).toNat]?=some k:=by simpa using hk
 have ew:decide ((j:Int)<(↑(x.outs.map a8).length:Int))=true:=cf a';rcases c7 (decide (k>=(↑(g.nodes.map Node.e).length:Int))) with h1 | h1
 ·skip
  obtain rfl:r=true:=by rw[<-aD];grind[fQ,hW,ap]
  exact aon ⟨ew,(by grind[ap,az,aL]),(by grind[ap,az,aL]),(bM a8 dO),h1,aa⟩
 skip
 obtain⟨fa,lL⟩:=look (xs:=g.nodes) (i:=k) (by grind[ap,az,aL]) (by grind[ap,az,aL]);rcases c7 (x.kind==7) with ax | ax
 ·skip
  rcases c7 (decide (k>(i:Int))) with aK | aK
  ·skip
   obtain rfl:r=true:=by rw[<-aD];grind[fQ,hW,ap]
   exact aoo ⟨ew,(by grind[ap,az,aL]),(by grind[ap,az,aL]),(bM a8 dO),h1,(by grind[ap,az,aL]),(by grind[ap,az,aL]),(bM Node.e lL),ax,aK,aa⟩
  skip
  rcases c7 (fa.kind != 5) with aV | aV
  ·skip
   rcases c7 (fa.kind != 6) with bw | bw
   ·skip
    obtain rfl:r=true:=by rw[<-aD];grind[fQ,hW,ap]
    exact aop ⟨ew,(by grind[ap,az,aL]),(by grind[ap,az,aL]),(bM a8 dO),h1,(by grind[ap,az,aL]),(by grind[ap,az,aL]),(bM Node.e lL),ax,aK,aV,bw,aa⟩
   skip
   rcases c7 (x.kind != 7) with bX | bX
   ·skip
    rcases c7 (decide (k<=(i:Int))) with c8 | c8
    ·skip
     obtain rfl:r=true:=by rw[<-aD];grind[fQ,hW,ap]
     exact aoq ⟨ew,(by grind[ap,az,aL]),(by grind[ap,az,aL]),(bM a8 dO),h1,(by grind[ap,az,aL]),(by grind[ap,az,aL]),(bM Node.e lL),ax,aK,aV,bw,bX,c8,aa⟩
    skip
    obtain rfl:r=false:=by rw[<-aD];grind[fQ,hW,ap]
    exact aor ⟨ew,(by grind[ap,az,aL]),(by grind[ap,az,aL]),(bM a8 dO),h1,(by grind[ap,az,aL]),(by grind[ap,az,aL]),(bM Node.e lL),ax,aK,aV,bw,bX,c8,(by grind[ap,az,aL]),aa⟩
   skip
   obtain rfl:r=false:=by rw[<-aD];grind[fQ,hW,ap]
   exact aos ⟨ew,(by grind[ap,az,aL]),(by grind[ap,az,aL]),(bM a8 dO),h1,(by grind[ap,az,aL]),(by grind[ap,az,aL]),(bM Node.e lL),ax,aK,aV,bw,bX,(by grind[ap,az,aL]),aa⟩
  skip
  rcases c7 (x.kind != 7) with ed | ed
  ·skip
   rcases c7 (decide (k<=(i:Int))) with dK | dK
   ·skip
    obtain rfl:r=true:=by rw[<-aD];grind[fQ,hW,ap]
    exact aot ⟨ew,(by grind[ap,az,aL]),(by grind[ap,az,aL]),(bM a8 dO),h1,(by grind[ap,az,aL]),(by grind[ap,az,aL]),(bM Node.e lL),ax,aK,aV,ed,dK,aa⟩
   skip
   obtain rfl:r=false:=by rw[<-aD];grind[fQ,hW,ap]
   exact aou ⟨ew,(by grind[ap,az,aL]),(by grind[ap,az,aL]),(bM a8 dO),h1,(by grind[ap,az,aL]),(by grind[ap,az,aL]),(bM Node.e lL),ax,aK,aV,ed,dK,(by grind[ap,az,aL]),aa⟩
  skip
  obtain rfl:r=false:=by rw[<-aD];grind[fQ,hW,ap]
  exact aov ⟨ew,(by grind[ap,az,aL]),(by grind[ap,az,aL]),(bM a8 dO),h1,(by grind[ap,az,aL]),(by grind[ap,az,aL]),(bM Node.e lL),ax,aK,aV,ed,(by grind[ap,az,aL]),aa⟩
 skip
 rcases c7 (x.kind != 7) with hM | hM
 ·skip
  rcases c7 (decide (k<=(i:Int))) with j7 | j7
  ·skip
   obtain rfl:r=true:=by rw[<-aD];grind[fQ,hW,ap]
   exact aow ⟨ew,(by grind[ap,az,aL]),(by grind[ap,az,aL]),(bM a8 dO),h1,(by grind[ap,az,aL]),(by grind[ap,az,aL]),(bM Node.e lL),ax,hM,j7,aa⟩
  skip
  obtain rfl:r=false:=by rw[<-aD];grind[fQ,hW,ap]
  exact aox ⟨ew,(by grind[ap,az,aL]),(by grind[ap,az,aL]),(bM a8 dO),h1,(by grind[ap,az,aL]),(by grind[ap,az,aL]),(bM Node.e lL),ax,hM,j7,(by grind[ap,az,aL]),aa⟩
 skip
 obtain rfl:r=false:=by rw[<-aD];grind[fQ,hW,ap]
 exact aoy ⟨ew,(by grind[ap,az,aL]),(by grind[ap,az,aL]),(bM a8 dO),h1,(by grind[ap,az,aL]),(by grind[ap,az,aL]),(bM Node.e lL),ax,hM,(by grind[ap,az,aL]),aa⟩
theorem arB(g:b1)(au:g.sz<=8388608)(i:Nat)(hi:i<8)(x:Node)(ag:g.nodes[i]?=some x)(cG:aL x=true):
  (x.outs.any (fQ g i x)=true/\c0 prog (ar f121 1) (hU i (g.nodes.map Node.e) g.ay g.cap x.kind x.a x.b (x.outs.map a8) 0) .ret (qO false))\/(x.outs.any (fQ g i x)=false/\c0 prog (ar f121 1) (hU i (g.nodes.map Node.e) g.ay g.cap x.kind x.a x.b (x.outs.map a8) 0) (.exit 2) (JA i (g.nodes.map Node.e) g.ay g.cap)):=by
 have l:=hh (P:=prog) (c:=(ar f121 1)) x.outs (fQ g i x) (fun j=>hU i (g.nodes.map Node.e) g.ay g.cap x.kind x.a x.b (x.outs.map a8) j) (X:=fun _ _=>qO false) fi (cM 2)
  (fun j k hk h=>QT g au i hi x ag cG j k hk false h)
  (fun j k hk h=>QT g au i hi x ag cG j k hk true h)
  (aoc ⟨dU,aa⟩)
 rcases l with⟨_,_,h1,U⟩ | ⟨j,k,_,_,_,_,h1,U⟩
 ·exact .inr ⟨h1,U⟩
 exact .inl ⟨h1,U⟩
theorem arC(g:b1)(au:g.sz<=8388608)(i:Nat)(hi:i<8)(x:Node)(ag:g.nodes[i]?=some x)(cG:aL x=true):
  (x.outs.any (fQ g i x)=true/\c0 prog (ar f179 1) (hV (g.nodes.map Node.e) i (g.nodes.map Node.e) g.ay g.cap x.kind x.a x.b (x.outs.map a8) 0) .ret (qP false))\/(x.outs.any (fQ g i x)=false/\c0 prog (ar f179 1) (hV (g.nodes.map Node.e) i (g.nodes.map Node.e) g.ay g.cap x.kind x.a x.b (x.outs.map a8) 0) (.exit 2) (JC (g.nodes.map Node.e) i (g.nodes.map Node.e) g.ay g.cap)):=by
 have l:=hh (P:=prog) (c:=(ar f179 1)) x.outs (fQ g i x) (fun j=>hV (g.nodes.map Node.e) i (g.nodes.map Node.e) g.ay g.cap x.kind x.a x.b (x.outs.map a8) j) (X:=fun _ _=>qP false) fi (cM 2)
  (fun j k hk h=>QU g au i hi x ag cG j k hk false h)
  (fun j k hk h=>QU g au i hi x ag cG j k hk true h)
  (aoz ⟨dU,aa⟩)
 rcases l with⟨_,_,h1,U⟩ | ⟨j,k,_,_,_,_,h1,U⟩
 ·exact .inr ⟨h1,U⟩
 exact .inl ⟨h1,U⟩
theorem QV(g:b1)(au:g.sz<=8388608)(i:Nat)(hi:i<8)(x:Node)(ag:g.nodes[i]?=some x)(r:Bool)(aD:iN g i x=r):fz prog (ar f121 0) (nR ((i:Nat):Int) (g.nodes.map Node.e) g.ay g.cap) (bif r then .ret else .normal) (bif r then vh false else nR ((i+1:Nat):Int) (g.nodes.map Node.e) g.ay g.cap):=by
 have a':=a6 ag;have aX:=b1.Cx au (eX ag);have dO:g.nodes[(i:Int).toNat]?=some x:=by simpa using ag
 have ew:decide ((i:Int)<(↑(g.nodes.map Node.e).length:Int))=true:=cf a';have c1:=QS x (by grind);rcases c7 (aL x) with U | U
 ·skip
  rcases c7 ((x.kind==1)==((i:Int)==0)) with ax | ax
  ·skip
   rcases arB g au i hi x ag (by grind) with⟨cz,l⟩ | ⟨cz,l⟩
   ·skip
    obtain rfl:r=true:=by rw[<-aD];grind[iN]
    exact aod ⟨ew,(by grind[ap,az,aL]),(by grind[ap,az,aL]),(bM Node.e dO),c1,(by rw[U];rfl),(by rw[ax];rfl),l,aa⟩
   skip
   obtain rfl:r=false:=by rw[<-aD];grind[iN]
   exact aoe ⟨ew,(by grind[ap,az,aL]),(by grind[ap,az,aL]),(bM Node.e dO),c1,(by rw[U];rfl),(by rw[ax];rfl),l,(by grind[ap,az,aL]),aa⟩
  skip
  obtain rfl:r=true:=by rw[<-aD];grind[iN]
  exact aoP ⟨ew,(by grind[ap,az,aL]),(by grind[ap,az,aL]),(bM Node.e dO),c1,(by rw[U];rfl),(by rw[ax];rfl),aa⟩
 skip
 obtain rfl:r=true:=by rw[<-aD];grind[iN]
 exact aoO ⟨ew,(by grind[ap,az,aL]),(by grind[ap,az,aL]),(bM Node.e dO),c1,(by rw[U];rfl),aa⟩
theorem QW(g:b1)(au:g.sz<=8388608)(i:Nat)(hi:i<8)(x:Node)(ag:g.nodes[i]?=some x)(r:Bool)(aD:iN g i x=r):fz prog (ar f179 0) (nS (g.nodes.map Node.e) ((i:Nat):Int) (g.nodes.map Node.e) g.ay g.cap) (bif r then .ret else .normal) (bif r then vi false else nS (g.nodes.map Node.e) ((i+1:Nat):Int) (g.nodes.map Node.e) g.ay g.cap):=by
 have a':=a6 ag;have aX:=b1.Cx au (eX ag);have dO:g.nodes[(i:Int).toNat]?=some x:=by simpa using ag
 have ew:decide ((i:Int)<(↑(g.nodes.map Node.e).length:Int))=true:=cf a';have c1:=arA x (by grind);rcases c7 (aL x) with U | U
 ·skip
  rcases c7 ((x.kind==1)==((i:Int)==0)) with ax | ax
  ·skip
   rcases arC g au i hi x ag (by grind) with⟨cz,l⟩ | ⟨cz,l⟩
   ·skip
    obtain rfl:r=true:=by rw[<-aD];grind[iN]
    exact an0 ⟨ew,(by grind[ap,az,aL]),(by grind[ap,az,aL]),(bM Node.e dO),c1,(by rw[U];rfl),(by rw[ax];rfl),l,aa⟩
   skip
   obtain rfl:r=false:=by rw[<-aD];grind[iN]
   exact an1 ⟨ew,(by grind[ap,az,aL]),(by grind[ap,az,aL]),(bM Node.e dO),c1,(by rw[U];rfl),(by rw[ax];rfl),l,(by grind[ap,az,aL]),aa⟩
  skip
  obtain rfl:r=true:=by rw[<-aD];grind[iN]
  exact aom ⟨ew,(by grind[ap,az,aL]),(by grind[ap,az,aL]),(bM Node.e dO),c1,(by rw[U];rfl),(by rw[ax];rfl),aa⟩
 skip
 obtain rfl:r=true:=by rw[<-aD];grind[iN]
 exact aol ⟨ew,(by grind[ap,az,aL]),(by grind[ap,az,aL]),(bM Node.e dO),c1,(by rw[U];rfl),aa⟩
theorem arD(g:b1)(au:g.sz<=8388608)(c8:g.nodes.length<=8):
  (anyI (iN g) 0 g.nodes=true/\c0 prog (ar f121 0) (nR 0 (g.nodes.map Node.e) g.ay g.cap) .ret (vh false))\/(anyI (iN g) 0 g.nodes=false/\c0 prog (ar f121 0) (nR 0 (g.nodes.map Node.e) g.ay g.cap) (.exit 0) JB):=by
 have l:=tG (P:=prog) (c:=(ar f121 0)) g.nodes (iN g) (fun i=>nR (i:Nat) (g.nodes.map Node.e) g.ay g.cap) (X:=vh false) fi (cM 0)
  (fun i x ag h=>QV g au i (by have:=a6 ag;omega) x ag false h)
  (fun i x ag h=>QV g au i (by have:=a6 ag;omega) x ag true h)
  (aof ⟨dU,aa⟩)
 rcases l with⟨h1,U⟩ | ⟨h1,U⟩
 ·exact .inr ⟨h1,U⟩
 exact .inl ⟨h1,U⟩
theorem aq1(g:b1)(au:g.sz<=8388608)(c8:g.nodes.length<=8):
  (anyI (iN g) 0 g.nodes=true/\c0 prog (ar f179 0) (nS (g.nodes.map Node.e) 0 (g.nodes.map Node.e) g.ay g.cap) .ret (vi false))\/(anyI (iN g) 0 g.nodes=false/\c0 prog (ar f179 0) (nS (g.nodes.map Node.e) 0 (g.nodes.map Node.e) g.ay g.cap) (.exit 0) JD):=by
 have l:=tG (P:=prog) (c:=(ar f179 0)) g.nodes (iN g) (fun i=>nS (g.nodes.map Node.e) (i:Nat) (g.nodes.map Node.e) g.ay g.cap) (X:=vi false) fi (cM 0)
  (fun i x ag h=>QW g au i (by have:=a6 ag;omega) x ag false h)
  (fun i x ag h=>QW g au i (by have:=a6 ag;omega) x ag true h)
  (an2 ⟨dU,aa⟩)
 rcases l with⟨h1,U⟩ | ⟨h1,U⟩
 ·exact .inr ⟨h1,U⟩
 exact .inl ⟨h1,U⟩
theorem xK(g:b1)(au:g.sz<=8388608):av 121 [.agg g.e] [.one (B (eA g))]:=by
 have c1:=ia (↑(g.nodes.map Node.e).length:Int) 1 8;rcases c7 (ap (↑(g.nodes.map Node.e).length:Int) 1 8) with U | U
 ·skip
  have cR:=ia g.ay 1 4;rcases c7 (ap g.ay 1 4) with aK | aK
  ·skip
   have h3:=ia g.cap 1 4;rcases c7 (ap g.cap 1 4) with bw | bw
   ·skip
    rcases arD g au (by grind[ap]) with⟨cz,l⟩ | ⟨cz,l⟩
    ·skip
     rw[show eA g=false from by grind[eA]];exact aog ⟨c1,(by rw[U];rfl),cR,(by rw[aK];rfl),h3,(by rw[bw];rfl),l,aa⟩
    skip
    rw[show eA g=true from by grind[eA]];exact aoh ⟨c1,(by rw[U];rfl),cR,(by rw[aK];rfl),h3,(by rw[bw];rfl),l,aa⟩
   skip
   rw[show eA g=false from by grind[eA]];exact aoN ⟨c1,(by rw[U];rfl),cR,(by rw[aK];rfl),h3,(by rw[bw];rfl),aa⟩
  skip
  rw[show eA g=false from by grind[eA]];exact aoM ⟨c1,(by rw[U];rfl),cR,(by rw[aK];rfl),aa⟩
 skip
 rw[show eA g=false from by grind[eA]];exact aoL ⟨c1,(by rw[U];rfl),aa⟩
theorem QX(g:b1)(au:g.sz<=8388608):av 179 [.agg g.e] [.one (B (eA g))]:=by
 have c1:=kf (↑(g.nodes.map Node.e).length:Int) 1 8;rcases c7 (ap (↑(g.nodes.map Node.e).length:Int) 1 8) with U | U
 ·skip
  have cR:=kf g.ay 1 4;rcases c7 (ap g.ay 1 4) with aK | aK
  ·skip
   have h3:=kf g.cap 1 4;rcases c7 (ap g.cap 1 4) with bw | bw
   ·skip
    rcases aq1 g au (by grind[ap]) with⟨cz,l⟩ | ⟨cz,l⟩
    ·skip
     rw[show eA g=false from by grind[eA]];exact an3 ⟨c1,(by rw[U];rfl),cR,(by rw[aK];rfl),h3,(by rw[bw];rfl),l,aa⟩
    skip
    rw[show eA g=true from by grind[eA]];exact an4 ⟨c1,(by rw[U];rfl),cR,(by rw[aK];rfl),h3,(by rw[bw];rfl),l,aa⟩
   skip
   rw[show eA g=false from by grind[eA]];exact aok ⟨c1,(by rw[U];rfl),cR,(by rw[aK];rfl),h3,(by rw[bw];rfl),aa⟩
  skip
  rw[show eA g=false from by grind[eA]];exact aoj ⟨c1,(by rw[U];rfl),cR,(by rw[aK];rfl),aa⟩
 skip
 rw[show eA g=false from by grind[eA]];exact aoi ⟨c1,(by rw[U];rfl),aa⟩
theorem aq2(x:Node)(k v:Int)(ag:x.outs.length<=8388608):av 267 [.agg x.e,.one (I k),.one (I v)] [.one (I ((dQ x k v).1)),.one (I ((dQ x k v).2.1)),.one (B ((dQ x k v).2.2))]:=by
 have c1:=QS x (by grind);rcases c7 (aL x) with U | U
 ·skip
  have cR:=ia k 0 99;rcases c7 (ap k 0 99) with aK | aK
  ·skip
   have h3:=ia v 0 999;rcases c7 (ap v 0 999) with bw | bw
   ·skip
    rcases c7 (x.kind==2) with bX | bX
    ·skip
     have rv:=arz (v+x.a) 999;rw[show dQ x k v=(k,less (v+x.a) 999,true) from by grind[dQ,f',less,aL,bP]];exact apN ⟨c1,(by rw[U];rfl),cR,(by rw[aK];rfl),h3,(by rw[bw];rfl),bX,(by grind[aL,bP,ap,az,f']),rv,aa⟩
    skip
    rcases c7 (x.kind==4) with ed | ed
    ·skip
     rw[show dQ x k v=((k+x.a).tmod 100,v,true) from by grind[dQ,f',less,aL,bP]];exact apO ⟨c1,(by rw[U];rfl),cR,(by rw[aK];rfl),h3,(by rw[bw];rfl),bX,ed,(by grind[aL,bP,ap,az,f']),(by grind[aL,bP,ap,az,f']),aa⟩
    skip
    rcases c7 (x.kind==3) with dK | dK
    ·skip
     rw[show dQ x k v=(k,v,k.tmod x.a==x.b) from by grind[dQ,f',less,aL,bP]];exact apP ⟨c1,(by rw[U];rfl),cR,(by rw[aK];rfl),h3,(by rw[bw];rfl),bX,ed,dK,(by grind[aL,bP,ap,az,f']),aa⟩
    skip
    rw[show dQ x k v=(k,v,x.kind != 8) from by grind[dQ,f',less,aL,bP]];exact apQ ⟨c1,(by rw[U];rfl),cR,(by rw[aK];rfl),h3,(by rw[bw];rfl),bX,ed,dK,aa⟩
   skip
   rw[show dQ x k v=(k,v,false) from by grind[dQ,f',less,aL,bP]];exact apM ⟨c1,(by rw[U];rfl),cR,(by rw[aK];rfl),h3,(by rw[bw];rfl),aa⟩
  skip
  rw[show dQ x k v=(k,v,false) from by grind[dQ,f',less,aL,bP]];exact apL ⟨c1,(by rw[U];rfl),cR,(by rw[aK];rfl),aa⟩
 skip
 rw[show dQ x k v=(k,v,false) from by grind[dQ,f',less,aL,bP]];exact apK ⟨c1,(by rw[U];rfl),aa⟩
def gx(a b:Cell):Bool:=a.op==b.op&&a.bf==b.bf&&a.key==b.key
def kV(op cX key:Int)(s:Int×Bool)(a:Cell):Int×Bool:=if a.op=op/\a.bf=cX/\a.key=key/\(s.2=false\/a.val<s.1) then (a.val,true) else s
def tK(xs:List Cell)(op cX key:Int):Int×Bool:=xs.foldl (kV op cX key) (0,false)
theorem aq3(xs:List Cell)(ak:xs.length<=8388608)(op cX key m:Int)(f:Bool)(i:Nat)(a:Cell)(aj:xs[i]?=some a):fz prog (ar f324 0) (kS (xs.map Cell.e) op cX key i f m) .normal (kS (xs.map Cell.e) op cX key ((i+1:Nat):Int) (kV op cX key (m,f) a).2 (kV op cX key (m,f) a).1):=by
 have a':=a6 aj;have dO:xs[(i:Int).toNat]?=some a:=by simpa using aj
 have ew:decide ((i:Int)<(↑(xs.map Cell.e).length:Int))=true:=cf a';rcases c7 (a.op==op) with h1 | h1
 ·skip
  rcases c7 (a.bf==cX) with U | U
  ·skip
   rcases c7 (a.key==key) with ax | ax
   ·skip
    rcases c7 (f) with aK | aK
    ·skip
     rcases c7 (decide (a.val<m)) with aV | aV
     ·skip
      rw[show kV op cX key (m,f) a=(a.val,true) from by grind[kV,gx]];exact anj ⟨ew,(by grind[az]),(by grind[az]),(bM Cell.e dO),h1,U,ax,(by rw[aK];rfl),aV,(by grind[az]),aa⟩
     skip
     rw[show kV op cX key (m,f) a=(m,f) from by grind[kV,gx]];exact ank ⟨ew,(by grind[az]),(by grind[az]),(bM Cell.e dO),h1,U,ax,(by rw[aK];rfl),aV,(by grind[az]),aa⟩
    skip
    rw[show kV op cX key (m,f) a=(a.val,true) from by grind[kV,gx]];exact ani ⟨ew,(by grind[az]),(by grind[az]),(bM Cell.e dO),h1,U,ax,(by rw[aK];rfl),(by grind[az]),aa⟩
   skip
   rw[show kV op cX key (m,f) a=(m,f) from by grind[kV,gx]];exact anl ⟨ew,(by grind[az]),(by grind[az]),(bM Cell.e dO),h1,U,ax,(by grind[az]),aa⟩
  skip
  rw[show kV op cX key (m,f) a=(m,f) from by grind[kV,gx]];exact anm ⟨ew,(by grind[az]),(by grind[az]),(bM Cell.e dO),h1,U,(by grind[az]),aa⟩
 skip
 rw[show kV op cX key (m,f) a=(m,f) from by grind[kV,gx]];exact ann ⟨ew,(by grind[az]),(by grind[az]),(bM Cell.e dO),h1,(by grind[az]),aa⟩
theorem QY(xs:List Cell)(op cX key:Int)(ak:xs.length<=8388608):av 324 [.one (.J 4 (xs.map Cell.e)),.one (I op),.one (I cX),.one (I key)] [.one (I (tK xs op cX key).1),.one (B (tK xs op cX key).2)]:=by
 have l:=e7 (P:=prog) (c:=(ar f324 0)) (cM 0) xs.length (fun i:Nat=>kS (xs.map Cell.e) op cX key i (vO (kV op cX key) (0,false) xs i).2 (vO (kV op cX key) (0,false) xs i).1) (fun i hi=>by
  obtain⟨a,aj⟩:=cY hi;rw[akt aj];exact aq3 xs ak op cX key _ _ i a aj) (ano ⟨dU,aa⟩)
 rw[aku]at l;exact anp ⟨l,aa⟩
