import Derived.Test.YtdchjefneblpgaaGreatP15
set_option linter.unusedVariables false
set_option linter.unusedSimpArgs false
namespace Go.Proofs.YtdchjefneblpgaaGreat
open Go.Sx Go.RowKit Go.Proofs.Tryz
def iR(g:b0)(k:Int):Int:=match g.nodes[k.toNat]? with | some y=>y.kind | none=>0
def gR(g:b0)(i:Nat)(x:Node)(k:Int):Bool:=
 decide ((g.nodes.length:Int)<=k)||(if x.kind=7 then decide ((i:Int)<k)||(iR g k != 5&&iR g k != 6) else decide (k<=i))
def jL(g:b0)(i:Nat)(x:Node):Bool:=!aH x||(decide (x.kind=1) != decide ((i:Int)=0))||x.outs.any (gR g i x)
def eo(g:b0):Bool:=ap g.nodes.length 1 8&&ap g.aq 1 4&&ap g.cap 1 4&&!(anyI (jL g) 0 g.nodes)
def cC(x:Node)(k v:Int):Int×Int×Bool:=
 if aH x&&fm k v then
  if x.kind=2 then (k,less (v+x.a) 999,true)
  else if x.kind=4 then ((k+x.a).tmod 100,v,true)
  else if x.kind=3 then (k,v,k.tmod x.a==x.b)
  else (k,v,x.kind != 8)
 else (k,v,false)
theorem MA{l:List Int}(h:ot l=true){k:Int}(hk:k∈l):ap k 0 7=true:=by
 simp only[ot,gy,ff]at h;simpa using h k hk
theorem TJ(g:b0)(ar:g.sz<=8388608)(i:Nat)(hi:i<8)(x:Node)(aa:g.nodes[i]?=some x)(bD:aH x=true)(j:Nat)(k:Int)(hk:x.outs[j]?=some k)(r:Bool)(az:gR g i x k=r):gA prog (av f121 1) (iP i (g.nodes.map Node.e) g.aq g.cap x.kind x.a x.b (x.outs.map ba) (j:Int)) (bif r then .ret else .normal) (bif r then su false else iP i (g.nodes.map Node.e) g.aq g.cap x.kind x.a x.b (x.outs.map ba) ((j+1:Nat):Int)):=by
 have aP:=aX hk;have aj:x.outs.length<=2:=by grind[aH]
 have mL:ap k 0 7=true:=MA (by grind[aH]) (cG hk);have dy:x.outs[(j:Int).toNat]?=some k:=by simpa using hk
 have eA:decide ((j:Int)<(↑(x.outs.map ba).length:Int))=true:=b4 aP;rcases cN (decide (k>=(↑(g.nodes.map Node.e).length:Int))) with h1 | h1
 ·skip
  obtain rfl:r=true:=by rw[<-az];grind[gR,iR,ap]
  exact arE ⟨eA,(by grind[ap,aC,aH]),(by grind[ap,aC,aH]),(bJ ba dy),h1,ae⟩
 skip
 rcases cN (x.kind != 7) with U | U
 ·skip
  rcases cN (decide (k<=(i:Int))) with ax | ax
  ·skip
   obtain rfl:r=true:=by rw[<-az];grind[gR,iR,ap]
   exact arF ⟨eA,(by grind[ap,aC,aH]),(by grind[ap,aC,aH]),(bJ ba dy),h1,U,ax,ae⟩
  skip
  obtain⟨XY,Bh⟩:=look (xs:=g.nodes) (i:=k) (by grind[ap,aC,aH]) (by grind[ap,aC,aH]);rcases cN (x.kind==7) with aQ | aQ
  ·skip
   rcases cN (decide (k>(i:Int))) with bb | bb
   ·skip
    obtain rfl:r=true:=by rw[<-az];grind[gR,iR,ap]
    exact arG ⟨eA,(by grind[ap,aC,aH]),(by grind[ap,aC,aH]),(bJ ba dy),h1,U,ax,(by grind[ap,aC,aH]),(by grind[ap,aC,aH]),(bJ Node.e Bh),aQ,bb,ae⟩
   skip
   rcases cN (XY.kind != 5) with bN | bN
   ·skip
    rcases cN (XY.kind != 6) with dj | dj
    ·skip
     obtain rfl:r=true:=by rw[<-az];grind[gR,iR,ap]
     exact aq4 ⟨eA,(by grind[ap,aC,aH]),(by grind[ap,aC,aH]),(bJ ba dy),h1,U,ax,(by grind[ap,aC,aH]),(by grind[ap,aC,aH]),(bJ Node.e Bh),aQ,bb,bN,dj,ae⟩
    skip
    obtain rfl:r=false:=by rw[<-az];grind[gR,iR,ap]
    exact aq5 ⟨eA,(by grind[ap,aC,aH]),(by grind[ap,aC,aH]),(bJ ba dy),h1,U,ax,(by grind[ap,aC,aH]),(by grind[ap,aC,aH]),(bJ Node.e Bh),aQ,bb,bN,dj,(by grind[ap,aC,aH]),ae⟩
   skip
   obtain rfl:r=false:=by rw[<-az];grind[gR,iR,ap]
   exact aq6 ⟨eA,(by grind[ap,aC,aH]),(by grind[ap,aC,aH]),(bJ ba dy),h1,U,ax,(by grind[ap,aC,aH]),(by grind[ap,aC,aH]),(bJ Node.e Bh),aQ,bb,bN,(by grind[ap,aC,aH]),ae⟩
  skip
  obtain rfl:r=false:=by rw[<-az];grind[gR,iR,ap]
  exact aq7 ⟨eA,(by grind[ap,aC,aH]),(by grind[ap,aC,aH]),(bJ ba dy),h1,U,ax,(by grind[ap,aC,aH]),(by grind[ap,aC,aH]),(bJ Node.e Bh),aQ,(by grind[ap,aC,aH]),ae⟩
 skip
 obtain⟨Ht,tE⟩:=look (xs:=g.nodes) (i:=k) (by grind[ap,aC,aH]) (by grind[ap,aC,aH]);rcases cN (x.kind==7) with dU | dU
 ·skip
  rcases cN (decide (k>(i:Int))) with iJ | iJ
  ·skip
   obtain rfl:r=true:=by rw[<-az];grind[gR,iR,ap]
   exact aq8 ⟨eA,(by grind[ap,aC,aH]),(by grind[ap,aC,aH]),(bJ ba dy),h1,U,(by grind[ap,aC,aH]),(by grind[ap,aC,aH]),(bJ Node.e tE),dU,iJ,ae⟩
  skip
  rcases cN (Ht.kind != 5) with jc | jc
  ·skip
   rcases cN (Ht.kind != 6) with uI | uI
   ·skip
    obtain rfl:r=true:=by rw[<-az];grind[gR,iR,ap]
    exact aq9 ⟨eA,(by grind[ap,aC,aH]),(by grind[ap,aC,aH]),(bJ ba dy),h1,U,(by grind[ap,aC,aH]),(by grind[ap,aC,aH]),(bJ Node.e tE),dU,iJ,jc,uI,ae⟩
   skip
   obtain rfl:r=false:=by rw[<-az];grind[gR,iR,ap]
   exact ara ⟨eA,(by grind[ap,aC,aH]),(by grind[ap,aC,aH]),(bJ ba dy),h1,U,(by grind[ap,aC,aH]),(by grind[ap,aC,aH]),(bJ Node.e tE),dU,iJ,jc,uI,(by grind[ap,aC,aH]),ae⟩
  skip
  obtain rfl:r=false:=by rw[<-az];grind[gR,iR,ap]
  exact arb ⟨eA,(by grind[ap,aC,aH]),(by grind[ap,aC,aH]),(bJ ba dy),h1,U,(by grind[ap,aC,aH]),(by grind[ap,aC,aH]),(bJ Node.e tE),dU,iJ,jc,(by grind[ap,aC,aH]),ae⟩
 skip
 obtain rfl:r=false:=by rw[<-az];grind[gR,iR,ap]
 exact arc ⟨eA,(by grind[ap,aC,aH]),(by grind[ap,aC,aH]),(bJ ba dy),h1,U,(by grind[ap,aC,aH]),(by grind[ap,aC,aH]),(bJ Node.e tE),dU,(by grind[ap,aC,aH]),ae⟩
theorem TK(g:b0)(ar:g.sz<=8388608)(i:Nat)(hi:i<8)(x:Node)(aa:g.nodes[i]?=some x)(bD:aH x=true)(j:Nat)(k:Int)(hk:x.outs[j]?=some k)(r:Bool)(az:gR g i x k=r):gA prog (av f179 1) (iQ (g.nodes.map Node.e) i (g.nodes.map Node.e) g.aq g.cap x.kind x.a x.b (x.outs.map ba) (j:Int)) (bif r then .ret else .normal) (bif r then sv false else iQ (g.nodes.map Node.e) i (g.nodes.map Node.e) g.aq g.cap x.kind x.a x.b (x.outs.map ba) ((j+1:Nat):Int)):=by
 have aP:=aX hk;have aj:x.outs.length<=2:=by grind[aH]
 have mL:ap k 0 7=true:=MA (by grind[aH]) (cG hk);have dy:x.outs[(j:Int).toNat]?=some k:=by simpa using hk
 have eA:decide ((j:Int)<(↑(x.outs.map ba).length:Int))=true:=b4 aP;rcases cN (decide (k>=(↑(g.nodes.map Node.e).length:Int))) with h1 | h1
 ·skip
  obtain rfl:r=true:=by rw[<-az];grind[gR,iR,ap]
  exact asS ⟨eA,(by grind[ap,aC,aH]),(by grind[ap,aC,aH]),(bJ ba dy),h1,ae⟩
 skip
 obtain⟨iE,lG⟩:=look (xs:=g.nodes) (i:=k) (by grind[ap,aC,aH]) (by grind[ap,aC,aH]);rcases cN (x.kind==7) with ax | ax
 ·skip
  rcases cN (decide (k>(i:Int))) with aF | aF
  ·skip
   obtain rfl:r=true:=by rw[<-az];grind[gR,iR,ap]
   exact asT ⟨eA,(by grind[ap,aC,aH]),(by grind[ap,aC,aH]),(bJ ba dy),h1,(by grind[ap,aC,aH]),(by grind[ap,aC,aH]),(bJ Node.e lG),ax,aF,ae⟩
  skip
  rcases cN (iE.kind != 5) with aQ | aQ
  ·skip
   rcases cN (iE.kind != 6) with bb | bb
   ·skip
    obtain rfl:r=true:=by rw[<-az];grind[gR,iR,ap]
    exact asU ⟨eA,(by grind[ap,aC,aH]),(by grind[ap,aC,aH]),(bJ ba dy),h1,(by grind[ap,aC,aH]),(by grind[ap,aC,aH]),(bJ Node.e lG),ax,aF,aQ,bb,ae⟩
   skip
   rcases cN (x.kind != 7) with bN | bN
   ·skip
    rcases cN (decide (k<=(i:Int))) with dj | dj
    ·skip
     obtain rfl:r=true:=by rw[<-az];grind[gR,iR,ap]
     exact asV ⟨eA,(by grind[ap,aC,aH]),(by grind[ap,aC,aH]),(bJ ba dy),h1,(by grind[ap,aC,aH]),(by grind[ap,aC,aH]),(bJ Node.e lG),ax,aF,aQ,bb,bN,dj,ae⟩
    skip
    obtain rfl:r=false:=by rw[<-az];grind[gR,iR,ap]
    exact asW ⟨eA,(by grind[ap,aC,aH]),(by grind[ap,aC,aH]),(bJ ba dy),h1,(by grind[ap,aC,aH]),(by grind[ap,aC,aH]),(bJ Node.e lG),ax,aF,aQ,bb,bN,dj,(by grind[ap,aC,aH]),ae⟩
   skip
   obtain rfl:r=false:=by rw[<-az];grind[gR,iR,ap]
   exact asX ⟨eA,(by grind[ap,aC,aH]),(by grind[ap,aC,aH]),(bJ ba dy),h1,(by grind[ap,aC,aH]),(by grind[ap,aC,aH]),(bJ Node.e lG),ax,aF,aQ,bb,bN,(by grind[ap,aC,aH]),ae⟩
  skip
  rcases cN (x.kind != 7) with ej | ej
  ·skip
   rcases cN (decide (k<=(i:Int))) with dU | dU
   ·skip
    obtain rfl:r=true:=by rw[<-az];grind[gR,iR,ap]
    exact asY ⟨eA,(by grind[ap,aC,aH]),(by grind[ap,aC,aH]),(bJ ba dy),h1,(by grind[ap,aC,aH]),(by grind[ap,aC,aH]),(bJ Node.e lG),ax,aF,aQ,ej,dU,ae⟩
   skip
   obtain rfl:r=false:=by rw[<-az];grind[gR,iR,ap]
   exact asZ ⟨eA,(by grind[ap,aC,aH]),(by grind[ap,aC,aH]),(bJ ba dy),h1,(by grind[ap,aC,aH]),(by grind[ap,aC,aH]),(bJ Node.e lG),ax,aF,aQ,ej,dU,(by grind[ap,aC,aH]),ae⟩
  skip
  obtain rfl:r=false:=by rw[<-az];grind[gR,iR,ap]
  exact as0 ⟨eA,(by grind[ap,aC,aH]),(by grind[ap,aC,aH]),(bJ ba dy),h1,(by grind[ap,aC,aH]),(by grind[ap,aC,aH]),(bJ Node.e lG),ax,aF,aQ,ej,(by grind[ap,aC,aH]),ae⟩
 skip
 rcases cN (x.kind != 7) with iJ | iJ
 ·skip
  rcases cN (decide (k<=(i:Int))) with jc | jc
  ·skip
   obtain rfl:r=true:=by rw[<-az];grind[gR,iR,ap]
   exact as1 ⟨eA,(by grind[ap,aC,aH]),(by grind[ap,aC,aH]),(bJ ba dy),h1,(by grind[ap,aC,aH]),(by grind[ap,aC,aH]),(bJ Node.e lG),ax,iJ,jc,ae⟩
  skip
  obtain rfl:r=false:=by rw[<-az];grind[gR,iR,ap]
  exact as2 ⟨eA,(by grind[ap,aC,aH]),(by grind[ap,aC,aH]),(bJ ba dy),h1,(by grind[ap,aC,aH]),(by grind[ap,aC,aH]),(bJ Node.e lG),ax,iJ,jc,(by grind[ap,aC,aH]),ae⟩
 skip
 obtain rfl:r=false:=by rw[<-az];grind[gR,iR,ap]
 exact as3 ⟨eA,(by grind[ap,aC,aH]),(by grind[ap,aC,aH]),(bJ ba dy),h1,(by grind[ap,aC,aH]),(by grind[ap,aC,aH]),(bJ Node.e lG),ax,iJ,(by grind[ap,aC,aH]),ae⟩
theorem abm(g:b0)(ar:g.sz<=8388608)(i:Nat)(hi:i<8)(x:Node)(aa:g.nodes[i]?=some x)(bD:aH x=true):
  (x.outs.any (gR g i x)=true/\c6 prog (av f121 1) (iP i (g.nodes.map Node.e) g.aq g.cap x.kind x.a x.b (x.outs.map ba) 0) .ret (su false))\/(x.outs.any (gR g i x)=false/\c6 prog (av f121 1) (iP i (g.nodes.map Node.e) g.aq g.cap x.kind x.a x.b (x.outs.map ba) 0) (.exit 2) (Mt i (g.nodes.map Node.e) g.aq g.cap)):=by
 have l:=hv (P:=prog) (c:=(av f121 1)) x.outs (gR g i x) (fun j=>iP i (g.nodes.map Node.e) g.aq g.cap x.kind x.a x.b (x.outs.map ba) j) (X:=fun _ _=>su false) fl (cL 2)
  (fun j k hk h=>TJ g ar i hi x aa bD j k hk false h)
  (fun j k hk h=>TJ g ar i hi x aa bD j k hk true h)
  (ard ⟨ec,ae⟩)
 rcases l with⟨_,_,h1,U⟩ | ⟨j,k,_,_,_,_,h1,U⟩
 ·exact .inr ⟨h1,U⟩
 exact .inl ⟨h1,U⟩
theorem abn(g:b0)(ar:g.sz<=8388608)(i:Nat)(hi:i<8)(x:Node)(aa:g.nodes[i]?=some x)(bD:aH x=true):
  (x.outs.any (gR g i x)=true/\c6 prog (av f179 1) (iQ (g.nodes.map Node.e) i (g.nodes.map Node.e) g.aq g.cap x.kind x.a x.b (x.outs.map ba) 0) .ret (sv false))\/(x.outs.any (gR g i x)=false/\c6 prog (av f179 1) (iQ (g.nodes.map Node.e) i (g.nodes.map Node.e) g.aq g.cap x.kind x.a x.b (x.outs.map ba) 0) (.exit 2) (Mv (g.nodes.map Node.e) i (g.nodes.map Node.e) g.aq g.cap)):=by
 have l:=hv (P:=prog) (c:=(av f179 1)) x.outs (gR g i x) (fun j=>iQ (g.nodes.map Node.e) i (g.nodes.map Node.e) g.aq g.cap x.kind x.a x.b (x.outs.map ba) j) (X:=fun _ _=>sv false) fl (cL 2)
  (fun j k hk h=>TK g ar i hi x aa bD j k hk false h)
  (fun j k hk h=>TK g ar i hi x aa bD j k hk true h)
  (as4 ⟨ec,ae⟩)
 rcases l with⟨_,_,h1,U⟩ | ⟨j,k,_,_,_,_,h1,U⟩
 ·exact .inr ⟨h1,U⟩
 exact .inl ⟨h1,U⟩
theorem TL(g:b0)(ar:g.sz<=8388608)(i:Nat)(hi:i<8)(x:Node)(aa:g.nodes[i]?=some x)(r:Bool)(az:jL g i x=r):gA prog (av f121 0) (pv ((i:Nat):Int) (g.nodes.map Node.e) g.aq g.cap) (bif r then .ret else .normal) (bif r then wX false else pv ((i+1:Nat):Int) (g.nodes.map Node.e) g.aq g.cap):=by
 have aP:=aX aa;have aN:=b0.Bw ar (cG aa);have dy:g.nodes[(i:Int).toNat]?=some x:=by simpa using aa
 have eA:decide ((i:Int)<(↑(g.nodes.map Node.e).length:Int))=true:=b4 aP;have c1:=TH x (by grind);rcases cN (aH x) with U | U
 ·skip
  rcases cN ((x.kind==1)==((i:Int)==0)) with ax | ax
  ·skip
   rcases abm g ar i hi x aa (by grind) with⟨cz,l⟩ | ⟨cz,l⟩
   ·skip
    obtain rfl:r=true:=by rw[<-az];grind[jL]
    exact asI ⟨eA,(by grind[ap,aC,aH]),(by grind[ap,aC,aH]),(bJ Node.e dy),c1,(by rw[U];rfl),(by rw[ax];rfl),l,ae⟩
   skip
   obtain rfl:r=false:=by rw[<-az];grind[jL]
   exact asJ ⟨eA,(by grind[ap,aC,aH]),(by grind[ap,aC,aH]),(bJ Node.e dy),c1,(by rw[U];rfl),(by rw[ax];rfl),l,(by grind[ap,aC,aH]),ae⟩
  skip
  obtain rfl:r=true:=by rw[<-az];grind[jL]
  exact arD ⟨eA,(by grind[ap,aC,aH]),(by grind[ap,aC,aH]),(bJ Node.e dy),c1,(by rw[U];rfl),(by rw[ax];rfl),ae⟩
 skip
 obtain rfl:r=true:=by rw[<-az];grind[jL]
 exact arC ⟨eA,(by grind[ap,aC,aH]),(by grind[ap,aC,aH]),(bJ Node.e dy),c1,(by rw[U];rfl),ae⟩
theorem TM(g:b0)(ar:g.sz<=8388608)(i:Nat)(hi:i<8)(x:Node)(aa:g.nodes[i]?=some x)(r:Bool)(az:jL g i x=r):gA prog (av f179 0) (pw (g.nodes.map Node.e) ((i:Nat):Int) (g.nodes.map Node.e) g.aq g.cap) (bif r then .ret else .normal) (bif r then wY false else pw (g.nodes.map Node.e) ((i+1:Nat):Int) (g.nodes.map Node.e) g.aq g.cap):=by
 have aP:=aX aa;have aN:=b0.Bw ar (cG aa);have dy:g.nodes[(i:Int).toNat]?=some x:=by simpa using aa
 have eA:decide ((i:Int)<(↑(g.nodes.map Node.e).length:Int))=true:=b4 aP;have c1:=TI x (by grind);rcases cN (aH x) with U | U
 ·skip
  rcases cN ((x.kind==1)==((i:Int)==0)) with ax | ax
  ·skip
   rcases abn g ar i hi x aa (by grind) with⟨cz,l⟩ | ⟨cz,l⟩
   ·skip
    obtain rfl:r=true:=by rw[<-az];grind[jL]
    exact as5 ⟨eA,(by grind[ap,aC,aH]),(by grind[ap,aC,aH]),(bJ Node.e dy),c1,(by rw[U];rfl),(by rw[ax];rfl),l,ae⟩
   skip
   obtain rfl:r=false:=by rw[<-az];grind[jL]
   exact as6 ⟨eA,(by grind[ap,aC,aH]),(by grind[ap,aC,aH]),(bJ Node.e dy),c1,(by rw[U];rfl),(by rw[ax];rfl),l,(by grind[ap,aC,aH]),ae⟩
  skip
  obtain rfl:r=true:=by rw[<-az];grind[jL]
  exact asR ⟨eA,(by grind[ap,aC,aH]),(by grind[ap,aC,aH]),(bJ Node.e dy),c1,(by rw[U];rfl),(by rw[ax];rfl),ae⟩
 skip
 obtain rfl:r=true:=by rw[<-az];grind[jL]
 exact asQ ⟨eA,(by grind[ap,aC,aH]),(by grind[ap,aC,aH]),(bJ Node.e dy),c1,(by rw[U];rfl),ae⟩
theorem abo(g:b0)(ar:g.sz<=8388608)(dj:g.nodes.length<=8):
  (anyI (jL g) 0 g.nodes=true/\c6 prog (av f121 0) (pv 0 (g.nodes.map Node.e) g.aq g.cap) .ret (wX false))\/(anyI (jL g) 0 g.nodes=false/\c6 prog (av f121 0) (pv 0 (g.nodes.map Node.e) g.aq g.cap) (.exit 0) Mu):=by
 have l:=u' (P:=prog) (c:=(av f121 0)) g.nodes (jL g) (fun i=>pv (i:Nat) (g.nodes.map Node.e) g.aq g.cap) (X:=wX false) fl (cL 0)
  (fun i x aa h=>TL g ar i (by have:=aX aa;omega) x aa false h)
  (fun i x aa h=>TL g ar i (by have:=aX aa;omega) x aa true h)
  (asK ⟨ec,ae⟩)
 rcases l with⟨h1,U⟩ | ⟨h1,U⟩
 ·exact .inr ⟨h1,U⟩
 exact .inl ⟨h1,U⟩
theorem abp(g:b0)(ar:g.sz<=8388608)(dj:g.nodes.length<=8):
  (anyI (jL g) 0 g.nodes=true/\c6 prog (av f179 0) (pw (g.nodes.map Node.e) 0 (g.nodes.map Node.e) g.aq g.cap) .ret (wY false))\/(anyI (jL g) 0 g.nodes=false/\c6 prog (av f179 0) (pw (g.nodes.map Node.e) 0 (g.nodes.map Node.e) g.aq g.cap) (.exit 0) Mw):=by
 have l:=u' (P:=prog) (c:=(av f179 0)) g.nodes (jL g) (fun i=>pw (g.nodes.map Node.e) (i:Nat) (g.nodes.map Node.e) g.aq g.cap) (X:=wY false) fl (cL 0)
  (fun i x aa h=>TM g ar i (by have:=aX aa;omega) x aa false h)
  (fun i x aa h=>TM g ar i (by have:=aX aa;omega) x aa true h)
  (as7 ⟨ec,ae⟩)
 rcases l with⟨h1,U⟩ | ⟨h1,U⟩
 ·exact .inr ⟨h1,U⟩
 exact .inl ⟨h1,U⟩
theorem Fu(g:b0)(ar:g.sz<=8388608):aw 121 [.agg g.e] [.one (B (eo g))]:=by
 have c1:=jl (↑(g.nodes.map Node.e).length:Int) 1 8;rcases cN (ap (↑(g.nodes.map Node.e).length:Int) 1 8) with U | U
 ·skip
  have cH:=jl g.aq 1 4;rcases cN (ap g.aq 1 4) with aF | aF
  ·skip
   have gY:=jl g.cap 1 4;rcases cN (ap g.cap 1 4) with bb | bb
   ·skip
    rcases abo g ar (by grind[ap]) with⟨cz,l⟩ | ⟨cz,l⟩
    ·skip
     rw[show eo g=false from by grind[eo]];exact asL ⟨c1,(by rw[U];rfl),cH,(by rw[aF];rfl),gY,(by rw[bb];rfl),l,ae⟩
    skip
    rw[show eo g=true from by grind[eo]];exact asM ⟨c1,(by rw[U];rfl),cH,(by rw[aF];rfl),gY,(by rw[bb];rfl),l,ae⟩
   skip
   rw[show eo g=false from by grind[eo]];exact arB ⟨c1,(by rw[U];rfl),cH,(by rw[aF];rfl),gY,(by rw[bb];rfl),ae⟩
  skip
  rw[show eo g=false from by grind[eo]];exact arA ⟨c1,(by rw[U];rfl),cH,(by rw[aF];rfl),ae⟩
 skip
 rw[show eo g=false from by grind[eo]];exact arz ⟨c1,(by rw[U];rfl),ae⟩
theorem zb(g:b0)(ar:g.sz<=8388608):aw 179 [.agg g.e] [.one (B (eo g))]:=by
 have c1:=lL (↑(g.nodes.map Node.e).length:Int) 1 8;rcases cN (ap (↑(g.nodes.map Node.e).length:Int) 1 8) with U | U
 ·skip
  have cH:=lL g.aq 1 4;rcases cN (ap g.aq 1 4) with aF | aF
  ·skip
   have gY:=lL g.cap 1 4;rcases cN (ap g.cap 1 4) with bb | bb
   ·skip
    rcases abp g ar (by grind[ap]) with⟨cz,l⟩ | ⟨cz,l⟩
    ·skip
     rw[show eo g=false from by grind[eo]];exact ash ⟨c1,(by rw[U];rfl),cH,(by rw[aF];rfl),gY,(by rw[bb];rfl),l,ae⟩
    skip
    rw[show eo g=true from by grind[eo]];exact asi ⟨c1,(by rw[U];rfl),cH,(by rw[aF];rfl),gY,(by rw[bb];rfl),l,ae⟩
   skip
   rw[show eo g=false from by grind[eo]];exact asP ⟨c1,(by rw[U];rfl),cH,(by rw[aF];rfl),gY,(by rw[bb];rfl),ae⟩
  skip
  rw[show eo g=false from by grind[eo]];exact asO ⟨c1,(by rw[U];rfl),cH,(by rw[aF];rfl),ae⟩
 skip
 rw[show eo g=false from by grind[eo]];exact asN ⟨c1,(by rw[U];rfl),ae⟩
theorem abq(x:Node)(k v:Int)(aa:x.outs.length<=8388608):aw 267 [.agg x.e,.one (I k),.one (I v)] [.one (I ((cC x k v).1)),.one (I ((cC x k v).2.1)),.one (B ((cC x k v).2.2))]:=by
 have c1:=TH x (by grind);rcases cN (aH x) with U | U
 ·skip
  have cH:=jl k 0 99;rcases cN (ap k 0 99) with aF | aF
  ·skip
   have gY:=jl v 0 999;rcases cN (ap v 0 999) with bb | bb
   ·skip
    rcases cN (x.kind==2) with bN | bN
    ·skip
     have nv:=acd (v+x.a) 999;rw[show cC x k v=(k,less (v+x.a) 999,true) from by grind[cC,fm,less,aH,bO]];exact asE ⟨c1,(by rw[U];rfl),cH,(by rw[aF];rfl),gY,(by rw[bb];rfl),bN,(by grind[aH,bO,ap,aC,fm]),nv,ae⟩
    skip
    rcases cN (x.kind==4) with ej | ej
    ·skip
     rw[show cC x k v=((k+x.a).tmod 100,v,true) from by grind[cC,fm,less,aH,bO]];exact asF ⟨c1,(by rw[U];rfl),cH,(by rw[aF];rfl),gY,(by rw[bb];rfl),bN,ej,(by grind[aH,bO,ap,aC,fm]),(by grind[aH,bO,ap,aC,fm]),ae⟩
    skip
    rcases cN (x.kind==3) with dU | dU
    ·skip
     rw[show cC x k v=(k,v,k.tmod x.a==x.b) from by grind[cC,fm,less,aH,bO]];exact asG ⟨c1,(by rw[U];rfl),cH,(by rw[aF];rfl),gY,(by rw[bb];rfl),bN,ej,dU,(by grind[aH,bO,ap,aC,fm]),ae⟩
    skip
    rw[show cC x k v=(k,v,x.kind != 8) from by grind[cC,fm,less,aH,bO]];exact asH ⟨c1,(by rw[U];rfl),cH,(by rw[aF];rfl),gY,(by rw[bb];rfl),bN,ej,dU,ae⟩
   skip
   rw[show cC x k v=(k,v,false) from by grind[cC,fm,less,aH,bO]];exact asD ⟨c1,(by rw[U];rfl),cH,(by rw[aF];rfl),gY,(by rw[bb];rfl),ae⟩
  skip
  rw[show cC x k v=(k,v,false) from by grind[cC,fm,less,aH,bO]];exact asC ⟨c1,(by rw[U];rfl),cH,(by rw[aF];rfl),ae⟩
 skip
 rw[show cC x k v=(k,v,false) from by grind[cC,fm,less,aH,bO]];exact asB ⟨c1,(by rw[U];rfl),ae⟩
theorem abr(x:Node)(k v:Int)(aa:x.outs.length<=8388608):aw 298 [.agg x.e,.one (I k),.one (I v)] [.one (I ((cC x k v).1)),.one (I ((cC x k v).2.1)),.one (B ((cC x k v).2.2))]:=by
 have c1:=TI x (by grind);rcases cN (aH x) with U | U
 ·skip
  have cH:=TG k v;rcases cN (fm k v) with aF | aF
  ·skip
   rcases cN (x.kind==2) with aQ | aQ
   ·skip
    rw[show cC x k v=(k,if v+x.a<999 then v+x.a else 999,true) from by grind[cC,fm,less,aH,bO]];exact ar9 ⟨c1,(by rw[U];rfl),cH,(by rw[aF];rfl),aQ,(by grind[aH,bO,ap,aC,fm]),ae⟩
   skip
   rcases cN (x.kind==4) with bb | bb
   ·skip
    rw[show cC x k v=((k+x.a).tmod 100,v,true) from by grind[cC,fm,less,aH,bO]];exact asa ⟨c1,(by rw[U];rfl),cH,(by rw[aF];rfl),aQ,bb,(by grind[aH,bO,ap,aC,fm]),(by grind[aH,bO,ap,aC,fm]),ae⟩
   skip
   rcases cN (x.kind==3) with bN | bN
   ·skip
    rw[show cC x k v=(k,v,k.tmod x.a==x.b) from by grind[cC,fm,less,aH,bO]];exact asb ⟨c1,(by rw[U];rfl),cH,(by rw[aF];rfl),aQ,bb,bN,(by grind[aH,bO,ap,aC,fm]),ae⟩
   skip
   rw[show cC x k v=(k,v,x.kind != 8) from by grind[cC,fm,less,aH,bO]];exact asc ⟨c1,(by rw[U];rfl),cH,(by rw[aF];rfl),aQ,bb,bN,ae⟩
  skip
  rw[show cC x k v=(k,v,false) from by grind[cC,fm,less,aH,bO]];exact ar8 ⟨c1,(by rw[U];rfl),cH,(by rw[aF];rfl),ae⟩
 skip
 rw[show cC x k v=(k,v,false) from by grind[cC,fm,less,aH,bO]];exact ar7 ⟨c1,(by rw[U];rfl),ae⟩
def eO(a b:Cell):Bool:=a.op==b.op&&a.a7==b.a7&&a.key==b.key
def fo(op ep key:Int)(s:Int×Bool)(a:Cell):Int×Bool:=if a.op=op/\a.a7=ep/\a.key=key/\(s.2=false\/a.val<s.1) then (a.val,true) else s
def px(xs:List Cell)(op ep key:Int):Int×Bool:=xs.foldl (fo op ep key) (0,false)
theorem TN(a b:Cell):aw 347 [.agg a.e,.agg b.e] [.one (B (eO a b))]:=by
 rcases cN (a.op==b.op) with h1 | h1
 ·skip
  rcases cN (a.a7==b.a7) with U | U
  ·skip
   rw[show eO a b=(a.key==b.key) from by grind[eO]];exact aqW ⟨h1,U,ae⟩
  skip
  rw[show eO a b=false from by grind[eO]];exact aqX ⟨h1,U,ae⟩
 skip
 rw[show eO a b=false from by grind[eO]];exact aqY ⟨h1,ae⟩
theorem abt(xs:List Cell)(aj:xs.length<=8388608)(op ep key m:Int)(f:Bool)(i:Nat)(a:Cell)(ad:xs[i]?=some a):gA prog (av f324 0) (mv (xs.map Cell.e) op ep key i f m) .normal (mv (xs.map Cell.e) op ep key ((i+1:Nat):Int) (fo op ep key (m,f) a).2 (fo op ep key (m,f) a).1):=by
 have aP:=aX ad;have dy:xs[(i:Int).toNat]?=some a:=by simpa using ad
 have eA:decide ((i:Int)<(↑(xs.map Cell.e).length:Int))=true:=b4 aP;rcases cN (a.op==op) with h1 | h1
 ·skip
  rcases cN (a.a7==ep) with U | U
  ·skip
   rcases cN (a.key==key) with ax | ax
   ·skip
    rcases cN (f) with aF | aF
    ·skip
     rcases cN (decide (a.val<m)) with aQ | aQ
     ·skip
      rw[show fo op ep key (m,f) a=(a.val,true) from by grind[fo,eO]];exact aqa ⟨eA,(by grind[aC]),(by grind[aC]),(bJ Cell.e dy),h1,U,ax,(by rw[aF];rfl),aQ,(by grind[aC]),ae⟩
     skip
     rw[show fo op ep key (m,f) a=(m,f) from by grind[fo,eO]];exact aqb ⟨eA,(by grind[aC]),(by grind[aC]),(bJ Cell.e dy),h1,U,ax,(by rw[aF];rfl),aQ,(by grind[aC]),ae⟩
    skip
    rw[show fo op ep key (m,f) a=(a.val,true) from by grind[fo,eO]];exact ap9 ⟨eA,(by grind[aC]),(by grind[aC]),(bJ Cell.e dy),h1,U,ax,(by rw[aF];rfl),(by grind[aC]),ae⟩
   skip
   rw[show fo op ep key (m,f) a=(m,f) from by grind[fo,eO]];exact aqc ⟨eA,(by grind[aC]),(by grind[aC]),(bJ Cell.e dy),h1,U,ax,(by grind[aC]),ae⟩
  skip
  rw[show fo op ep key (m,f) a=(m,f) from by grind[fo,eO]];exact aqd ⟨eA,(by grind[aC]),(by grind[aC]),(bJ Cell.e dy),h1,U,(by grind[aC]),ae⟩
 skip
 rw[show fo op ep key (m,f) a=(m,f) from by grind[fo,eO]];exact arH ⟨eA,(by grind[aC]),(by grind[aC]),(bJ Cell.e dy),h1,(by grind[aC]),ae⟩
theorem abu(xs:List Cell)(aj:xs.length<=8388608)(op ep key m:Int)(f:Bool)(i:Nat)(a:Cell)(ad:xs[i]?=some a):gA prog (av f344 0) (pu (xs.map Cell.e) op ep key i f m) .normal (pu (xs.map Cell.e) op ep key ((i+1:Nat):Int) (fo op ep key (m,f) a).2 (fo op ep key (m,f) a).1):=by
 have aP:=aX ad;have dy:xs[(i:Int).toNat]?=some a:=by simpa using ad
 have eA:decide ((i:Int)<(↑(xs.map Cell.e).length:Int))=true:=b4 aP;have c1:=TN a (⟨op,ep,key,0⟩:Cell);rcases cN (eO a (⟨op,ep,key,0⟩:Cell)) with U | U
 ·skip
  rcases cN (f) with ax | ax
  ·skip
   rcases cN (decide (a.val<m)) with aF | aF
   ·skip
    rw[show fo op ep key (m,f) a=(a.val,true) from by grind[fo,eO]];exact aqg ⟨eA,(by grind[aC]),(by grind[aC]),(bJ Cell.e dy),c1,U,(by rw[ax];rfl),aF,(by grind[aC]),ae⟩
   skip
   rw[show fo op ep key (m,f) a=(m,f) from by grind[fo,eO]];exact aqh ⟨eA,(by grind[aC]),(by grind[aC]),(bJ Cell.e dy),c1,U,(by rw[ax];rfl),aF,(by grind[aC]),ae⟩
  skip
  rw[show fo op ep key (m,f) a=(a.val,true) from by grind[fo,eO]];exact aqf ⟨eA,(by grind[aC]),(by grind[aC]),(bJ Cell.e dy),c1,U,(by rw[ax];rfl),(by grind[aC]),ae⟩
 skip
 rw[show fo op ep key (m,f) a=(m,f) from by grind[fo,eO]];exact aqi ⟨eA,(by grind[aC]),(by grind[aC]),(bJ Cell.e dy),c1,U,(by grind[aC]),ae⟩
theorem SZ(xs:List Cell)(op ep key:Int)(aj:xs.length<=8388608):aw 324 [.one (.J 4 (xs.map Cell.e)),.one (I op),.one (I ep),.one (I key)] [.one (I (px xs op ep key).1),.one (B (px xs op ep key).2)]:=by
 have l:=eR (P:=prog) (c:=(av f324 0)) (cL 0) xs.length (fun i:Nat=>mv (xs.map Cell.e) op ep key i (rn (fo op ep key) (0,false) xs i).2 (rn (fo op ep key) (0,false) xs i).1) (fun i hi=>by
  obtain⟨a,ad⟩:=dm hi;rw[KE ad];exact abt xs aj op ep key _ _ i a ad) (arI ⟨ec,ae⟩)
 rw[KF]at l;exact arJ ⟨l,ae⟩
theorem abv(xs:List Cell)(op ep key:Int)(aj:xs.length<=8388608):aw 344 [.one (.J 4 (xs.map Cell.e)),.one (I op),.one (I ep),.one (I key)] [.one (I (px xs op ep key).1),.one (B (px xs op ep key).2)]:=by
 have l:=eR (P:=prog) (c:=(av f344 0)) (cL 0) xs.length (fun i:Nat=>pu (xs.map Cell.e) op ep key i (rn (fo op ep key) (0,false) xs i).2 (rn (fo op ep key) (0,false) xs i).1) (fun i hi=>by
  obtain⟨a,ad⟩:=dm hi;rw[KE ad];exact abu xs aj op ep key _ _ i a ad) (aqj ⟨ec,ae⟩)
 rw[KF]at l;exact aqk ⟨l,ae⟩
