import Derived.Test.YthfnndblgbjniaaGreatP15
set_option linter.unusedVariables false
set_option linter.unusedSimpArgs false
namespace Go.Proofs.YthfnndblgbjniaaGreat
open Go.Sx Go.RowKit Go.Proofs.Tryz
def jc(g:bX)(k:Int):Int:=match g.nodes[k.toNat]? with | some y=>y.kind | none=>0
def gX(g:bX)(i:Nat)(x:Node)(k:Int):Bool:=
 decide ((g.nodes.length:Int)<=k)||(if x.kind=7 then decide ((i:Int)<k)||(jc g k != 5&&jc g k != 6) else decide (k<=i))
def jR(g:bX)(i:Nat)(x:Node):Bool:=!aU x||(decide (x.kind=1) != decide ((i:Int)=0))||x.outs.any (gX g i x)
def ej(g:bX):Bool:=ax g.nodes.length 1 8&&ax g.aq 1 4&&ax g.cap 1 4&&!(anyI (jR g) 0 g.nodes)
def cK(x:Node)(k v:Int):Int×Int×Bool:=
 if aU x&&fI k v then
  if x.kind=2 then (k,less (v+x.a) 999,true)
  else if x.kind=4 then ((k+x.a).tmod 100,v,true)
  else if x.kind=3 then (k,v,k.tmod x.a==x.b)
  else (k,v,x.kind != 8)
 else (k,v,false)
theorem Np{l:List Int}(h:oK l=true){k:Int}(hk:k∈l):ax k 0 7=true:=by
 grind[oK,gp,fx]
theorem VQ(g:bX)(ay:g.sz<=8388608)(i:Nat)(hi:i<8)(x:Node)(ag:g.nodes[i]?=some x)(bY:aU x=true)(j:Nat)(k:Int)(hk:x.outs[j]?=some k)(r:Bool)(aC:gX g i x k=r):fS prog (ap f55 1) (ja i (g.nodes.map Node.e) g.aq g.cap x.kind x.a x.b (x.outs.map bd) (j:Int)) (bif r then .ret else .normal) (bif r then tn false else ja i (g.nodes.map Node.e) g.aq g.cap x.kind x.a x.b (x.outs.map bd) ((j+1:Nat):Int)):=by
 have bf:=aY hk;have al:x.outs.length<=2:=by grind[aU]
 have oE:ax k 0 7=true:=Np (by grind[aU]) (cD hk);have dG:x.outs[(j:Int).toNat]?=some k:=by grind
 have eJ:decide ((j:Int)<(↑(x.outs.map bd).length:Int))=true:=bV bf;rcases cU (decide (k>=(↑(g.nodes.map Node.e).length:Int))) with h1 | h1
 ·skip
  obtain rfl:r=true:=by grind[gX,jc,ax]
  exact aiE ⟨eJ,(by grind),(by grind),(bS bd dG),h1,aa⟩
 skip
 rcases cU (x.kind != 7) with U | U
 ·skip
  rcases cU (decide (k<=(i:Int))) with aA | aA
  ·skip
   obtain rfl:r=true:=by grind[gX,jc,ax]
   exact aiF ⟨eJ,(by grind),(by grind),(bS bd dG),h1,U,aA,aa⟩
  skip
  obtain⟨acx,Ck⟩:=look (xs:=g.nodes) (i:=k) (by grind) (by grind);rcases cU (x.kind==7) with a7 | a7
  ·skip
   rcases cU (decide (k>(i:Int))) with bw | bw
   ·skip
    obtain rfl:r=true:=by rw[<-aC];grind[gX,jc,ax]
    exact aiG ⟨eJ,(by grind[ax,aL,aU]),(by grind[ax,aL,aU]),(bS bd dG),h1,U,aA,(by grind[ax,aL,aU]),(by grind[ax,aL,aU]),(bS Node.e Ck),a7,bw,aa⟩
   skip
   rcases cU (acx.kind != 5) with b1 | b1
   ·skip
    rcases cU (acx.kind != 6) with dA | dA
    ·skip
     obtain rfl:r=true:=by rw[<-aC];grind[gX,jc,ax]
     exact aiH ⟨eJ,(by grind[ax,aL,aU]),(by grind[ax,aL,aU]),(bS bd dG),h1,U,aA,(by grind[ax,aL,aU]),(by grind[ax,aL,aU]),(bS Node.e Ck),a7,bw,b1,dA,aa⟩
    skip
    obtain rfl:r=false:=by rw[<-aC];grind[gX,jc,ax]
    exact aiI ⟨eJ,(by grind[ax,aL,aU]),(by grind[ax,aL,aU]),(bS bd dG),h1,U,aA,(by grind[ax,aL,aU]),(by grind[ax,aL,aU]),(bS Node.e Ck),a7,bw,b1,dA,(by grind[ax,aL,aU]),aa⟩
   skip
   obtain rfl:r=false:=by rw[<-aC];grind[gX,jc,ax]
   exact aiJ ⟨eJ,(by grind[ax,aL,aU]),(by grind[ax,aL,aU]),(bS bd dG),h1,U,aA,(by grind[ax,aL,aU]),(by grind[ax,aL,aU]),(bS Node.e Ck),a7,bw,b1,(by grind[ax,aL,aU]),aa⟩
  skip
  obtain rfl:r=false:=by grind[gX,jc,ax]
  exact aiK ⟨eJ,(by grind),(by grind),(bS bd dG),h1,U,aA,(by grind),(by grind),(bS Node.e Ck),a7,(by grind[ax,aL,aU]),aa⟩
 skip
 obtain⟨Jk,uk⟩:=look (xs:=g.nodes) (i:=k) (by grind[ax,aL,aU]) (by grind);rcases cU (x.kind==7) with dZ | dZ
 ·skip
  rcases cU (decide (k>(i:Int))) with iS | iS
  ·skip
   obtain rfl:r=true:=by grind[gX,jc,ax]
   exact ahU ⟨eJ,(by grind),(by grind),(bS bd dG),h1,U,(by grind),(by grind),(bS Node.e uk),dZ,iS,aa⟩
  skip
  rcases cU (Jk.kind != 5) with jl | jl
  ·skip
   rcases cU (Jk.kind != 6) with vq | vq
   ·skip
    obtain rfl:r=true:=by grind[gX,jc,ax]
    exact ahV ⟨eJ,(by grind),(by grind),(bS bd dG),h1,U,(by grind[ax,aL,aU]),(by grind),(bS Node.e uk),dZ,iS,jl,vq,aa⟩
   skip
   obtain rfl:r=false:=by grind[gX,jc,ax]
   exact ahW ⟨eJ,(by grind),(by grind),(bS bd dG),h1,U,(by grind[ax,aL,aU]),(by grind),(bS Node.e uk),dZ,iS,jl,vq,(by grind[ax,aL,aU]),aa⟩
  skip
  obtain rfl:r=false:=by grind[gX,jc,ax]
  exact ahX ⟨eJ,(by grind),(by grind),(bS bd dG),h1,U,(by grind[ax,aL,aU]),(by grind),(bS Node.e uk),dZ,iS,jl,(by grind[ax,aL,aU]),aa⟩
 skip
 obtain rfl:r=false:=by rw[<-aC];grind[gX,jc,ax]
 exact ahY ⟨eJ,(by grind[ax,aL,aU]),(by grind[ax,aL,aU]),(bS bd dG),h1,U,(by grind[ax,aL,aU]),(by grind[ax,aL,aU]),(bS Node.e uk),dZ,(by grind[ax,aL,aU]),aa⟩
theorem VR(g:bX)(ay:g.sz<=8388608)(i:Nat)(hi:i<8)(x:Node)(ag:g.nodes[i]?=some x)(bY:aU x=true)(j:Nat)(k:Int)(hk:x.outs[j]?=some k)(r:Bool)(aC:gX g i x k=r):fS prog (ap f69 1) (jb (g.nodes.map Node.e) i (g.nodes.map Node.e) g.aq g.cap x.kind x.a x.b (x.outs.map bd) (j:Int)) (bif r then .ret else .normal) (bif r then tp false else jb (g.nodes.map Node.e) i (g.nodes.map Node.e) g.aq g.cap x.kind x.a x.b (x.outs.map bd) ((j+1:Nat):Int)):=by
 have bf:=aY hk;have al:x.outs.length<=2:=by grind[aU]
 have oE:ax k 0 7=true:=Np (by grind[aU]) (cD hk);have dG:x.outs[(j:Int).toNat]?=some k:=by grind
 have eJ:decide ((j:Int)<(↑(x.outs.map bd).length:Int))=true:=bV bf;rcases cU (decide (k>=(↑(g.nodes.map Node.e).length:Int))) with h1 | h1
 ·skip
  obtain rfl:r=true:=by grind[gX,jc,ax]
  exact aia ⟨eJ,(by grind),(by grind),(bS bd dG),h1,aa⟩
 skip
 obtain⟨e4,kY⟩:=look (xs:=g.nodes) (i:=k) (by grind[ax,aL,aU]) (by grind);rcases cU (x.kind==7) with aA | aA
 ·skip
  rcases cU (decide (k>(i:Int))) with aJ | aJ
  ·skip
   obtain rfl:r=true:=by grind[gX,jc,ax]
   exact aib ⟨eJ,(by grind),(by grind),(bS bd dG),h1,(by grind),(by grind),(bS Node.e kY),aA,aJ,aa⟩
  skip
  rcases cU (e4.kind != 5) with a7 | a7
  ·skip
   rcases cU (e4.kind != 6) with bw | bw
   ·skip
    obtain rfl:r=true:=by grind[gX,jc,ax]
    exact aic ⟨eJ,(by grind),(by grind),(bS bd dG),h1,(by grind[ax,aL,aU]),(by grind),(bS Node.e kY),aA,aJ,a7,bw,aa⟩
   skip
   rcases cU (x.kind != 7) with b1 | b1
   ·skip
    rcases cU (decide (k<=(i:Int))) with dA | dA
    ·skip
     obtain rfl:r=true:=by rw[<-aC];grind[gX,jc,ax]
     exact aid ⟨eJ,(by grind[ax,aL,aU]),(by grind[ax,aL,aU]),(bS bd dG),h1,(by grind[ax,aL,aU]),(by grind[ax,aL,aU]),(bS Node.e kY),aA,aJ,a7,bw,b1,dA,aa⟩
    skip
    obtain rfl:r=false:=by rw[<-aC];grind[gX,jc,ax]
    exact aie ⟨eJ,(by grind[ax,aL,aU]),(by grind[ax,aL,aU]),(bS bd dG),h1,(by grind[ax,aL,aU]),(by grind[ax,aL,aU]),(bS Node.e kY),aA,aJ,a7,bw,b1,dA,(by grind[ax,aL,aU]),aa⟩
   skip
   obtain rfl:r=false:=by grind[gX,jc,ax]
   exact aif ⟨eJ,(by grind),(by grind),(bS bd dG),h1,(by grind[ax,aL,aU]),(by grind),(bS Node.e kY),aA,aJ,a7,bw,b1,(by grind[ax,aL,aU]),aa⟩
  skip
  rcases cU (x.kind != 7) with ez | ez
  ·skip
   rcases cU (decide (k<=(i:Int))) with dZ | dZ
   ·skip
    obtain rfl:r=true:=by rw[<-aC];grind[gX,jc,ax]
    exact aih ⟨eJ,(by grind[ax,aL,aU]),(by grind[ax,aL,aU]),(bS bd dG),h1,(by grind[ax,aL,aU]),(by grind[ax,aL,aU]),(bS Node.e kY),aA,aJ,a7,ez,dZ,aa⟩
   skip
   obtain rfl:r=false:=by rw[<-aC];grind[gX,jc,ax]
   exact aii ⟨eJ,(by grind[ax,aL,aU]),(by grind[ax,aL,aU]),(bS bd dG),h1,(by grind[ax,aL,aU]),(by grind[ax,aL,aU]),(bS Node.e kY),aA,aJ,a7,ez,dZ,(by grind[ax,aL,aU]),aa⟩
  skip
  obtain rfl:r=false:=by grind[gX,jc,ax]
  exact aij ⟨eJ,(by grind),(by grind),(bS bd dG),h1,(by grind[ax,aL,aU]),(by grind),(bS Node.e kY),aA,aJ,a7,ez,(by grind[ax,aL,aU]),aa⟩
 skip
 rcases cU (x.kind != 7) with iS | iS
 ·skip
  rcases cU (decide (k<=(i:Int))) with jl | jl
  ·skip
   obtain rfl:r=true:=by grind[gX,jc,ax]
   exact aik ⟨eJ,(by grind),(by grind),(bS bd dG),h1,(by grind[ax,aL,aU]),(by grind),(bS Node.e kY),aA,iS,jl,aa⟩
  skip
  obtain rfl:r=false:=by grind[gX,jc,ax]
  exact ahK ⟨eJ,(by grind),(by grind),(bS bd dG),h1,(by grind),(by grind),(bS Node.e kY),aA,iS,jl,(by grind[ax,aL,aU]),aa⟩
 skip
 obtain rfl:r=false:=by rw[<-aC];grind[gX,jc,ax]
 exact ahL ⟨eJ,(by grind[ax,aL,aU]),(by grind[ax,aL,aU]),(bS bd dG),h1,(by grind[ax,aL,aU]),(by grind[ax,aL,aU]),(bS Node.e kY),aA,iS,(by grind[ax,aL,aU]),aa⟩
theorem akR(g:bX)(ay:g.sz<=8388608)(i:Nat)(hi:i<8)(x:Node)(ag:g.nodes[i]?=some x)(bY:aU x=true):
  (x.outs.any (gX g i x)=true/\c8 prog (ap f55 1) (ja i (g.nodes.map Node.e) g.aq g.cap x.kind x.a x.b (x.outs.map bd) 0) .ret (tn false))\/(x.outs.any (gX g i x)=false/\c8 prog (ap f55 1) (ja i (g.nodes.map Node.e) g.aq g.cap x.kind x.a x.b (x.outs.map bd) 0) (.exit 2) (NS i (g.nodes.map Node.e) g.aq g.cap)):=by
 have l:=gl (P:=prog) (c:=(ap f55 1)) x.outs (gX g i x) (fun j=>ja i (g.nodes.map Node.e) g.aq g.cap x.kind x.a x.b (x.outs.map bd) j) (X:=fun _ _=>tn false) eC (cn 2)
  (fun j k hk h=>VQ g ay i hi x ag bY j k hk false h)
  (fun j k hk h=>VQ g ay i hi x ag bY j k hk true h)
  (ahZ ⟨dq,aa⟩)
 grind
theorem akS(g:bX)(ay:g.sz<=8388608)(i:Nat)(hi:i<8)(x:Node)(ag:g.nodes[i]?=some x)(bY:aU x=true):
  (x.outs.any (gX g i x)=true/\c8 prog (ap f69 1) (jb (g.nodes.map Node.e) i (g.nodes.map Node.e) g.aq g.cap x.kind x.a x.b (x.outs.map bd) 0) .ret (tp false))\/(x.outs.any (gX g i x)=false/\c8 prog (ap f69 1) (jb (g.nodes.map Node.e) i (g.nodes.map Node.e) g.aq g.cap x.kind x.a x.b (x.outs.map bd) 0) (.exit 2) (NU (g.nodes.map Node.e) i (g.nodes.map Node.e) g.aq g.cap)):=by
 have l:=gl (P:=prog) (c:=(ap f69 1)) x.outs (gX g i x) (fun j=>jb (g.nodes.map Node.e) i (g.nodes.map Node.e) g.aq g.cap x.kind x.a x.b (x.outs.map bd) j) (X:=fun _ _=>tp false) eC (cn 2)
  (fun j k hk h=>VR g ay i hi x ag bY j k hk false h)
  (fun j k hk h=>VR g ay i hi x ag bY j k hk true h)
  (ahM ⟨dq,aa⟩)
 grind
theorem VS(g:bX)(ay:g.sz<=8388608)(i:Nat)(hi:i<8)(x:Node)(ag:g.nodes[i]?=some x)(r:Bool)(aC:jR g i x=r):fS prog (ap f55 0) (pU ((i:Nat):Int) (g.nodes.map Node.e) g.aq g.cap) (bif r then .ret else .normal) (bif r then yF false else pU ((i+1:Nat):Int) (g.nodes.map Node.e) g.aq g.cap):=by
 have bf:=aY ag;have a8:=bX.Cz ay (cD ag);have dG:g.nodes[(i:Int).toNat]?=some x:=by grind
 have eJ:decide ((i:Int)<(↑(g.nodes.map Node.e).length:Int))=true:=bV bf;have c1:=VO x (by grind);rcases cU (aU x) with U | U
 ·skip
  rcases cU ((x.kind==1)==((i:Int)==0)) with aA | aA
  ·skip
   rcases akR g ay i hi x ag (by grind) with⟨cJ,l⟩ | ⟨cJ,l⟩
   ·skip
    obtain rfl:r=true:=by grind[jR]
    exact ah0 ⟨eJ,(by grind),(by grind),(bS Node.e dG),c1,(by rw[U];rfl),(by rw[aA];rfl),l,aa⟩
   skip
   obtain rfl:r=false:=by grind[jR]
   exact ah1 ⟨eJ,(by grind),(by grind),(bS Node.e dG),c1,(by rw[U];rfl),(by rw[aA];rfl),l,(by grind[ax,aL,aU]),aa⟩
  skip
  obtain rfl:r=true:=by grind[jR]
  exact aiD ⟨eJ,(by grind),(by grind),(bS Node.e dG),c1,(by rw[U];rfl),(by rw[aA];rfl),aa⟩
 skip
 obtain rfl:r=true:=by grind[jR]
 exact aiC ⟨eJ,(by grind),(by grind),(bS Node.e dG),c1,(by rw[U];rfl),aa⟩
theorem VT(g:bX)(ay:g.sz<=8388608)(i:Nat)(hi:i<8)(x:Node)(ag:g.nodes[i]?=some x)(r:Bool)(aC:jR g i x=r):fS prog (ap f69 0) (pV (g.nodes.map Node.e) ((i:Nat):Int) (g.nodes.map Node.e) g.aq g.cap) (bif r then .ret else .normal) (bif r then yG false else pV (g.nodes.map Node.e) ((i+1:Nat):Int) (g.nodes.map Node.e) g.aq g.cap):=by
 have bf:=aY ag;have a8:=bX.Cz ay (cD ag);have dG:g.nodes[(i:Int).toNat]?=some x:=by grind
 have eJ:decide ((i:Int)<(↑(g.nodes.map Node.e).length:Int))=true:=bV bf;have c1:=VP x (by grind);rcases cU (aU x) with U | U
 ·skip
  rcases cU ((x.kind==1)==((i:Int)==0)) with aA | aA
  ·skip
   rcases akS g ay i hi x ag (by grind) with⟨cJ,l⟩ | ⟨cJ,l⟩
   ·skip
    obtain rfl:r=true:=by grind[jR]
    exact ahN ⟨eJ,(by grind),(by grind),(bS Node.e dG),c1,(by rw[U];rfl),(by rw[aA];rfl),l,aa⟩
   skip
   obtain rfl:r=false:=by grind[jR]
   exact ahO ⟨eJ,(by grind),(by grind),(bS Node.e dG),c1,(by rw[U];rfl),(by rw[aA];rfl),l,(by grind[ax,aL,aU]),aa⟩
  skip
  obtain rfl:r=true:=by grind[jR]
  exact ah9 ⟨eJ,(by grind),(by grind),(bS Node.e dG),c1,(by rw[U];rfl),(by rw[aA];rfl),aa⟩
 skip
 obtain rfl:r=true:=by grind[jR]
 exact ah8 ⟨eJ,(by grind),(by grind),(bS Node.e dG),c1,(by rw[U];rfl),aa⟩
theorem akT(g:bX)(ay:g.sz<=8388608)(dA:g.nodes.length<=8):
  (anyI (jR g) 0 g.nodes=true/\c8 prog (ap f55 0) (pU 0 (g.nodes.map Node.e) g.aq g.cap) .ret (yF false))\/(anyI (jR g) 0 g.nodes=false/\c8 prog (ap f55 0) (pU 0 (g.nodes.map Node.e) g.aq g.cap) (.exit 0) NT):=by
 have l:=qQ (P:=prog) (c:=(ap f55 0)) g.nodes (jR g) (fun i=>pU (i:Nat) (g.nodes.map Node.e) g.aq g.cap) (X:=yF false) eC (cn 0)
  (fun i x ag h=>VS g ay i (by grind) x ag false h)
  (fun i x ag h=>VS g ay i (by grind) x ag true h)
  (ah2 ⟨dq,aa⟩)
 grind
theorem akU(g:bX)(ay:g.sz<=8388608)(dA:g.nodes.length<=8):
  (anyI (jR g) 0 g.nodes=true/\c8 prog (ap f69 0) (pV (g.nodes.map Node.e) 0 (g.nodes.map Node.e) g.aq g.cap) .ret (yG false))\/(anyI (jR g) 0 g.nodes=false/\c8 prog (ap f69 0) (pV (g.nodes.map Node.e) 0 (g.nodes.map Node.e) g.aq g.cap) (.exit 0) NV):=by
 have l:=qQ (P:=prog) (c:=(ap f69 0)) g.nodes (jR g) (fun i=>pV (g.nodes.map Node.e) (i:Nat) (g.nodes.map Node.e) g.aq g.cap) (X:=yG false) eC (cn 0)
  (fun i x ag h=>VT g ay i (by grind) x ag false h)
  (fun i x ag h=>VT g ay i (by grind) x ag true h)
  (ahP ⟨dq,aa⟩)
 grind
theorem Ab(g:bX)(ay:g.sz<=8388608):ar 55 [.agg g.e] [.one (B (ej g))]:=by
 have c1:=js (↑(g.nodes.map Node.e).length:Int) 1 8;rcases cU (ax (↑(g.nodes.map Node.e).length:Int) 1 8) with U | U
 ·skip
  have cP:=js g.aq 1 4;rcases cU (ax g.aq 1 4) with aJ | aJ
  ·skip
   have hc:=js g.cap 1 4;rcases cU (ax g.cap 1 4) with bw | bw
   ·skip
    rcases akT g ay (by grind[ax]) with⟨cJ,l⟩ | ⟨cJ,l⟩
    ·skip
     rw[show ej g=false from by grind[ej]];exact ah3 ⟨c1,(by rw[U];rfl),cP,(by rw[aJ];rfl),hc,(by rw[bw];rfl),l,aa⟩
    skip
    rw[show ej g=true from by grind[ej]];exact ah4 ⟨c1,(by rw[U];rfl),cP,(by rw[aJ];rfl),hc,(by rw[bw];rfl),l,aa⟩
   skip
   rw[show ej g=false from by grind[ej]];exact aiB ⟨c1,(by rw[U];rfl),cP,(by rw[aJ];rfl),hc,(by rw[bw];rfl),aa⟩
  skip
  rw[show ej g=false from by grind[ej]];exact aiA ⟨c1,(by rw[U];rfl),cP,(by rw[aJ];rfl),aa⟩
 skip
 rw[show ej g=false from by grind[ej]];exact aiz ⟨c1,(by rw[U];rfl),aa⟩
theorem Ac(g:bX)(ay:g.sz<=8388608):ar 69 [.agg g.e] [.one (B (ej g))]:=by
 have c1:=lO (↑(g.nodes.map Node.e).length:Int) 1 8;rcases cU (ax (↑(g.nodes.map Node.e).length:Int) 1 8) with U | U
 ·skip
  have cP:=lO g.aq 1 4;rcases cU (ax g.aq 1 4) with aJ | aJ
  ·skip
   have hc:=lO g.cap 1 4;rcases cU (ax g.cap 1 4) with bw | bw
   ·skip
    rcases akU g ay (by grind[ax]) with⟨cJ,l⟩ | ⟨cJ,l⟩
    ·skip
     rw[show ej g=false from by grind[ej]];exact ahQ ⟨c1,(by rw[U];rfl),cP,(by rw[aJ];rfl),hc,(by rw[bw];rfl),l,aa⟩
    skip
    rw[show ej g=true from by grind[ej]];exact ahR ⟨c1,(by rw[U];rfl),cP,(by rw[aJ];rfl),hc,(by rw[bw];rfl),l,aa⟩
   skip
   rw[show ej g=false from by grind[ej]];exact ah7 ⟨c1,(by rw[U];rfl),cP,(by rw[aJ];rfl),hc,(by rw[bw];rfl),aa⟩
  skip
  rw[show ej g=false from by grind[ej]];exact ah6 ⟨c1,(by rw[U];rfl),cP,(by rw[aJ];rfl),aa⟩
 skip
 rw[show ej g=false from by grind[ej]];exact ah5 ⟨c1,(by rw[U];rfl),aa⟩
theorem amn(x:Node)(k v:Int)(ag:x.outs.length<=8388608):ar 197 [.agg x.e,.one (I k),.one (I v)] [.one (I ((cK x k v).1)),.one (I ((cK x k v).2.1)),.one (B ((cK x k v).2.2))]:=by
 have c1:=VO x (by grind);rcases cU (aU x) with U | U
 ·skip
  have cP:=js k 0 99;rcases cU (ax k 0 99) with aJ | aJ
  ·skip
   have hc:=js v 0 999;rcases cU (ax v 0 999) with bw | bw
   ·skip
    rcases cU (x.kind==2) with b1 | b1
    ·skip
     have nK:=akQ (v+x.a) 999;rw[show cK x k v=(k,less (v+x.a) 999,true) from by grind[cK,fI,less,aU,bW]];exact ajD ⟨c1,(by rw[U];rfl),cP,(by rw[aJ];rfl),hc,(by rw[bw];rfl),b1,(by grind[aU,bW,ax,aL,fI]),nK,aa⟩
    skip
    rcases cU (x.kind==4) with ez | ez
    ·skip
     rw[show cK x k v=((k+x.a).tmod 100,v,true) from by grind[cK,fI,less,aU,bW]];exact ajE ⟨c1,(by rw[U];rfl),cP,(by rw[aJ];rfl),hc,(by rw[bw];rfl),b1,ez,(by grind[aU,bW,ax,aL,fI]),(by grind),aa⟩
    skip
    rcases cU (x.kind==3) with dZ | dZ
    ·skip
     rw[show cK x k v=(k,v,k.tmod x.a==x.b) from by grind[cK,fI,less,aU,bW]];exact ajF ⟨c1,(by rw[U];rfl),cP,(by rw[aJ];rfl),hc,(by rw[bw];rfl),b1,ez,dZ,(by grind[aU,bW,ax,aL,fI]),aa⟩
    skip
    rw[show cK x k v=(k,v,x.kind != 8) from by grind[cK,fI,less,aU,bW]];exact ajG ⟨c1,(by rw[U];rfl),cP,(by rw[aJ];rfl),hc,(by rw[bw];rfl),b1,ez,dZ,aa⟩
   skip
   rw[show cK x k v=(k,v,false) from by grind[cK,fI,less,aU,bW]];exact ajC ⟨c1,(by rw[U];rfl),cP,(by rw[aJ];rfl),hc,(by rw[bw];rfl),aa⟩
  skip
  rw[show cK x k v=(k,v,false) from by grind[cK,fI,less,aU,bW]];exact ajB ⟨c1,(by rw[U];rfl),cP,(by rw[aJ];rfl),aa⟩
 skip
 rw[show cK x k v=(k,v,false) from by grind[cK,fI,less,aU,bW]];exact ajA ⟨c1,(by rw[U];rfl),aa⟩
theorem amo(x:Node)(k v:Int)(ag:x.outs.length<=8388608):ar 192 [.agg x.e,.one (I k),.one (I v)] [.one (I ((cK x k v).1)),.one (I ((cK x k v).2.1)),.one (B ((cK x k v).2.2))]:=by
 have c1:=VP x (by grind);rcases cU (aU x) with U | U
 ·skip
  have cP:=Wm k v;rcases cU (fI k v) with aJ | aJ
  ·skip
   rcases cU (x.kind==2) with a7 | a7
   ·skip
    rw[show cK x k v=(k,if v+x.a<999 then v+x.a else 999,true) from by grind[cK,fI,less,aU,bW]];exact ajJ ⟨c1,(by rw[U];rfl),cP,(by rw[aJ];rfl),a7,(by grind[aU,bW,ax,aL,fI]),aa⟩
   skip
   rcases cU (x.kind==4) with bw | bw
   ·skip
    rw[show cK x k v=((k+x.a).tmod 100,v,true) from by grind[cK,fI,less,aU,bW]];exact ajK ⟨c1,(by rw[U];rfl),cP,(by rw[aJ];rfl),a7,bw,(by grind[aU,bW,ax,aL,fI]),(by grind),aa⟩
   skip
   rcases cU (x.kind==3) with b1 | b1
   ·skip
    rw[show cK x k v=(k,v,k.tmod x.a==x.b) from by grind[cK,fI,less,aU,bW]];exact aiV ⟨c1,(by rw[U];rfl),cP,(by rw[aJ];rfl),a7,bw,b1,(by grind[aU,bW,ax,aL,fI]),aa⟩
   skip
   rw[show cK x k v=(k,v,x.kind != 8) from by grind[cK,fI,less,aU,bW]];exact aiW ⟨c1,(by rw[U];rfl),cP,(by rw[aJ];rfl),a7,bw,b1,aa⟩
  skip
  rw[show cK x k v=(k,v,false) from by grind[cK,fI,less,aU,bW]];exact ajI ⟨c1,(by rw[U];rfl),cP,(by rw[aJ];rfl),aa⟩
 skip
 rw[show cK x k v=(k,v,false) from by grind[cK,fI,less,aU,bW]];exact ajH ⟨c1,(by rw[U];rfl),aa⟩
def eY(a b:Cell):Bool:=a.op==b.op&&a.ba==b.ba&&a.key==b.key
def ft(op ep key:Int)(s:Int×Bool)(a:Cell):Int×Bool:=if a.op=op/\a.ba=ep/\a.key=key/\(s.2=false\/a.val<s.1) then (a.val,true) else s
def pW(xs:List Cell)(op ep key:Int):Int×Bool:=xs.foldl (ft op ep key) (0,false)
theorem VU(a b:Cell):ar 230 [.agg a.e,.agg b.e] [.one (B (eY a b))]:=by
 rcases cU (a.op==b.op) with h1 | h1
 ·skip
  rcases cU (a.ba==b.ba) with U | U
  ·skip
   rw[show eY a b=(a.key==b.key) from by grind[eY]];exact af9 ⟨h1,U,aa⟩
  skip
  rw[show eY a b=false from by grind[eY]];exact aga ⟨h1,U,aa⟩
 skip
 rw[show eY a b=false from by grind[eY]];exact agb ⟨h1,aa⟩
theorem amp(xs:List Cell)(al:xs.length<=8388608)(op ep key m:Int)(f:Bool)(i:Nat)(a:Cell)(ah:xs[i]?=some a):fS prog (ap f220 0) (mK (xs.map Cell.e) op ep key i f m) .normal (mK (xs.map Cell.e) op ep key ((i+1:Nat):Int) (ft op ep key (m,f) a).2 (ft op ep key (m,f) a).1):=by
 have bf:=aY ah;have dG:xs[(i:Int).toNat]?=some a:=by grind
 have eJ:decide ((i:Int)<(↑(xs.map Cell.e).length:Int))=true:=bV bf;rcases cU (a.op==op) with h1 | h1
 ·skip
  rcases cU (a.ba==ep) with U | U
  ·skip
   rcases cU (a.key==key) with aA | aA
   ·skip
    rcases cU (f) with aJ | aJ
    ·skip
     rcases cU (decide (a.val<m)) with a7 | a7
     ·skip
      rw[show ft op ep key (m,f) a=(a.val,true) from by grind[ft,eY]];exact ahE ⟨eJ,(by grind[aL]),(by grind[aL]),(bS Cell.e dG),h1,U,aA,(by rw[aJ];rfl),a7,(by grind[aL]),aa⟩
     skip
     rw[show ft op ep key (m,f) a=(m,f) from by grind[ft,eY]];exact ahF ⟨eJ,(by grind[aL]),(by grind[aL]),(bS Cell.e dG),h1,U,aA,(by rw[aJ];rfl),a7,(by grind[aL]),aa⟩
    skip
    rw[show ft op ep key (m,f) a=(a.val,true) from by grind[ft,eY]];exact ahD ⟨eJ,(by grind[aL]),(by grind[aL]),(bS Cell.e dG),h1,U,aA,(by rw[aJ];rfl),(by grind[aL]),aa⟩
   skip
   rw[show ft op ep key (m,f) a=(m,f) from by grind[ft,eY]];exact ahG ⟨eJ,(by grind[aL]),(by grind[aL]),(bS Cell.e dG),h1,U,aA,(by grind[aL]),aa⟩
  skip
  rw[show ft op ep key (m,f) a=(m,f) from by grind[ft,eY]];exact ahH ⟨eJ,(by grind[aL]),(by grind[aL]),(bS Cell.e dG),h1,U,(by grind[aL]),aa⟩
 skip
 rw[show ft op ep key (m,f) a=(m,f) from by grind[ft,eY]];exact ahI ⟨eJ,(by grind[aL]),(by grind[aL]),(bS Cell.e dG),h1,(by grind[aL]),aa⟩
theorem amq(xs:List Cell)(al:xs.length<=8388608)(op ep key m:Int)(f:Bool)(i:Nat)(a:Cell)(ah:xs[i]?=some a):fS prog (ap f227 0) (pT (xs.map Cell.e) op ep key i f m) .normal (pT (xs.map Cell.e) op ep key ((i+1:Nat):Int) (ft op ep key (m,f) a).2 (ft op ep key (m,f) a).1):=by
 have bf:=aY ah;have dG:xs[(i:Int).toNat]?=some a:=by grind
 have eJ:decide ((i:Int)<(↑(xs.map Cell.e).length:Int))=true:=bV bf;have c1:=VU a (⟨op,ep,key,0⟩:Cell);rcases cU (eY a (⟨op,ep,key,0⟩:Cell)) with U | U
 ·skip
  rcases cU (f) with aA | aA
  ·skip
   rcases cU (decide (a.val<m)) with aJ | aJ
   ·skip
    rw[show ft op ep key (m,f) a=(a.val,true) from by grind[ft,eY]];exact afJ ⟨eJ,(by grind[aL]),(by grind[aL]),(bS Cell.e dG),c1,U,(by rw[aA];rfl),aJ,(by grind[aL]),aa⟩
   skip
   rw[show ft op ep key (m,f) a=(m,f) from by grind[ft,eY]];exact afK ⟨eJ,(by grind[aL]),(by grind[aL]),(bS Cell.e dG),c1,U,(by rw[aA];rfl),aJ,(by grind[aL]),aa⟩
  skip
  rw[show ft op ep key (m,f) a=(a.val,true) from by grind[ft,eY]];exact agj ⟨eJ,(by grind[aL]),(by grind[aL]),(bS Cell.e dG),c1,U,(by rw[aA];rfl),(by grind[aL]),aa⟩
 skip
 rw[show ft op ep key (m,f) a=(m,f) from by grind[ft,eY]];exact afL ⟨eJ,(by grind[aL]),(by grind[aL]),(bS Cell.e dG),c1,U,(by grind[aL]),aa⟩
theorem VV(xs:List Cell)(op ep key:Int)(al:xs.length<=8388608):ar 220 [.one (.J 4 (xs.map Cell.e)),.one (I op),.one (I ep),.one (I key)] [.one (I (pW xs op ep key).1),.one (B (pW xs op ep key).2)]:=by
 have l:=er (P:=prog) (c:=(ap f220 0)) (cn 0) xs.length (fun i:Nat=>mK (xs.map Cell.e) op ep key i (qP (ft op ep key) (0,false) xs i).2 (qP (ft op ep key) (0,false) xs i).1) (fun i hi=>by
  obtain⟨a,ah⟩:=c5 hi;grind[Hw,amp]) (ahJ ⟨dq,aa⟩)
 rw[Hy]at l;exact agU ⟨l,aa⟩
theorem amr(xs:List Cell)(op ep key:Int)(al:xs.length<=8388608):ar 227 [.one (.J 4 (xs.map Cell.e)),.one (I op),.one (I ep),.one (I key)] [.one (I (pW xs op ep key).1),.one (B (pW xs op ep key).2)]:=by
 have l:=er (P:=prog) (c:=(ap f227 0)) (cn 0) xs.length (fun i:Nat=>pT (xs.map Cell.e) op ep key i (qP (ft op ep key) (0,false) xs i).2 (qP (ft op ep key) (0,false) xs i).1) (fun i hi=>by
  obtain⟨a,ah⟩:=c5 hi;grind[Hw,amq]) (afM ⟨dq,aa⟩)
 rw[Hy]at l;exact afN ⟨l,aa⟩
