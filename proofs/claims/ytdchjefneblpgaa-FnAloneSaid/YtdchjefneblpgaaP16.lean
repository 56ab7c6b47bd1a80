import Derived.Test.YtdchjefneblpgaaP15
set_option linter.unusedVariables false
set_option linter.unusedSimpArgs false
namespace Go.Proofs.Ytdchjefneblpgaa
open Go.Sx Go.RowKit Go.Proofs.Try
def gA(g:bz)(k:Int):Int:=match g.nodes[k.toNat]? with | some y=>y.kind | none=>0
def eV(g:bz)(i:Nat)(x:Node)(k:Int):Bool:=
 decide ((g.nodes.length:Int)<=k)||(if x.kind=7 then decide ((i:Int)<k)||(gA g k != 5&&gA g k != 6) else decide (k<=i))
def gM(g:bz)(i:Nat)(x:Node):Bool:=!av x||(decide (x.kind=1) != decide ((i:Int)=0))||x.outs.any (eV g i x)
def cz(g:bz):Bool:=af g.nodes.length 1 8&&af g.bg 1 4&&af g.cap 1 4&&!(anyI (gM g) 0 g.nodes)
def bL(x:Node)(k v:Int):Int×Int×Bool:=
 if av x&&c9 k v then
  if x.kind=2 then (k,less (v+x.a) 999,true)
  else if x.kind=4 then ((k+x.a).tmod 100,v,true)
  else if x.kind=3 then (k,v,k.tmod x.a==x.b)
  else (k,v,x.kind != 8)
 else (k,v,false)
theorem zd{l:List Int}(h:kK l=true){k:Int}(aT:k∈l):af k 0 7=true:=by
 simp only[kK,gD,hP]at h;simpa using h k aT
theorem KY(g:bz)(ag:g.sz<=8388608)(i:Nat)(hi:i<8)(x:Node)(ae:g.nodes[i]?=some x)(cb:av x=true)(j:Nat)(k:Int)(aT:x.outs[j]?=some k)(r:Bool)(ar:eV g i x k=r):eS prog (aF f33 1) (gy i (g.nodes.map Node.e) g.bg g.cap x.kind x.a x.b (x.outs.map aY) (j:Int)) (bif r then .ret else .normal) (bif r then oF false else gy i (g.nodes.map Node.e) g.bg g.cap x.kind x.a x.b (x.outs.map aY) ((j+1:Nat):Int)):=by
 have aU:=ct aT;have ak:x.outs.length<=2:=by grind[av]
 have jL:af k 0 7=true:=zd (by grind[av]) (h7 aT);have cJ:x.outs[(j:Int).toNat]?=some k:=by simpa using aT
 have dq:decide ((j:Int)<(↑(x.outs.map aY).length:Int))=true:=dr aU;rcases ca (decide (k>=(↑(g.nodes.map Node.e).length:Int))) with J | J
 ·skip
  obtain rfl:r=true:=by rw[<-ar];grind[eV,gA,af]
  exact VL ⟨dq,(by grind[af,ap,av]),(by grind[af,ap,av]),(bf aY cJ),J,aj⟩
 skip
 rcases ca (x.kind != 7) with U | U
 ·skip
  rcases ca (decide (k<=(i:Int))) with ax | ax
  ·skip
   obtain rfl:r=true:=by rw[<-ar];grind[eV,gA,af]
   exact VM ⟨dq,(by grind[af,ap,av]),(by grind[af,ap,av]),(bf aY cJ),J,U,ax,aj⟩
  skip
  obtain⟨Ow,vR⟩:=look (xs:=g.nodes) (i:=k) (by grind[af,ap,av]) (by grind[af,ap,av]);rcases ca (x.kind==7) with a1 | a1
  ·skip
   rcases ca (decide (k>(i:Int))) with bt | bt
   ·skip
    obtain rfl:r=true:=by rw[<-ar];grind[eV,gA,af]
    exact VN ⟨dq,(by grind[af,ap,av]),(by grind[af,ap,av]),(bf aY cJ),J,U,ax,(by grind[af,ap,av]),(by grind[af,ap,av]),(bf Node.e vR),a1,bt,aj⟩
   skip
   rcases ca (Ow.kind != 5) with bQ | bQ
   ·skip
    rcases ca (Ow.kind != 6) with cZ | cZ
    ·skip
     obtain rfl:r=true:=by rw[<-ar];grind[eV,gA,af]
     exact VO ⟨dq,(by grind[af,ap,av]),(by grind[af,ap,av]),(bf aY cJ),J,U,ax,(by grind[af,ap,av]),(by grind[af,ap,av]),(bf Node.e vR),a1,bt,bQ,cZ,aj⟩
    skip
    obtain rfl:r=false:=by rw[<-ar];grind[eV,gA,af]
    exact VP ⟨dq,(by grind[af,ap,av]),(by grind[af,ap,av]),(bf aY cJ),J,U,ax,(by grind[af,ap,av]),(by grind[af,ap,av]),(bf Node.e vR),a1,bt,bQ,cZ,(by grind[af,ap,av]),aj⟩
   skip
   obtain rfl:r=false:=by rw[<-ar];grind[eV,gA,af]
   exact VQ ⟨dq,(by grind[af,ap,av]),(by grind[af,ap,av]),(bf aY cJ),J,U,ax,(by grind[af,ap,av]),(by grind[af,ap,av]),(bf Node.e vR),a1,bt,bQ,(by grind[af,ap,av]),aj⟩
  skip
  obtain rfl:r=false:=by rw[<-ar];grind[eV,gA,af]
  exact VR ⟨dq,(by grind[af,ap,av]),(by grind[af,ap,av]),(bf aY cJ),J,U,ax,(by grind[af,ap,av]),(by grind[af,ap,av]),(bf Node.e vR),a1,(by grind[af,ap,av]),aj⟩
 skip
 obtain⟨Au,pD⟩:=look (xs:=g.nodes) (i:=k) (by grind[af,ap,av]) (by grind[af,ap,av]);rcases ca (x.kind==7) with dI | dI
 ·skip
  rcases ca (decide (k>(i:Int))) with gq | gq
  ·skip
   obtain rfl:r=true:=by rw[<-ar];grind[eV,gA,af]
   exact VS ⟨dq,(by grind[af,ap,av]),(by grind[af,ap,av]),(bf aY cJ),J,U,(by grind[af,ap,av]),(by grind[af,ap,av]),(bf Node.e pD),dI,gq,aj⟩
  skip
  rcases ca (Au.kind != 5) with gH | gH
  ·skip
   rcases ca (Au.kind != 6) with qo | qo
   ·skip
    obtain rfl:r=true:=by rw[<-ar];grind[eV,gA,af]
    exact VT ⟨dq,(by grind[af,ap,av]),(by grind[af,ap,av]),(bf aY cJ),J,U,(by grind[af,ap,av]),(by grind[af,ap,av]),(bf Node.e pD),dI,gq,gH,qo,aj⟩
   skip
   obtain rfl:r=false:=by rw[<-ar];grind[eV,gA,af]
   exact VU ⟨dq,(by grind[af,ap,av]),(by grind[af,ap,av]),(bf aY cJ),J,U,(by grind[af,ap,av]),(by grind[af,ap,av]),(bf Node.e pD),dI,gq,gH,qo,(by grind[af,ap,av]),aj⟩
  skip
  obtain rfl:r=false:=by rw[<-ar];grind[eV,gA,af]
  exact VV ⟨dq,(by grind[af,ap,av]),(by grind[af,ap,av]),(bf aY cJ),J,U,(by grind[af,ap,av]),(by grind[af,ap,av]),(bf Node.e pD),dI,gq,gH,(by grind[af,ap,av]),aj⟩
 skip
 obtain rfl:r=false:=by rw[<-ar];grind[eV,gA,af]
 exact VW ⟨dq,(by grind[af,ap,av]),(by grind[af,ap,av]),(bf aY cJ),J,U,(by grind[af,ap,av]),(by grind[af,ap,av]),(bf Node.e pD),dI,(by grind[af,ap,av]),aj⟩
theorem KZ(g:bz)(ag:g.sz<=8388608)(i:Nat)(hi:i<8)(x:Node)(ae:g.nodes[i]?=some x)(cb:av x=true)(j:Nat)(k:Int)(aT:x.outs[j]?=some k)(r:Bool)(ar:eV g i x k=r):eS prog (aF f29 1) (gz (g.nodes.map Node.e) i (g.nodes.map Node.e) g.bg g.cap x.kind x.a x.b (x.outs.map aY) (j:Int)) (bif r then .ret else .normal) (bif r then oG false else gz (g.nodes.map Node.e) i (g.nodes.map Node.e) g.bg g.cap x.kind x.a x.b (x.outs.map aY) ((j+1:Nat):Int)):=by
 have aU:=ct aT;have ak:x.outs.length<=2:=by grind[av]
 have jL:af k 0 7=true:=zd (by grind[av]) (h7 aT);have cJ:x.outs[(j:Int).toNat]?=some k:=by simpa using aT
 have dq:decide ((j:Int)<(↑(x.outs.map aY).length:Int))=true:=dr aU;rcases ca (decide (k>=(↑(g.nodes.map Node.e).length:Int))) with J | J
 ·skip
  obtain rfl:r=true:=by rw[<-ar];grind[eV,gA,af]
  exact Vi ⟨dq,(by grind[af,ap,av]),(by grind[af,ap,av]),(bf aY cJ),J,aj⟩
 skip
 obtain⟨iZ,jl⟩:=look (xs:=g.nodes) (i:=k) (by grind[af,ap,av]) (by grind[af,ap,av]);rcases ca (x.kind==7) with ax | ax
 ·skip
  rcases ca (decide (k>(i:Int))) with aJ | aJ
  ·skip
   obtain rfl:r=true:=by rw[<-ar];grind[eV,gA,af]
   exact Vj ⟨dq,(by grind[af,ap,av]),(by grind[af,ap,av]),(bf aY cJ),J,(by grind[af,ap,av]),(by grind[af,ap,av]),(bf Node.e jl),ax,aJ,aj⟩
  skip
  rcases ca (iZ.kind != 5) with a1 | a1
  ·skip
   rcases ca (iZ.kind != 6) with bt | bt
   ·skip
    obtain rfl:r=true:=by rw[<-ar];grind[eV,gA,af]
    exact Vk ⟨dq,(by grind[af,ap,av]),(by grind[af,ap,av]),(bf aY cJ),J,(by grind[af,ap,av]),(by grind[af,ap,av]),(bf Node.e jl),ax,aJ,a1,bt,aj⟩
   skip
   rcases ca (x.kind != 7) with bQ | bQ
   ·skip
    rcases ca (decide (k<=(i:Int))) with cZ | cZ
    ·skip
     obtain rfl:r=true:=by rw[<-ar];grind[eV,gA,af]
     exact Vl ⟨dq,(by grind[af,ap,av]),(by grind[af,ap,av]),(bf aY cJ),J,(by grind[af,ap,av]),(by grind[af,ap,av]),(bf Node.e jl),ax,aJ,a1,bt,bQ,cZ,aj⟩
    skip
    obtain rfl:r=false:=by rw[<-ar];grind[eV,gA,af]
    exact Vm ⟨dq,(by grind[af,ap,av]),(by grind[af,ap,av]),(bf aY cJ),J,(by grind[af,ap,av]),(by grind[af,ap,av]),(bf Node.e jl),ax,aJ,a1,bt,bQ,cZ,(by grind[af,ap,av]),aj⟩
   skip
   obtain rfl:r=false:=by rw[<-ar];grind[eV,gA,af]
   exact Vn ⟨dq,(by grind[af,ap,av]),(by grind[af,ap,av]),(bf aY cJ),J,(by grind[af,ap,av]),(by grind[af,ap,av]),(bf Node.e jl),ax,aJ,a1,bt,bQ,(by grind[af,ap,av]),aj⟩
  skip
  rcases ca (x.kind != 7) with dQ | dQ
  ·skip
   rcases ca (decide (k<=(i:Int))) with dI | dI
   ·skip
    obtain rfl:r=true:=by rw[<-ar];grind[eV,gA,af]
    exact Vo ⟨dq,(by grind[af,ap,av]),(by grind[af,ap,av]),(bf aY cJ),J,(by grind[af,ap,av]),(by grind[af,ap,av]),(bf Node.e jl),ax,aJ,a1,dQ,dI,aj⟩
   skip
   obtain rfl:r=false:=by rw[<-ar];grind[eV,gA,af]
   exact Vp ⟨dq,(by grind[af,ap,av]),(by grind[af,ap,av]),(bf aY cJ),J,(by grind[af,ap,av]),(by grind[af,ap,av]),(bf Node.e jl),ax,aJ,a1,dQ,dI,(by grind[af,ap,av]),aj⟩
  skip
  obtain rfl:r=false:=by rw[<-ar];grind[eV,gA,af]
  exact Vq ⟨dq,(by grind[af,ap,av]),(by grind[af,ap,av]),(bf aY cJ),J,(by grind[af,ap,av]),(by grind[af,ap,av]),(bf Node.e jl),ax,aJ,a1,dQ,(by grind[af,ap,av]),aj⟩
 skip
 rcases ca (x.kind != 7) with gq | gq
 ·skip
  rcases ca (decide (k<=(i:Int))) with gH | gH
  ·skip
   obtain rfl:r=true:=by rw[<-ar];grind[eV,gA,af]
   exact Vr ⟨dq,(by grind[af,ap,av]),(by grind[af,ap,av]),(bf aY cJ),J,(by grind[af,ap,av]),(by grind[af,ap,av]),(bf Node.e jl),ax,gq,gH,aj⟩
  skip
  obtain rfl:r=false:=by rw[<-ar];grind[eV,gA,af]
  exact Vs ⟨dq,(by grind[af,ap,av]),(by grind[af,ap,av]),(bf aY cJ),J,(by grind[af,ap,av]),(by grind[af,ap,av]),(bf Node.e jl),ax,gq,gH,(by grind[af,ap,av]),aj⟩
 skip
 obtain rfl:r=false:=by rw[<-ar];grind[eV,gA,af]
 exact Vt ⟨dq,(by grind[af,ap,av]),(by grind[af,ap,av]),(bf aY cJ),J,(by grind[af,ap,av]),(by grind[af,ap,av]),(bf Node.e jl),ax,gq,(by grind[af,ap,av]),aj⟩
theorem Yy(g:bz)(ag:g.sz<=8388608)(i:Nat)(hi:i<8)(x:Node)(ae:g.nodes[i]?=some x)(cb:av x=true):
  (x.outs.any (eV g i x)=true/\dk prog (aF f33 1) (gy i (g.nodes.map Node.e) g.bg g.cap x.kind x.a x.b (x.outs.map aY) 0) .ret (oF false))\/(x.outs.any (eV g i x)=false/\dk prog (aF f33 1) (gy i (g.nodes.map Node.e) g.bg g.cap x.kind x.a x.b (x.outs.map aY) 0) (.exit 2) (DV i (g.nodes.map Node.e) g.bg g.cap)):=by
 have l:=oD (P:=prog) (c:=(aF f33 1)) x.outs (eV g i x) (fun j=>gy i (g.nodes.map Node.e) g.bg g.cap x.kind x.a x.b (x.outs.map aY) j) (X:=fun _ _=>oF false) jo (di 2)
  (fun j k aT h=>KY g ag i hi x ae cb j k aT false h)
  (fun j k aT h=>KY g ag i hi x ae cb j k aT true h)
  (VX ⟨fb,aj⟩)
 rcases l with⟨_,_,J,U⟩ | ⟨j,k,_,_,_,_,J,U⟩
 ·exact .inr ⟨J,U⟩
 exact .inl ⟨J,U⟩
theorem Yz(g:bz)(ag:g.sz<=8388608)(i:Nat)(hi:i<8)(x:Node)(ae:g.nodes[i]?=some x)(cb:av x=true):
  (x.outs.any (eV g i x)=true/\dk prog (aF f29 1) (gz (g.nodes.map Node.e) i (g.nodes.map Node.e) g.bg g.cap x.kind x.a x.b (x.outs.map aY) 0) .ret (oG false))\/(x.outs.any (eV g i x)=false/\dk prog (aF f29 1) (gz (g.nodes.map Node.e) i (g.nodes.map Node.e) g.bg g.cap x.kind x.a x.b (x.outs.map aY) 0) (.exit 2) (DX (g.nodes.map Node.e) i (g.nodes.map Node.e) g.bg g.cap)):=by
 have l:=oD (P:=prog) (c:=(aF f29 1)) x.outs (eV g i x) (fun j=>gz (g.nodes.map Node.e) i (g.nodes.map Node.e) g.bg g.cap x.kind x.a x.b (x.outs.map aY) j) (X:=fun _ _=>oG false) jo (di 2)
  (fun j k aT h=>KZ g ag i hi x ae cb j k aT false h)
  (fun j k aT h=>KZ g ag i hi x ae cb j k aT true h)
  (Vu ⟨fb,aj⟩)
 rcases l with⟨_,_,J,U⟩ | ⟨j,k,_,_,_,_,J,U⟩
 ·exact .inr ⟨J,U⟩
 exact .inl ⟨J,U⟩
theorem K0(g:bz)(ag:g.sz<=8388608)(i:Nat)(hi:i<8)(x:Node)(ae:g.nodes[i]?=some x)(r:Bool)(ar:gM g i x=r):eS prog (aF f33 0) (lB ((i:Nat):Int) (g.nodes.map Node.e) g.bg g.cap) (bif r then .ret else .normal) (bif r then sa false else lB ((i+1:Nat):Int) (g.nodes.map Node.e) g.bg g.cap):=by
 have aU:=ct ae;have aM:=bz.tL ag (h7 ae);have cJ:g.nodes[(i:Int).toNat]?=some x:=by simpa using ae
 have dq:decide ((i:Int)<(↑(g.nodes.map Node.e).length:Int))=true:=dr aU;have bK:=LN x (by grind);rcases ca (av x) with U | U
 ·skip
  rcases ca ((x.kind==1)==((i:Int)==0)) with ax | ax
  ·skip
   rcases Yy g ag i hi x ae (by grind) with⟨b9,l⟩ | ⟨b9,l⟩
   ·skip
    obtain rfl:r=true:=by rw[<-ar];grind[gM]
    exact VY ⟨dq,(by grind[af,ap,av]),(by grind[af,ap,av]),(bf Node.e cJ),bK,(by rw[U];rfl),(by rw[ax];rfl),l,aj⟩
   skip
   obtain rfl:r=false:=by rw[<-ar];grind[gM]
   exact VZ ⟨dq,(by grind[af,ap,av]),(by grind[af,ap,av]),(bf Node.e cJ),bK,(by rw[U];rfl),(by rw[ax];rfl),l,(by grind[af,ap,av]),aj⟩
  skip
  obtain rfl:r=true:=by rw[<-ar];grind[gM]
  exact VK ⟨dq,(by grind[af,ap,av]),(by grind[af,ap,av]),(bf Node.e cJ),bK,(by rw[U];rfl),(by rw[ax];rfl),aj⟩
 skip
 obtain rfl:r=true:=by rw[<-ar];grind[gM]
 exact VJ ⟨dq,(by grind[af,ap,av]),(by grind[af,ap,av]),(bf Node.e cJ),bK,(by rw[U];rfl),aj⟩
theorem K1(g:bz)(ag:g.sz<=8388608)(i:Nat)(hi:i<8)(x:Node)(ae:g.nodes[i]?=some x)(r:Bool)(ar:gM g i x=r):eS prog (aF f29 0) (lC (g.nodes.map Node.e) ((i:Nat):Int) (g.nodes.map Node.e) g.bg g.cap) (bif r then .ret else .normal) (bif r then sb false else lC (g.nodes.map Node.e) ((i+1:Nat):Int) (g.nodes.map Node.e) g.bg g.cap):=by
 have aU:=ct ae;have aM:=bz.tL ag (h7 ae);have cJ:g.nodes[(i:Int).toNat]?=some x:=by simpa using ae
 have dq:decide ((i:Int)<(↑(g.nodes.map Node.e).length:Int))=true:=dr aU;have bK:=KX x (by grind);rcases ca (av x) with U | U
 ·skip
  rcases ca ((x.kind==1)==((i:Int)==0)) with ax | ax
  ·skip
   rcases Yz g ag i hi x ae (by grind) with⟨b9,l⟩ | ⟨b9,l⟩
   ·skip
    obtain rfl:r=true:=by rw[<-ar];grind[gM]
    exact Vv ⟨dq,(by grind[af,ap,av]),(by grind[af,ap,av]),(bf Node.e cJ),bK,(by rw[U];rfl),(by rw[ax];rfl),l,aj⟩
   skip
   obtain rfl:r=false:=by rw[<-ar];grind[gM]
   exact Vw ⟨dq,(by grind[af,ap,av]),(by grind[af,ap,av]),(bf Node.e cJ),bK,(by rw[U];rfl),(by rw[ax];rfl),l,(by grind[af,ap,av]),aj⟩
  skip
  obtain rfl:r=true:=by rw[<-ar];grind[gM]
  exact Vh ⟨dq,(by grind[af,ap,av]),(by grind[af,ap,av]),(bf Node.e cJ),bK,(by rw[U];rfl),(by rw[ax];rfl),aj⟩
 skip
 obtain rfl:r=true:=by rw[<-ar];grind[gM]
 exact V6 ⟨dq,(by grind[af,ap,av]),(by grind[af,ap,av]),(bf Node.e cJ),bK,(by rw[U];rfl),aj⟩
theorem YA(g:bz)(ag:g.sz<=8388608)(cZ:g.nodes.length<=8):
  (anyI (gM g) 0 g.nodes=true/\dk prog (aF f33 0) (lB 0 (g.nodes.map Node.e) g.bg g.cap) .ret (sa false))\/(anyI (gM g) 0 g.nodes=false/\dk prog (aF f33 0) (lB 0 (g.nodes.map Node.e) g.bg g.cap) (.exit 0) DW):=by
 have l:=J6 (P:=prog) (c:=(aF f33 0)) g.nodes (gM g) (fun i=>lB (i:Nat) (g.nodes.map Node.e) g.bg g.cap) (X:=sa false) jo (di 0)
  (fun i x ae h=>K0 g ag i (by have:=ct ae;omega) x ae false h)
  (fun i x ae h=>K0 g ag i (by have:=ct ae;omega) x ae true h)
  (V0 ⟨fb,aj⟩)
 rcases l with⟨J,U⟩ | ⟨J,U⟩
 ·exact .inr ⟨J,U⟩
 exact .inl ⟨J,U⟩
theorem YB(g:bz)(ag:g.sz<=8388608)(cZ:g.nodes.length<=8):
  (anyI (gM g) 0 g.nodes=true/\dk prog (aF f29 0) (lC (g.nodes.map Node.e) 0 (g.nodes.map Node.e) g.bg g.cap) .ret (sb false))\/(anyI (gM g) 0 g.nodes=false/\dk prog (aF f29 0) (lC (g.nodes.map Node.e) 0 (g.nodes.map Node.e) g.bg g.cap) (.exit 0) DY):=by
 have l:=J6 (P:=prog) (c:=(aF f29 0)) g.nodes (gM g) (fun i=>lC (g.nodes.map Node.e) (i:Nat) (g.nodes.map Node.e) g.bg g.cap) (X:=sb false) jo (di 0)
  (fun i x ae h=>K1 g ag i (by have:=ct ae;omega) x ae false h)
  (fun i x ae h=>K1 g ag i (by have:=ct ae;omega) x ae true h)
  (Vx ⟨fb,aj⟩)
 rcases l with⟨J,U⟩ | ⟨J,U⟩
 ·exact .inr ⟨J,U⟩
 exact .inl ⟨J,U⟩
theorem ze(g:bz)(ag:g.sz<=8388608):aA 33 [.agg g.e] [.one (B (cz g))]:=by
 have bK:=ht (↑(g.nodes.map Node.e).length:Int) 1 8;rcases ca (af (↑(g.nodes.map Node.e).length:Int) 1 8) with U | U
 ·skip
  have cI:=ht g.bg 1 4;rcases ca (af g.bg 1 4) with aJ | aJ
  ·skip
   have eT:=ht g.cap 1 4;rcases ca (af g.cap 1 4) with bt | bt
   ·skip
    rcases YA g ag (by grind[af]) with⟨b9,l⟩ | ⟨b9,l⟩
    ·skip
     rw[show cz g=false from by grind[cz]];exact V1 ⟨bK,(by rw[U];rfl),cI,(by rw[aJ];rfl),eT,(by rw[bt];rfl),l,aj⟩
    skip
    rw[show cz g=true from by grind[cz]];exact V2 ⟨bK,(by rw[U];rfl),cI,(by rw[aJ];rfl),eT,(by rw[bt];rfl),l,aj⟩
   skip
   rw[show cz g=false from by grind[cz]];exact VI ⟨bK,(by rw[U];rfl),cI,(by rw[aJ];rfl),eT,(by rw[bt];rfl),aj⟩
  skip
  rw[show cz g=false from by grind[cz]];exact VH ⟨bK,(by rw[U];rfl),cI,(by rw[aJ];rfl),aj⟩
 skip
 rw[show cz g=false from by grind[cz]];exact Ug ⟨bK,(by rw[U];rfl),aj⟩
theorem wI(g:bz)(ag:g.sz<=8388608):aA 29 [.agg g.e] [.one (B (cz g))]:=by
 have bK:=j' (↑(g.nodes.map Node.e).length:Int) 1 8;rcases ca (af (↑(g.nodes.map Node.e).length:Int) 1 8) with U | U
 ·skip
  have cI:=j' g.bg 1 4;rcases ca (af g.bg 1 4) with aJ | aJ
  ·skip
   have eT:=j' g.cap 1 4;rcases ca (af g.cap 1 4) with bt | bt
   ·skip
    rcases YB g ag (by grind[af]) with⟨b9,l⟩ | ⟨b9,l⟩
    ·skip
     rw[show cz g=false from by grind[cz]];exact Vy ⟨bK,(by rw[U];rfl),cI,(by rw[aJ];rfl),eT,(by rw[bt];rfl),l,aj⟩
    skip
    rw[show cz g=true from by grind[cz]];exact Vz ⟨bK,(by rw[U];rfl),cI,(by rw[aJ];rfl),eT,(by rw[bt];rfl),l,aj⟩
   skip
   rw[show cz g=false from by grind[cz]];exact V5 ⟨bK,(by rw[U];rfl),cI,(by rw[aJ];rfl),eT,(by rw[bt];rfl),aj⟩
  skip
  rw[show cz g=false from by grind[cz]];exact V4 ⟨bK,(by rw[U];rfl),cI,(by rw[aJ];rfl),aj⟩
 skip
 rw[show cz g=false from by grind[cz]];exact V3 ⟨bK,(by rw[U];rfl),aj⟩
theorem K2(x:Node)(k v:Int)(ae:x.outs.length<=8388608):aA 60 [.agg x.e,.one (I k),.one (I v)] [.one (I ((bL x k v).1)),.one (I ((bL x k v).2.1)),.one (B ((bL x k v).2.2))]:=by
 have bK:=LN x (by grind);rcases ca (av x) with U | U
 ·skip
  have cI:=ht k 0 99;rcases ca (af k 0 99) with aJ | aJ
  ·skip
   have eT:=ht v 0 999;rcases ca (af v 0 999) with bt | bt
   ·skip
    rcases ca (x.kind==2) with bQ | bQ
    ·skip
     have jX:=Yx (v+x.a) 999;rw[show bL x k v=(k,less (v+x.a) 999,true) from by grind[bL,c9,less,av,bh]];exact WK ⟨bK,(by rw[U];rfl),cI,(by rw[aJ];rfl),eT,(by rw[bt];rfl),bQ,(by grind[av,bh,af,ap,c9]),jX,aj⟩
    skip
    rcases ca (x.kind==4) with dQ | dQ
    ·skip
     rw[show bL x k v=((k+x.a).tmod 100,v,true) from by grind[bL,c9,less,av,bh]];exact WL ⟨bK,(by rw[U];rfl),cI,(by rw[aJ];rfl),eT,(by rw[bt];rfl),bQ,dQ,(by grind[av,bh,af,ap,c9]),(by grind[av,bh,af,ap,c9]),aj⟩
    skip
    rcases ca (x.kind==3) with dI | dI
    ·skip
     rw[show bL x k v=(k,v,k.tmod x.a==x.b) from by grind[bL,c9,less,av,bh]];exact WM ⟨bK,(by rw[U];rfl),cI,(by rw[aJ];rfl),eT,(by rw[bt];rfl),bQ,dQ,dI,(by grind[av,bh,af,ap,c9]),aj⟩
    skip
    rw[show bL x k v=(k,v,x.kind != 8) from by grind[bL,c9,less,av,bh]];exact WN ⟨bK,(by rw[U];rfl),cI,(by rw[aJ];rfl),eT,(by rw[bt];rfl),bQ,dQ,dI,aj⟩
   skip
   rw[show bL x k v=(k,v,false) from by grind[bL,c9,less,av,bh]];exact WJ ⟨bK,(by rw[U];rfl),cI,(by rw[aJ];rfl),eT,(by rw[bt];rfl),aj⟩
  skip
  rw[show bL x k v=(k,v,false) from by grind[bL,c9,less,av,bh]];exact WI ⟨bK,(by rw[U];rfl),cI,(by rw[aJ];rfl),aj⟩
 skip
 rw[show bL x k v=(k,v,false) from by grind[bL,c9,less,av,bh]];exact WH ⟨bK,(by rw[U];rfl),aj⟩
theorem YC(x:Node)(k v:Int)(ae:x.outs.length<=8388608):aA 54 [.agg x.e,.one (I k),.one (I v)] [.one (I ((bL x k v).1)),.one (I ((bL x k v).2.1)),.one (B ((bL x k v).2.2))]:=by
 have bK:=KX x (by grind);rcases ca (av x) with U | U
 ·skip
  have cI:=LM k v;rcases ca (c9 k v) with aJ | aJ
  ·skip
   rcases ca (x.kind==2) with a1 | a1
   ·skip
    rw[show bL x k v=(k,if v+x.a<999 then v+x.a else 999,true) from by grind[bL,c9,less,av,bh]];exact WR ⟨bK,(by rw[U];rfl),cI,(by rw[aJ];rfl),a1,(by grind[av,bh,af,ap,c9]),aj⟩
   skip
   rcases ca (x.kind==4) with bt | bt
   ·skip
    rw[show bL x k v=((k+x.a).tmod 100,v,true) from by grind[bL,c9,less,av,bh]];exact WS ⟨bK,(by rw[U];rfl),cI,(by rw[aJ];rfl),a1,bt,(by grind[av,bh,af,ap,c9]),(by grind[av,bh,af,ap,c9]),aj⟩
   skip
   rcases ca (x.kind==3) with bQ | bQ
   ·skip
    rw[show bL x k v=(k,v,k.tmod x.a==x.b) from by grind[bL,c9,less,av,bh]];exact WT ⟨bK,(by rw[U];rfl),cI,(by rw[aJ];rfl),a1,bt,bQ,(by grind[av,bh,af,ap,c9]),aj⟩
   skip
   rw[show bL x k v=(k,v,x.kind != 8) from by grind[bL,c9,less,av,bh]];exact WU ⟨bK,(by rw[U];rfl),cI,(by rw[aJ];rfl),a1,bt,bQ,aj⟩
  skip
  rw[show bL x k v=(k,v,false) from by grind[bL,c9,less,av,bh]];exact WQ ⟨bK,(by rw[U];rfl),cI,(by rw[aJ];rfl),aj⟩
 skip
 rw[show bL x k v=(k,v,false) from by grind[bL,c9,less,av,bh]];exact WO ⟨bK,(by rw[U];rfl),aj⟩
def ci(a b:Cell):Bool:=a.op==b.op&&a.aV==b.aV&&a.key==b.key
def dT(op ep key:Int)(s:Int×Bool)(a:Cell):Int×Bool:=if a.op=op/\a.aV=ep/\a.key=key/\(s.2=false\/a.val<s.1) then (a.val,true) else s
def kN(xs:List Cell)(op ep key:Int):Int×Bool:=xs.foldl (dT op ep key) (0,false)
theorem K3(a b:Cell):aA 83 [.agg a.e,.agg b.e] [.one (B (ci a b))]:=by
 rcases ca (a.op==b.op) with J | J
 ·skip
  rcases ca (a.aV==b.aV) with U | U
  ·skip
   rw[show ci a b=(a.key==b.key) from by grind[ci]];exact To ⟨J,U,aj⟩
  skip
  rw[show ci a b=false from by grind[ci]];exact Tp ⟨J,U,aj⟩
 skip
 rw[show ci a b=false from by grind[ci]];exact Tq ⟨J,aj⟩
theorem YD(xs:List Cell)(ak:xs.length<=8388608)(op ep key m:Int)(f:Bool)(i:Nat)(a:Cell)(aC:xs[i]?=some a):eS prog (aF f76 0) (jq (xs.map Cell.e) op ep key i f m) .normal (jq (xs.map Cell.e) op ep key ((i+1:Nat):Int) (dT op ep key (m,f) a).2 (dT op ep key (m,f) a).1):=by
 have aU:=ct aC;have cJ:xs[(i:Int).toNat]?=some a:=by simpa using aC
 have dq:decide ((i:Int)<(↑(xs.map Cell.e).length:Int))=true:=dr aU;rcases ca (a.op==op) with J | J
 ·skip
  rcases ca (a.aV==ep) with U | U
  ·skip
   rcases ca (a.key==key) with ax | ax
   ·skip
    rcases ca (f) with aJ | aJ
    ·skip
     rcases ca (decide (a.val<m)) with a1 | a1
     ·skip
      rw[show dT op ep key (m,f) a=(a.val,true) from by grind[dT,ci]];exact UX ⟨dq,(by grind[ap]),(by grind[ap]),(bf Cell.e cJ),J,U,ax,(by rw[aJ];rfl),a1,(by grind[ap]),aj⟩
     skip
     rw[show dT op ep key (m,f) a=(m,f) from by grind[dT,ci]];exact UY ⟨dq,(by grind[ap]),(by grind[ap]),(bf Cell.e cJ),J,U,ax,(by rw[aJ];rfl),a1,(by grind[ap]),aj⟩
    skip
    rw[show dT op ep key (m,f) a=(a.val,true) from by grind[dT,ci]];exact UW ⟨dq,(by grind[ap]),(by grind[ap]),(bf Cell.e cJ),J,U,ax,(by rw[aJ];rfl),(by grind[ap]),aj⟩
   skip
   rw[show dT op ep key (m,f) a=(m,f) from by grind[dT,ci]];exact UZ ⟨dq,(by grind[ap]),(by grind[ap]),(bf Cell.e cJ),J,U,ax,(by grind[ap]),aj⟩
  skip
  rw[show dT op ep key (m,f) a=(m,f) from by grind[dT,ci]];exact U0 ⟨dq,(by grind[ap]),(by grind[ap]),(bf Cell.e cJ),J,U,(by grind[ap]),aj⟩
 skip
 rw[show dT op ep key (m,f) a=(m,f) from by grind[dT,ci]];exact U1 ⟨dq,(by grind[ap]),(by grind[ap]),(bf Cell.e cJ),J,(by grind[ap]),aj⟩
theorem YE(xs:List Cell)(ak:xs.length<=8388608)(op ep key m:Int)(f:Bool)(i:Nat)(a:Cell)(aC:xs[i]?=some a):eS prog (aF f80 0) (lA (xs.map Cell.e) op ep key i f m) .normal (lA (xs.map Cell.e) op ep key ((i+1:Nat):Int) (dT op ep key (m,f) a).2 (dT op ep key (m,f) a).1):=by
 have aU:=ct aC;have cJ:xs[(i:Int).toNat]?=some a:=by simpa using aC
 have dq:decide ((i:Int)<(↑(xs.map Cell.e).length:Int))=true:=dr aU;have bK:=K3 a (⟨op,ep,key,0⟩:Cell);rcases ca (ci a (⟨op,ep,key,0⟩:Cell)) with U | U
 ·skip
  rcases ca (f) with ax | ax
  ·skip
   rcases ca (decide (a.val<m)) with aJ | aJ
   ·skip
    rw[show dT op ep key (m,f) a=(a.val,true) from by grind[dT,ci]];exact Ty ⟨dq,(by grind[ap]),(by grind[ap]),(bf Cell.e cJ),bK,U,(by rw[ax];rfl),aJ,(by grind[ap]),aj⟩
   skip
   rw[show dT op ep key (m,f) a=(m,f) from by grind[dT,ci]];exact Tz ⟨dq,(by grind[ap]),(by grind[ap]),(bf Cell.e cJ),bK,U,(by rw[ax];rfl),aJ,(by grind[ap]),aj⟩
  skip
  rw[show dT op ep key (m,f) a=(a.val,true) from by grind[dT,ci]];exact Tx ⟨dq,(by grind[ap]),(by grind[ap]),(bf Cell.e cJ),bK,U,(by rw[ax];rfl),(by grind[ap]),aj⟩
 skip
 rw[show dT op ep key (m,f) a=(m,f) from by grind[dT,ci]];exact TA ⟨dq,(by grind[ap]),(by grind[ap]),(bf Cell.e cJ),bK,U,(by grind[ap]),aj⟩
theorem K4(xs:List Cell)(op ep key:Int)(ak:xs.length<=8388608):aA 76 [.one (.aa 4 (xs.map Cell.e)),.one (I op),.one (I ep),.one (I key)] [.one (I (kN xs op ep key).1),.one (B (kN xs op ep key).2)]:=by
 have l:=gx (P:=prog) (c:=(aF f76 0)) (di 0) xs.length (fun i:Nat=>jq (xs.map Cell.e) op ep key i (pW (dT op ep key) (0,false) xs i).2 (pW (dT op ep key) (0,false) xs i).1) (fun i hi=>by
  obtain⟨a,aC⟩:=cT hi;rw[J3 aC];exact YD xs ak op ep key _ _ i a aC) (U2 ⟨fb,aj⟩)
 rw[J4]at l;exact U3 ⟨l,aj⟩
theorem YF(xs:List Cell)(op ep key:Int)(ak:xs.length<=8388608):aA 80 [.one (.aa 4 (xs.map Cell.e)),.one (I op),.one (I ep),.one (I key)] [.one (I (kN xs op ep key).1),.one (B (kN xs op ep key).2)]:=by
 have l:=gx (P:=prog) (c:=(aF f80 0)) (di 0) xs.length (fun i:Nat=>lA (xs.map Cell.e) op ep key i (pW (dT op ep key) (0,false) xs i).2 (pW (dT op ep key) (0,false) xs i).1) (fun i hi=>by
  obtain⟨a,aC⟩:=cT hi;rw[J3 aC];exact YE xs ak op ep key _ _ i a aC) (TB ⟨fb,aj⟩)
 rw[J4]at l;exact TC ⟨l,aj⟩
