import Derived.Test.YtdchjefneblpgaaGreatP15
set_option linter.unusedVariables false
set_option linter.unusedSimpArgs false
namespace Go.Proofs.YtdchjefneblpgaaGreat
open Go.Sx Go.RowKit Go.Proofs.Tryz
def jd(g:b9)(k:Int):Int:=match g.nodes[k.toNat]? with | some y=>y.kind | none=>0
def gZ(g:b9)(i:Nat)(x:Node)(k:Int):Bool:=
 decide ((g.nodes.length:Int)<=k)||(if x.kind=7 then decide ((i:Int)<k)||(jd g k != 5&&jd g k != 6) else decide (k<=i))
def kc(g:b9)(i:Nat)(x:Node):Bool:=!aM x||(decide (x.kind=1) != decide ((i:Int)=0))||x.outs.any (gZ g i x)
def eM(g:b9):Bool:=aw g.nodes.length 1 8&&aw g.az 1 4&&aw g.cap 1 4&&!(anyI (kc g) 0 g.nodes)
def c6(x:Node)(k v:Int):Int×Int×Bool:=
 if aM x&&fD k v then
  if x.kind=2 then (k,less (v+x.a) 999,true)
  else if x.kind=4 then ((k+x.a).tmod 100,v,true)
  else if x.kind=3 then (k,v,k.tmod x.a==x.b)
  else (k,v,x.kind != 8)
 else (k,v,false)
theorem Mg{l:List Int}(h:ov l=true){k:Int}(hk:k∈l):aw k 0 7=true:=by
 simp only[ov,gT,ik]at h;simpa using h k hk
theorem Wl(g:b9)(ay:g.sz<=8388608)(i:Nat)(hi:i<8)(x:Node)(ah:g.nodes[i]?=some x)(cF:aM x=true)(j:Nat)(k:Int)(hk:x.outs[j]?=some k)(r:Bool)(aA:gZ g i x k=r):fT prog (ar f121 1) (jb i (g.nodes.map Node.e) g.az g.cap x.kind x.a x.b (x.outs.map bh) (j:Int)) (bif r then .ret else .normal) (bif r then sB false else jb i (g.nodes.map Node.e) g.az g.cap x.kind x.a x.b (x.outs.map bh) ((j+1:Nat):Int)):=by
 have a1:=aT hk;have ap:x.outs.length<=2:=by grind[aM]
 have mK:aw k 0 7=true:=Mg (by grind[aM]) (eD hk);have ck:x.outs[(j:Int).toNat]?=some k:=by simpa using hk
 have eL:decide ((j:Int)<(↑(x.outs.map bh).length:Int))=true:=b5 a1;rcases cS (decide (k>=(↑(g.nodes.map Node.e).length:Int))) with h1 | h1
 ·skip
  obtain rfl:r=true:=by rw[<-aA];grind[gZ,jd,aw]
  exact agQ ⟨eL,(by grind[aw,aD,aM]),(by grind[aw,aD,aM]),(bN bh ck),h1,aa⟩
 skip
 rcases cS (x.kind != 7) with U | U
 ·skip
  rcases cS (decide (k<=(i:Int))) with ax | ax
  ·skip
   obtain rfl:r=true:=by rw[<-aA];grind[gZ,jd,aw]
   exact agR ⟨eL,(by grind[aw,aD,aM]),(by grind[aw,aD,aM]),(bN bh ck),h1,U,ax,aa⟩
  skip
  obtain⟨aaB,Bt⟩:=look (xs:=g.nodes) (i:=k) (by grind[aw,aD,aM]) (by grind[aw,aD,aM]);rcases cS (x.kind==7) with aZ | aZ
  ·skip
   rcases cS (decide (k>(i:Int))) with bB | bB
   ·skip
    obtain rfl:r=true:=by rw[<-aA];grind[gZ,jd,aw]
    exact agS ⟨eL,(by grind[aw,aD,aM]),(by grind[aw,aD,aM]),(bN bh ck),h1,U,ax,(by grind[aw,aD,aM]),(by grind[aw,aD,aM]),(bN Node.e Bt),aZ,bB,aa⟩
   skip
   rcases cS (aaB.kind != 5) with bS | bS
   ·skip
    rcases cS (aaB.kind != 6) with dv | dv
    ·skip
     obtain rfl:r=true:=by rw[<-aA];grind[gZ,jd,aw]
     exact agT ⟨eL,(by grind[aw,aD,aM]),(by grind[aw,aD,aM]),(bN bh ck),h1,U,ax,(by grind[aw,aD,aM]),(by grind[aw,aD,aM]),(bN Node.e Bt),aZ,bB,bS,dv,aa⟩
    skip
    obtain rfl:r=false:=by rw[<-aA];grind[gZ,jd,aw]
    exact agU ⟨eL,(by grind[aw,aD,aM]),(by grind[aw,aD,aM]),(bN bh ck),h1,U,ax,(by grind[aw,aD,aM]),(by grind[aw,aD,aM]),(bN Node.e Bt),aZ,bB,bS,dv,(by grind[aw,aD,aM]),aa⟩
   skip
   obtain rfl:r=false:=by rw[<-aA];grind[gZ,jd,aw]
   exact agV ⟨eL,(by grind[aw,aD,aM]),(by grind[aw,aD,aM]),(bN bh ck),h1,U,ax,(by grind[aw,aD,aM]),(by grind[aw,aD,aM]),(bN Node.e Bt),aZ,bB,bS,(by grind[aw,aD,aM]),aa⟩
  skip
  obtain rfl:r=false:=by rw[<-aA];grind[gZ,jd,aw]
  exact agW ⟨eL,(by grind[aw,aD,aM]),(by grind[aw,aD,aM]),(bN bh ck),h1,U,ax,(by grind[aw,aD,aM]),(by grind[aw,aD,aM]),(bN Node.e Bt),aZ,(by grind[aw,aD,aM]),aa⟩
 skip
 obtain⟨HR,tx⟩:=look (xs:=g.nodes) (i:=k) (by grind[aw,aD,aM]) (by grind[aw,aD,aM]);rcases cS (x.kind==7) with dW | dW
 ·skip
  rcases cS (decide (k>(i:Int))) with iS | iS
  ·skip
   obtain rfl:r=true:=by rw[<-aA];grind[gZ,jd,aw]
   exact af6 ⟨eL,(by grind[aw,aD,aM]),(by grind[aw,aD,aM]),(bN bh ck),h1,U,(by grind[aw,aD,aM]),(by grind[aw,aD,aM]),(bN Node.e tx),dW,iS,aa⟩
  skip
  rcases cS (HR.kind != 5) with jq | jq
  ·skip
   rcases cS (HR.kind != 6) with uL | uL
   ·skip
    obtain rfl:r=true:=by rw[<-aA];grind[gZ,jd,aw]
    exact af7 ⟨eL,(by grind[aw,aD,aM]),(by grind[aw,aD,aM]),(bN bh ck),h1,U,(by grind[aw,aD,aM]),(by grind[aw,aD,aM]),(bN Node.e tx),dW,iS,jq,uL,aa⟩
   skip
   obtain rfl:r=false:=by rw[<-aA];grind[gZ,jd,aw]
   exact af8 ⟨eL,(by grind[aw,aD,aM]),(by grind[aw,aD,aM]),(bN bh ck),h1,U,(by grind[aw,aD,aM]),(by grind[aw,aD,aM]),(bN Node.e tx),dW,iS,jq,uL,(by grind[aw,aD,aM]),aa⟩
  skip
  obtain rfl:r=false:=by rw[<-aA];grind[gZ,jd,aw]
  exact af9 ⟨eL,(by grind[aw,aD,aM]),(by grind[aw,aD,aM]),(bN bh ck),h1,U,(by grind[aw,aD,aM]),(by grind[aw,aD,aM]),(bN Node.e tx),dW,iS,jq,(by grind[aw,aD,aM]),aa⟩
 skip
 obtain rfl:r=false:=by rw[<-aA];grind[gZ,jd,aw]
 exact aga ⟨eL,(by grind[aw,aD,aM]),(by grind[aw,aD,aM]),(bN bh ck),h1,U,(by grind[aw,aD,aM]),(by grind[aw,aD,aM]),(bN Node.e tx),dW,(by grind[aw,aD,aM]),aa⟩
theorem Wm(g:b9)(ay:g.sz<=8388608)(i:Nat)(hi:i<8)(x:Node)(ah:g.nodes[i]?=some x)(cF:aM x=true)(j:Nat)(k:Int)(hk:x.outs[j]?=some k)(r:Bool)(aA:gZ g i x k=r):fT prog (ar f179 1) (jc (g.nodes.map Node.e) i (g.nodes.map Node.e) g.az g.cap x.kind x.a x.b (x.outs.map bh) (j:Int)) (bif r then .ret else .normal) (bif r then sC false else jc (g.nodes.map Node.e) i (g.nodes.map Node.e) g.az g.cap x.kind x.a x.b (x.outs.map bh) ((j+1:Nat):Int)):=by
 have a1:=aT hk;have ap:x.outs.length<=2:=by grind[aM]
 have mK:aw k 0 7=true:=Mg (by grind[aM]) (eD hk);have ck:x.outs[(j:Int).toNat]?=some k:=by simpa using hk
 have eL:decide ((j:Int)<(↑(x.outs.map bh).length:Int))=true:=b5 a1;rcases cS (decide (k>=(↑(g.nodes.map Node.e).length:Int))) with h1 | h1
 ·skip
  obtain rfl:r=true:=by rw[<-aA];grind[gZ,jd,aw]
  exact agn ⟨eL,(by grind[aw,aD,aM]),(by grind[aw,aD,aM]),(bN bh ck),h1,aa⟩
 skip
 obtain⟨eV,j6⟩:=look (xs:=g.nodes) (i:=k) (by grind[aw,aD,aM]) (by grind[aw,aD,aM]);rcases cS (x.kind==7) with ax | ax
 ·skip
  rcases cS (decide (k>(i:Int))) with aF | aF
  ·skip
   obtain rfl:r=true:=by rw[<-aA];grind[gZ,jd,aw]
   exact ago ⟨eL,(by grind[aw,aD,aM]),(by grind[aw,aD,aM]),(bN bh ck),h1,(by grind[aw,aD,aM]),(by grind[aw,aD,aM]),(bN Node.e j6),ax,aF,aa⟩
  skip
  rcases cS (eV.kind != 5) with aZ | aZ
  ·skip
   rcases cS (eV.kind != 6) with bB | bB
   ·skip
    obtain rfl:r=true:=by rw[<-aA];grind[gZ,jd,aw]
    exact agp ⟨eL,(by grind[aw,aD,aM]),(by grind[aw,aD,aM]),(bN bh ck),h1,(by grind[aw,aD,aM]),(by grind[aw,aD,aM]),(bN Node.e j6),ax,aF,aZ,bB,aa⟩
   skip
   rcases cS (x.kind != 7) with bS | bS
   ·skip
    rcases cS (decide (k<=(i:Int))) with dv | dv
    ·skip
     obtain rfl:r=true:=by rw[<-aA];grind[gZ,jd,aw]
     exact agq ⟨eL,(by grind[aw,aD,aM]),(by grind[aw,aD,aM]),(bN bh ck),h1,(by grind[aw,aD,aM]),(by grind[aw,aD,aM]),(bN Node.e j6),ax,aF,aZ,bB,bS,dv,aa⟩
    skip
    obtain rfl:r=false:=by rw[<-aA];grind[gZ,jd,aw]
    exact agr ⟨eL,(by grind[aw,aD,aM]),(by grind[aw,aD,aM]),(bN bh ck),h1,(by grind[aw,aD,aM]),(by grind[aw,aD,aM]),(bN Node.e j6),ax,aF,aZ,bB,bS,dv,(by grind[aw,aD,aM]),aa⟩
   skip
   obtain rfl:r=false:=by rw[<-aA];grind[gZ,jd,aw]
   exact ags ⟨eL,(by grind[aw,aD,aM]),(by grind[aw,aD,aM]),(bN bh ck),h1,(by grind[aw,aD,aM]),(by grind[aw,aD,aM]),(bN Node.e j6),ax,aF,aZ,bB,bS,(by grind[aw,aD,aM]),aa⟩
  skip
  rcases cS (x.kind != 7) with eu | eu
  ·skip
   rcases cS (decide (k<=(i:Int))) with dW | dW
   ·skip
    obtain rfl:r=true:=by rw[<-aA];grind[gZ,jd,aw]
    exact agt ⟨eL,(by grind[aw,aD,aM]),(by grind[aw,aD,aM]),(bN bh ck),h1,(by grind[aw,aD,aM]),(by grind[aw,aD,aM]),(bN Node.e j6),ax,aF,aZ,eu,dW,aa⟩
   skip
   obtain rfl:r=false:=by rw[<-aA];grind[gZ,jd,aw]
   exact agu ⟨eL,(by grind[aw,aD,aM]),(by grind[aw,aD,aM]),(bN bh ck),h1,(by grind[aw,aD,aM]),(by grind[aw,aD,aM]),(bN Node.e j6),ax,aF,aZ,eu,dW,(by grind[aw,aD,aM]),aa⟩
  skip
  obtain rfl:r=false:=by rw[<-aA];grind[gZ,jd,aw]
  exact agv ⟨eL,(by grind[aw,aD,aM]),(by grind[aw,aD,aM]),(bN bh ck),h1,(by grind[aw,aD,aM]),(by grind[aw,aD,aM]),(bN Node.e j6),ax,aF,aZ,eu,(by grind[aw,aD,aM]),aa⟩
 skip
 rcases cS (x.kind != 7) with iS | iS
 ·skip
  rcases cS (decide (k<=(i:Int))) with jq | jq
  ·skip
   obtain rfl:r=true:=by rw[<-aA];grind[gZ,jd,aw]
   exact agw ⟨eL,(by grind[aw,aD,aM]),(by grind[aw,aD,aM]),(bN bh ck),h1,(by grind[aw,aD,aM]),(by grind[aw,aD,aM]),(bN Node.e j6),ax,iS,jq,aa⟩
  skip
  obtain rfl:r=false:=by rw[<-aA];grind[gZ,jd,aw]
  exact afW ⟨eL,(by grind[aw,aD,aM]),(by grind[aw,aD,aM]),(bN bh ck),h1,(by grind[aw,aD,aM]),(by grind[aw,aD,aM]),(bN Node.e j6),ax,iS,jq,(by grind[aw,aD,aM]),aa⟩
 skip
 obtain rfl:r=false:=by rw[<-aA];grind[gZ,jd,aw]
 exact afX ⟨eL,(by grind[aw,aD,aM]),(by grind[aw,aD,aM]),(bN bh ck),h1,(by grind[aw,aD,aM]),(by grind[aw,aD,aM]),(bN Node.e j6),ax,iS,(by grind[aw,aD,aM]),aa⟩
theorem ai4(g:b9)(ay:g.sz<=8388608)(i:Nat)(hi:i<8)(x:Node)(ah:g.nodes[i]?=some x)(cF:aM x=true):
  (x.outs.any (gZ g i x)=true/\c5 prog (ar f121 1) (jb i (g.nodes.map Node.e) g.az g.cap x.kind x.a x.b (x.outs.map bh) 0) .ret (sB false))\/(x.outs.any (gZ g i x)=false/\c5 prog (ar f121 1) (jb i (g.nodes.map Node.e) g.az g.cap x.kind x.a x.b (x.outs.map bh) 0) (.exit 2) (L9 i (g.nodes.map Node.e) g.az g.cap)):=by
 have l:=gN (P:=prog) (c:=(ar f121 1)) x.outs (gZ g i x) (fun j=>jb i (g.nodes.map Node.e) g.az g.cap x.kind x.a x.b (x.outs.map bh) j) (X:=fun _ _=>sB false) e0 (cH 2)
  (fun j k hk h=>Wl g ay i hi x ah cF j k hk false h)
  (fun j k hk h=>Wl g ay i hi x ah cF j k hk true h)
  (agb ⟨dT,aa⟩)
 rcases l with⟨_,_,h1,U⟩ | ⟨j,k,_,_,_,_,h1,U⟩
 ·exact .inr ⟨h1,U⟩
 exact .inl ⟨h1,U⟩
theorem ai5(g:b9)(ay:g.sz<=8388608)(i:Nat)(hi:i<8)(x:Node)(ah:g.nodes[i]?=some x)(cF:aM x=true):
  (x.outs.any (gZ g i x)=true/\c5 prog (ar f179 1) (jc (g.nodes.map Node.e) i (g.nodes.map Node.e) g.az g.cap x.kind x.a x.b (x.outs.map bh) 0) .ret (sC false))\/(x.outs.any (gZ g i x)=false/\c5 prog (ar f179 1) (jc (g.nodes.map Node.e) i (g.nodes.map Node.e) g.az g.cap x.kind x.a x.b (x.outs.map bh) 0) (.exit 2) (Mb (g.nodes.map Node.e) i (g.nodes.map Node.e) g.az g.cap)):=by
 have l:=gN (P:=prog) (c:=(ar f179 1)) x.outs (gZ g i x) (fun j=>jc (g.nodes.map Node.e) i (g.nodes.map Node.e) g.az g.cap x.kind x.a x.b (x.outs.map bh) j) (X:=fun _ _=>sC false) e0 (cH 2)
  (fun j k hk h=>Wm g ay i hi x ah cF j k hk false h)
  (fun j k hk h=>Wm g ay i hi x ah cF j k hk true h)
  (afY ⟨dT,aa⟩)
 rcases l with⟨_,_,h1,U⟩ | ⟨j,k,_,_,_,_,h1,U⟩
 ·exact .inr ⟨h1,U⟩
 exact .inl ⟨h1,U⟩
theorem Wn(g:b9)(ay:g.sz<=8388608)(i:Nat)(hi:i<8)(x:Node)(ah:g.nodes[i]?=some x)(r:Bool)(aA:kc g i x=r):fT prog (ar f121 0) (pu ((i:Nat):Int) (g.nodes.map Node.e) g.az g.cap) (bif r then .ret else .normal) (bif r then xF false else pu ((i+1:Nat):Int) (g.nodes.map Node.e) g.az g.cap):=by
 have a1:=aT ah;have ba:=b9.BI ay (eD ah);have ck:g.nodes[(i:Int).toNat]?=some x:=by simpa using ah
 have eL:decide ((i:Int)<(↑(g.nodes.map Node.e).length:Int))=true:=b5 a1;have c1:=UU x (by grind);rcases cS (aM x) with U | U
 ·skip
  rcases cS ((x.kind==1)==((i:Int)==0)) with ax | ax
  ·skip
   rcases ai4 g ay i hi x ah (by grind) with⟨cz,l⟩ | ⟨cz,l⟩
   ·skip
    obtain rfl:r=true:=by rw[<-aA];grind[kc]
    exact agc ⟨eL,(by grind[aw,aD,aM]),(by grind[aw,aD,aM]),(bN Node.e ck),c1,(by rw[U];rfl),(by rw[ax];rfl),l,aa⟩
   skip
   obtain rfl:r=false:=by rw[<-aA];grind[kc]
   exact agd ⟨eL,(by grind[aw,aD,aM]),(by grind[aw,aD,aM]),(bN Node.e ck),c1,(by rw[U];rfl),(by rw[ax];rfl),l,(by grind[aw,aD,aM]),aa⟩
  skip
  obtain rfl:r=true:=by rw[<-aA];grind[kc]
  exact agP ⟨eL,(by grind[aw,aD,aM]),(by grind[aw,aD,aM]),(bN Node.e ck),c1,(by rw[U];rfl),(by rw[ax];rfl),aa⟩
 skip
 obtain rfl:r=true:=by rw[<-aA];grind[kc]
 exact agO ⟨eL,(by grind[aw,aD,aM]),(by grind[aw,aD,aM]),(bN Node.e ck),c1,(by rw[U];rfl),aa⟩
theorem Wo(g:b9)(ay:g.sz<=8388608)(i:Nat)(hi:i<8)(x:Node)(ah:g.nodes[i]?=some x)(r:Bool)(aA:kc g i x=r):fT prog (ar f179 0) (pv (g.nodes.map Node.e) ((i:Nat):Int) (g.nodes.map Node.e) g.az g.cap) (bif r then .ret else .normal) (bif r then xG false else pv (g.nodes.map Node.e) ((i+1:Nat):Int) (g.nodes.map Node.e) g.az g.cap):=by
 have a1:=aT ah;have ba:=b9.BI ay (eD ah);have ck:g.nodes[(i:Int).toNat]?=some x:=by simpa using ah
 have eL:decide ((i:Int)<(↑(g.nodes.map Node.e).length:Int))=true:=b5 a1;have c1:=UW x (by grind);rcases cS (aM x) with U | U
 ·skip
  rcases cS ((x.kind==1)==((i:Int)==0)) with ax | ax
  ·skip
   rcases ai5 g ay i hi x ah (by grind) with⟨cz,l⟩ | ⟨cz,l⟩
   ·skip
    obtain rfl:r=true:=by rw[<-aA];grind[kc]
    exact afZ ⟨eL,(by grind[aw,aD,aM]),(by grind[aw,aD,aM]),(bN Node.e ck),c1,(by rw[U];rfl),(by rw[ax];rfl),l,aa⟩
   skip
   obtain rfl:r=false:=by rw[<-aA];grind[kc]
   exact af0 ⟨eL,(by grind[aw,aD,aM]),(by grind[aw,aD,aM]),(bN Node.e ck),c1,(by rw[U];rfl),(by rw[ax];rfl),l,(by grind[aw,aD,aM]),aa⟩
  skip
  obtain rfl:r=true:=by rw[<-aA];grind[kc]
  exact agm ⟨eL,(by grind[aw,aD,aM]),(by grind[aw,aD,aM]),(bN Node.e ck),c1,(by rw[U];rfl),(by rw[ax];rfl),aa⟩
 skip
 obtain rfl:r=true:=by rw[<-aA];grind[kc]
 exact agl ⟨eL,(by grind[aw,aD,aM]),(by grind[aw,aD,aM]),(bN Node.e ck),c1,(by rw[U];rfl),aa⟩
theorem ai6(g:b9)(ay:g.sz<=8388608)(dv:g.nodes.length<=8):
  (anyI (kc g) 0 g.nodes=true/\c5 prog (ar f121 0) (pu 0 (g.nodes.map Node.e) g.az g.cap) .ret (xF false))\/(anyI (kc g) 0 g.nodes=false/\c5 prog (ar f121 0) (pu 0 (g.nodes.map Node.e) g.az g.cap) (.exit 0) Ma):=by
 have l:=su (P:=prog) (c:=(ar f121 0)) g.nodes (kc g) (fun i=>pu (i:Nat) (g.nodes.map Node.e) g.az g.cap) (X:=xF false) e0 (cH 0)
  (fun i x ah h=>Wn g ay i (by have:=aT ah;omega) x ah false h)
  (fun i x ah h=>Wn g ay i (by have:=aT ah;omega) x ah true h)
  (age ⟨dT,aa⟩)
 rcases l with⟨h1,U⟩ | ⟨h1,U⟩
 ·exact .inr ⟨h1,U⟩
 exact .inl ⟨h1,U⟩
theorem ai7(g:b9)(ay:g.sz<=8388608)(dv:g.nodes.length<=8):
  (anyI (kc g) 0 g.nodes=true/\c5 prog (ar f179 0) (pv (g.nodes.map Node.e) 0 (g.nodes.map Node.e) g.az g.cap) .ret (xG false))\/(anyI (kc g) 0 g.nodes=false/\c5 prog (ar f179 0) (pv (g.nodes.map Node.e) 0 (g.nodes.map Node.e) g.az g.cap) (.exit 0) Mc):=by
 have l:=su (P:=prog) (c:=(ar f179 0)) g.nodes (kc g) (fun i=>pv (g.nodes.map Node.e) (i:Nat) (g.nodes.map Node.e) g.az g.cap) (X:=xG false) e0 (cH 0)
  (fun i x ah h=>Wo g ay i (by have:=aT ah;omega) x ah false h)
  (fun i x ah h=>Wo g ay i (by have:=aT ah;omega) x ah true h)
  (af1 ⟨dT,aa⟩)
 rcases l with⟨h1,U⟩ | ⟨h1,U⟩
 ·exact .inr ⟨h1,U⟩
 exact .inl ⟨h1,U⟩
theorem y1(g:b9)(ay:g.sz<=8388608):al 121 [.agg g.e] [.one (B (eM g))]:=by
 have c1:=jy (↑(g.nodes.map Node.e).length:Int) 1 8;rcases cS (aw (↑(g.nodes.map Node.e).length:Int) 1 8) with U | U
 ·skip
  have cM:=jy g.az 1 4;rcases cS (aw g.az 1 4) with aF | aF
  ·skip
   have hf:=jy g.cap 1 4;rcases cS (aw g.cap 1 4) with bB | bB
   ·skip
    rcases ai6 g ay (by grind[aw]) with⟨cz,l⟩ | ⟨cz,l⟩
    ·skip
     rw[show eM g=false from by grind[eM]];exact agf ⟨c1,(by rw[U];rfl),cM,(by rw[aF];rfl),hf,(by rw[bB];rfl),l,aa⟩
    skip
    rw[show eM g=true from by grind[eM]];exact agh ⟨c1,(by rw[U];rfl),cM,(by rw[aF];rfl),hf,(by rw[bB];rfl),l,aa⟩
   skip
   rw[show eM g=false from by grind[eM]];exact agN ⟨c1,(by rw[U];rfl),cM,(by rw[aF];rfl),hf,(by rw[bB];rfl),aa⟩
  skip
  rw[show eM g=false from by grind[eM]];exact agM ⟨c1,(by rw[U];rfl),cM,(by rw[aF];rfl),aa⟩
 skip
 rw[show eM g=false from by grind[eM]];exact agL ⟨c1,(by rw[U];rfl),aa⟩
theorem y2(g:b9)(ay:g.sz<=8388608):al 179 [.agg g.e] [.one (B (eM g))]:=by
 have c1:=lH (↑(g.nodes.map Node.e).length:Int) 1 8;rcases cS (aw (↑(g.nodes.map Node.e).length:Int) 1 8) with U | U
 ·skip
  have cM:=lH g.az 1 4;rcases cS (aw g.az 1 4) with aF | aF
  ·skip
   have hf:=lH g.cap 1 4;rcases cS (aw g.cap 1 4) with bB | bB
   ·skip
    rcases ai7 g ay (by grind[aw]) with⟨cz,l⟩ | ⟨cz,l⟩
    ·skip
     rw[show eM g=false from by grind[eM]];exact af2 ⟨c1,(by rw[U];rfl),cM,(by rw[aF];rfl),hf,(by rw[bB];rfl),l,aa⟩
    skip
    rw[show eM g=true from by grind[eM]];exact af3 ⟨c1,(by rw[U];rfl),cM,(by rw[aF];rfl),hf,(by rw[bB];rfl),l,aa⟩
   skip
   rw[show eM g=false from by grind[eM]];exact agk ⟨c1,(by rw[U];rfl),cM,(by rw[aF];rfl),hf,(by rw[bB];rfl),aa⟩
  skip
  rw[show eM g=false from by grind[eM]];exact agj ⟨c1,(by rw[U];rfl),cM,(by rw[aF];rfl),aa⟩
 skip
 rw[show eM g=false from by grind[eM]];exact agi ⟨c1,(by rw[U];rfl),aa⟩
theorem aky(x:Node)(k v:Int)(ah:x.outs.length<=8388608):al 267 [.agg x.e,.one (I k),.one (I v)] [.one (I ((c6 x k v).1)),.one (I ((c6 x k v).2.1)),.one (B ((c6 x k v).2.2))]:=by
 have c1:=UU x (by grind);rcases cS (aM x) with U | U
 ·skip
  have cM:=jy k 0 99;rcases cS (aw k 0 99) with aF | aF
  ·skip
   have hf:=jy v 0 999;rcases cS (aw v 0 999) with bB | bB
   ·skip
    rcases cS (x.kind==2) with bS | bS
    ·skip
     have nu:=ai3 (v+x.a) 999;rw[show c6 x k v=(k,less (v+x.a) 999,true) from by grind[c6,fD,less,aM,bR]];exact ahP ⟨c1,(by rw[U];rfl),cM,(by rw[aF];rfl),hf,(by rw[bB];rfl),bS,(by grind[aM,bR,aw,aD,fD]),nu,aa⟩
    skip
    rcases cS (x.kind==4) with eu | eu
    ·skip
     rw[show c6 x k v=((k+x.a).tmod 100,v,true) from by grind[c6,fD,less,aM,bR]];exact ahQ ⟨c1,(by rw[U];rfl),cM,(by rw[aF];rfl),hf,(by rw[bB];rfl),bS,eu,(by grind[aM,bR,aw,aD,fD]),(by grind[aM,bR,aw,aD,fD]),aa⟩
    skip
    rcases cS (x.kind==3) with dW | dW
    ·skip
     rw[show c6 x k v=(k,v,k.tmod x.a==x.b) from by grind[c6,fD,less,aM,bR]];exact ahR ⟨c1,(by rw[U];rfl),cM,(by rw[aF];rfl),hf,(by rw[bB];rfl),bS,eu,dW,(by grind[aM,bR,aw,aD,fD]),aa⟩
    skip
    rw[show c6 x k v=(k,v,x.kind != 8) from by grind[c6,fD,less,aM,bR]];exact ahS ⟨c1,(by rw[U];rfl),cM,(by rw[aF];rfl),hf,(by rw[bB];rfl),bS,eu,dW,aa⟩
   skip
   rw[show c6 x k v=(k,v,false) from by grind[c6,fD,less,aM,bR]];exact ahO ⟨c1,(by rw[U];rfl),cM,(by rw[aF];rfl),hf,(by rw[bB];rfl),aa⟩
  skip
  rw[show c6 x k v=(k,v,false) from by grind[c6,fD,less,aM,bR]];exact ahN ⟨c1,(by rw[U];rfl),cM,(by rw[aF];rfl),aa⟩
 skip
 rw[show c6 x k v=(k,v,false) from by grind[c6,fD,less,aM,bR]];exact ahM ⟨c1,(by rw[U];rfl),aa⟩
theorem akz(x:Node)(k v:Int)(ah:x.outs.length<=8388608):al 298 [.agg x.e,.one (I k),.one (I v)] [.one (I ((c6 x k v).1)),.one (I ((c6 x k v).2.1)),.one (B ((c6 x k v).2.2))]:=by
 have c1:=UW x (by grind);rcases cS (aM x) with U | U
 ·skip
  have cM:=UT k v;rcases cS (fD k v) with aF | aF
  ·skip
   rcases cS (x.kind==2) with aZ | aZ
   ·skip
    rw[show c6 x k v=(k,if v+x.a<999 then v+x.a else 999,true) from by grind[c6,fD,less,aM,bR]];exact ahV ⟨c1,(by rw[U];rfl),cM,(by rw[aF];rfl),aZ,(by grind[aM,bR,aw,aD,fD]),aa⟩
   skip
   rcases cS (x.kind==4) with bB | bB
   ·skip
    rw[show c6 x k v=((k+x.a).tmod 100,v,true) from by grind[c6,fD,less,aM,bR]];exact ahW ⟨c1,(by rw[U];rfl),cM,(by rw[aF];rfl),aZ,bB,(by grind[aM,bR,aw,aD,fD]),(by grind[aM,bR,aw,aD,fD]),aa⟩
   skip
   rcases cS (x.kind==3) with bS | bS
   ·skip
    rw[show c6 x k v=(k,v,k.tmod x.a==x.b) from by grind[c6,fD,less,aM,bR]];exact ag7 ⟨c1,(by rw[U];rfl),cM,(by rw[aF];rfl),aZ,bB,bS,(by grind[aM,bR,aw,aD,fD]),aa⟩
   skip
   rw[show c6 x k v=(k,v,x.kind != 8) from by grind[c6,fD,less,aM,bR]];exact ag8 ⟨c1,(by rw[U];rfl),cM,(by rw[aF];rfl),aZ,bB,bS,aa⟩
  skip
  rw[show c6 x k v=(k,v,false) from by grind[c6,fD,less,aM,bR]];exact ahU ⟨c1,(by rw[U];rfl),cM,(by rw[aF];rfl),aa⟩
 skip
 rw[show c6 x k v=(k,v,false) from by grind[c6,fD,less,aM,bR]];exact ahT ⟨c1,(by rw[U];rfl),aa⟩
def fo(a b:Cell):Bool:=a.op==b.op&&a.bd==b.bd&&a.key==b.key
def ie(op cP key:Int)(s:Int×Bool)(a:Cell):Int×Bool:=if a.op=op/\a.bd=cP/\a.key=key/\(s.2=false\/a.val<s.1) then (a.val,true) else s
def ri(xs:List Cell)(op cP key:Int):Int×Bool:=xs.foldl (ie op cP key) (0,false)
theorem Wp(a b:Cell):al 347 [.agg a.e,.agg b.e] [.one (B (fo a b))]:=by
 rcases cS (a.op==b.op) with h1 | h1
 ·skip
  rcases cS (a.bd==b.bd) with U | U
  ·skip
   rw[show fo a b=(a.key==b.key) from by grind[fo]];exact ayE ⟨h1,U,aa⟩
  skip
  rw[show fo a b=false from by grind[fo]];exact ayF ⟨h1,U,aa⟩
 skip
 rw[show fo a b=false from by grind[fo]];exact ayG ⟨h1,aa⟩
theorem akA(xs:List Cell)(ap:xs.length<=8388608)(op cP key m:Int)(f:Bool)(i:Nat)(a:Cell)(ak:xs[i]?=some a):fT prog (ar f324 0) (mr (xs.map Cell.e) op cP key i f m) .normal (mr (xs.map Cell.e) op cP key ((i+1:Nat):Int) (ie op cP key (m,f) a).2 (ie op cP key (m,f) a).1):=by
 have a1:=aT ak;have ck:xs[(i:Int).toNat]?=some a:=by simpa using ak
 have eL:decide ((i:Int)<(↑(xs.map Cell.e).length:Int))=true:=b5 a1;rcases cS (a.op==op) with h1 | h1
 ·skip
  rcases cS (a.bd==cP) with U | U
  ·skip
   rcases cS (a.key==key) with ax | ax
   ·skip
    rcases cS (f) with aF | aF
    ·skip
     rcases cS (decide (a.val<m)) with aZ | aZ
     ·skip
      rw[show ie op cP key (m,f) a=(a.val,true) from by grind[ie,fo]];exact az8 ⟨eL,(by grind[aD]),(by grind[aD]),(bN Cell.e ck),h1,U,ax,(by rw[aF];rfl),aZ,(by grind[aD]),aa⟩
     skip
     rw[show ie op cP key (m,f) a=(m,f) from by grind[ie,fo]];exact az9 ⟨eL,(by grind[aD]),(by grind[aD]),(bN Cell.e ck),h1,U,ax,(by rw[aF];rfl),aZ,(by grind[aD]),aa⟩
    skip
    rw[show ie op cP key (m,f) a=(a.val,true) from by grind[ie,fo]];exact az7 ⟨eL,(by grind[aD]),(by grind[aD]),(bN Cell.e ck),h1,U,ax,(by rw[aF];rfl),(by grind[aD]),aa⟩
   skip
   rw[show ie op cP key (m,f) a=(m,f) from by grind[ie,fo]];exact aAa ⟨eL,(by grind[aD]),(by grind[aD]),(bN Cell.e ck),h1,U,ax,(by grind[aD]),aa⟩
  skip
  rw[show ie op cP key (m,f) a=(m,f) from by grind[ie,fo]];exact aAb ⟨eL,(by grind[aD]),(by grind[aD]),(bN Cell.e ck),h1,U,(by grind[aD]),aa⟩
 skip
 rw[show ie op cP key (m,f) a=(m,f) from by grind[ie,fo]];exact aAc ⟨eL,(by grind[aD]),(by grind[aD]),(bN Cell.e ck),h1,(by grind[aD]),aa⟩
theorem akB(xs:List Cell)(ap:xs.length<=8388608)(op cP key m:Int)(f:Bool)(i:Nat)(a:Cell)(ak:xs[i]?=some a):fT prog (ar f344 0) (pr (xs.map Cell.e) op cP key i f m) .normal (pr (xs.map Cell.e) op cP key ((i+1:Nat):Int) (ie op cP key (m,f) a).2 (ie op cP key (m,f) a).1):=by
 have a1:=aT ak;have ck:xs[(i:Int).toNat]?=some a:=by simpa using ak
 have eL:decide ((i:Int)<(↑(xs.map Cell.e).length:Int))=true:=b5 a1;have c1:=Wp a (⟨op,cP,key,0⟩:Cell);rcases cS (fo a (⟨op,cP,key,0⟩:Cell)) with U | U
 ·skip
  rcases cS (f) with ax | ax
  ·skip
   rcases cS (decide (a.val<m)) with aF | aF
   ·skip
    rw[show ie op cP key (m,f) a=(a.val,true) from by grind[ie,fo]];exact ayO ⟨eL,(by grind[aD]),(by grind[aD]),(bN Cell.e ck),c1,U,(by rw[ax];rfl),aF,(by grind[aD]),aa⟩
   skip
   rw[show ie op cP key (m,f) a=(m,f) from by grind[ie,fo]];exact ayP ⟨eL,(by grind[aD]),(by grind[aD]),(bN Cell.e ck),c1,U,(by rw[ax];rfl),aF,(by grind[aD]),aa⟩
  skip
  rw[show ie op cP key (m,f) a=(a.val,true) from by grind[ie,fo]];exact ayN ⟨eL,(by grind[aD]),(by grind[aD]),(bN Cell.e ck),c1,U,(by rw[ax];rfl),(by grind[aD]),aa⟩
 skip
 rw[show ie op cP key (m,f) a=(m,f) from by grind[ie,fo]];exact ayQ ⟨eL,(by grind[aD]),(by grind[aD]),(bN Cell.e ck),c1,U,(by grind[aD]),aa⟩
theorem Wq(xs:List Cell)(op cP key:Int)(ap:xs.length<=8388608):al 324 [.one (.J 4 (xs.map Cell.e)),.one (I op),.one (I cP),.one (I key)] [.one (I (ri xs op cP key).1),.one (B (ri xs op cP key).2)]:=by
 have l:=fC (P:=prog) (c:=(ar f324 0)) (cH 0) xs.length (fun i:Nat=>mr (xs.map Cell.e) op cP key i (tN (ie op cP key) (0,false) xs i).2 (tN (ie op cP key) (0,false) xs i).1) (fun i hi=>by
  obtain⟨a,ak⟩:=c9 hi;rw[UA ak];exact akA xs ap op cP key _ _ i a ak) (aAd ⟨dT,aa⟩)
 rw[UB]at l;exact aAe ⟨l,aa⟩
theorem akC(xs:List Cell)(op cP key:Int)(ap:xs.length<=8388608):al 344 [.one (.J 4 (xs.map Cell.e)),.one (I op),.one (I cP),.one (I key)] [.one (I (ri xs op cP key).1),.one (B (ri xs op cP key).2)]:=by
 have l:=fC (P:=prog) (c:=(ar f344 0)) (cH 0) xs.length (fun i:Nat=>pr (xs.map Cell.e) op cP key i (tN (ie op cP key) (0,false) xs i).2 (tN (ie op cP key) (0,false) xs i).1) (fun i hi=>by
  obtain⟨a,ak⟩:=c9 hi;rw[UA ak];exact akB xs ap op cP key _ _ i a ak) (ayR ⟨dT,aa⟩)
 rw[UB]at l;exact ayS ⟨l,aa⟩
