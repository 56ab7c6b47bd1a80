import Derived.Test.YtdchjefneblpgaaGreatP15
set_option linter.unusedVariables false
set_option linter.unusedSimpArgs false
namespace Go.Proofs.YtdchjefneblpgaaGreat
open Go.Sx Go.RowKit Go.Proofs.Tryz
def jb(g:bF)(k:Int):Int:=match g.nodes[k.toNat]? with | some y=>y.kind | none=>0
def gK(g:bF)(i:Nat)(x:Node)(k:Int):Bool:=
 decide ((g.nodes.length:Int)<=k)||(if x.kind=7 then decide ((i:Int)<k)||(jb g k != 5&&jb g k != 6) else decide (k<=i))
def jq(g:bF)(i:Nat)(x:Node):Bool:=!aO x||(decide (x.kind=1) != decide ((i:Int)=0))||x.outs.any (gK g i x)
def dg(g:bF):Bool:=aw g.nodes.length 1 8&&aw g.ao 1 4&&aw g.cap 1 4&&!(anyI (jq g) 0 g.nodes)
def b3(x:Node)(k v:Int):Int×Int×Bool:=
 if aO x&&ey k v then
  if x.kind=2 then (k,less (v+x.a) 999,true)
  else if x.kind=4 then ((k+x.a).tmod 100,v,true)
  else if x.kind=3 then (k,v,k.tmod x.a==x.b)
  else (k,v,x.kind != 8)
 else (k,v,false)
theorem Hr{l:List Int}(h:oN l=true){k:Int}(hk:k∈l):aw k 0 7=true:=by
 grind[oN,gQ,fm]
theorem VZ(g:bF)(ar:g.sz<=8388608)(i:Nat)(hi:i<8)(x:Node)(aa:g.nodes[i]?=some x)(bI:aO x=true)(j:Nat)(k:Int)(hk:x.outs[j]?=some k)(r:Bool)(aB:gK g i x k=r):gi prog (ap f121 1) (i' i (g.nodes.map Node.e) g.ao g.cap x.kind x.a x.b (x.outs.map bd) (j:Int)) (bif r then .ret else .normal) (bif r then s5 false else i' i (g.nodes.map Node.e) g.ao g.cap x.kind x.a x.b (x.outs.map bd) ((j+1:Nat):Int)):=by
 have a8:=a6 hk;have aj:x.outs.length<=2:=by grind[aO]
 have oH:aw k 0 7=true:=Hr (by grind[aO]) (cB hk);have dC:x.outs[(j:Int).toNat]?=some k:=by grind
 have eE:decide ((j:Int)<(↑(x.outs.map bd).length:Int))=true:=bT a8;rcases cR (decide (k>=(↑(g.nodes.map Node.e).length:Int))) with h1 | h1
 ·skip
  obtain rfl:r=true:=by grind[gK,jb,aw]
  exact agP ⟨eE,(by grind),(by grind),(bL bd dC),h1,ad⟩
 skip
 rcases cR (x.kind != 7) with U | U
 ·skip
  rcases cR (decide (k<=(i:Int))) with aA | aA
  ·skip
   obtain rfl:r=true:=by grind[gK,jb,aw]
   exact agQ ⟨eE,(by grind),(by grind),(bL bd dC),h1,U,aA,ad⟩
  skip
  obtain⟨abW,Cv⟩:=look (xs:=g.nodes) (i:=k) (by grind) (by grind);rcases cR (x.kind==7) with a' | a'
  ·skip
   rcases cR (decide (k>(i:Int))) with bu | bu
   ·skip
    obtain rfl:r=true:=by rw[<-aB];grind[gK,jb,aw]
    exact agR ⟨eE,(by grind[aw,aJ,aO]),(by grind[aw,aJ,aO]),(bL bd dC),h1,U,aA,(by grind[aw,aJ,aO]),(by grind[aw,aJ,aO]),(bL Node.e Cv),a',bu,ad⟩
   skip
   rcases cR (abW.kind != 5) with bU | bU
   ·skip
    rcases cR (abW.kind != 6) with cI | cI
    ·skip
     obtain rfl:r=true:=by rw[<-aB];grind[gK,jb,aw]
     exact agS ⟨eE,(by grind[aw,aJ,aO]),(by grind[aw,aJ,aO]),(bL bd dC),h1,U,aA,(by grind[aw,aJ,aO]),(by grind[aw,aJ,aO]),(bL Node.e Cv),a',bu,bU,cI,ad⟩
    skip
    obtain rfl:r=false:=by rw[<-aB];grind[gK,jb,aw]
    exact agT ⟨eE,(by grind[aw,aJ,aO]),(by grind[aw,aJ,aO]),(bL bd dC),h1,U,aA,(by grind[aw,aJ,aO]),(by grind[aw,aJ,aO]),(bL Node.e Cv),a',bu,bU,cI,(by grind[aw,aJ,aO]),ad⟩
   skip
   obtain rfl:r=false:=by rw[<-aB];grind[gK,jb,aw]
   exact agU ⟨eE,(by grind[aw,aJ,aO]),(by grind[aw,aJ,aO]),(bL bd dC),h1,U,aA,(by grind[aw,aJ,aO]),(by grind[aw,aJ,aO]),(bL Node.e Cv),a',bu,bU,(by grind[aw,aJ,aO]),ad⟩
  skip
  obtain rfl:r=false:=by grind[gK,jb,aw]
  exact agV ⟨eE,(by grind),(by grind),(bL bd dC),h1,U,aA,(by grind),(by grind),(bL Node.e Cv),a',(by grind[aw,aJ,aO]),ad⟩
 skip
 obtain⟨Js,uk⟩:=look (xs:=g.nodes) (i:=k) (by grind[aw,aJ,aO]) (by grind);rcases cR (x.kind==7) with d' | d'
 ·skip
  rcases cR (decide (k>(i:Int))) with iT | iT
  ·skip
   obtain rfl:r=true:=by grind[gK,jb,aw]
   exact agW ⟨eE,(by grind),(by grind),(bL bd dC),h1,U,(by grind),(by grind),(bL Node.e uk),d',iT,ad⟩
  skip
  rcases cR (Js.kind != 5) with jj | jj
  ·skip
   rcases cR (Js.kind != 6) with vt | vt
   ·skip
    obtain rfl:r=true:=by grind[gK,jb,aw]
    exact agX ⟨eE,(by grind),(by grind),(bL bd dC),h1,U,(by grind[aw,aJ,aO]),(by grind),(bL Node.e uk),d',iT,jj,vt,ad⟩
   skip
   obtain rfl:r=false:=by grind[gK,jb,aw]
   exact agY ⟨eE,(by grind),(by grind),(bL bd dC),h1,U,(by grind[aw,aJ,aO]),(by grind),(bL Node.e uk),d',iT,jj,vt,(by grind[aw,aJ,aO]),ad⟩
  skip
  obtain rfl:r=false:=by grind[gK,jb,aw]
  exact agZ ⟨eE,(by grind),(by grind),(bL bd dC),h1,U,(by grind[aw,aJ,aO]),(by grind),(bL Node.e uk),d',iT,jj,(by grind[aw,aJ,aO]),ad⟩
 skip
 obtain rfl:r=false:=by rw[<-aB];grind[gK,jb,aw]
 exact ag0 ⟨eE,(by grind[aw,aJ,aO]),(by grind[aw,aJ,aO]),(bL bd dC),h1,U,(by grind[aw,aJ,aO]),(by grind[aw,aJ,aO]),(bL Node.e uk),d',(by grind[aw,aJ,aO]),ad⟩
theorem V0(g:bF)(ar:g.sz<=8388608)(i:Nat)(hi:i<8)(x:Node)(aa:g.nodes[i]?=some x)(bI:aO x=true)(j:Nat)(k:Int)(hk:x.outs[j]?=some k)(r:Bool)(aB:gK g i x k=r):gi prog (ap f179 1) (ja (g.nodes.map Node.e) i (g.nodes.map Node.e) g.ao g.cap x.kind x.a x.b (x.outs.map bd) (j:Int)) (bif r then .ret else .normal) (bif r then s6 false else ja (g.nodes.map Node.e) i (g.nodes.map Node.e) g.ao g.cap x.kind x.a x.b (x.outs.map bd) ((j+1:Nat):Int)):=by
 have a8:=a6 hk;have aj:x.outs.length<=2:=by grind[aO]
 have oH:aw k 0 7=true:=Hr (by grind[aO]) (cB hk);have dC:x.outs[(j:Int).toNat]?=some k:=by grind
 have eE:decide ((j:Int)<(↑(x.outs.map bd).length:Int))=true:=bT a8;rcases cR (decide (k>=(↑(g.nodes.map Node.e).length:Int))) with h1 | h1
 ·skip
  obtain rfl:r=true:=by grind[gK,jb,aw]
  exact agm ⟨eE,(by grind),(by grind),(bL bd dC),h1,ad⟩
 skip
 obtain⟨hN,lP⟩:=look (xs:=g.nodes) (i:=k) (by grind[aw,aJ,aO]) (by grind);rcases cR (x.kind==7) with aA | aA
 ·skip
  rcases cR (decide (k>(i:Int))) with aI | aI
  ·skip
   obtain rfl:r=true:=by grind[gK,jb,aw]
   exact agn ⟨eE,(by grind),(by grind),(bL bd dC),h1,(by grind),(by grind),(bL Node.e lP),aA,aI,ad⟩
  skip
  rcases cR (hN.kind != 5) with a' | a'
  ·skip
   rcases cR (hN.kind != 6) with bu | bu
   ·skip
    obtain rfl:r=true:=by grind[gK,jb,aw]
    exact ago ⟨eE,(by grind),(by grind),(bL bd dC),h1,(by grind[aw,aJ,aO]),(by grind),(bL Node.e lP),aA,aI,a',bu,ad⟩
   skip
   rcases cR (x.kind != 7) with bU | bU
   ·skip
    rcases cR (decide (k<=(i:Int))) with cI | cI
    ·skip
     obtain rfl:r=true:=by rw[<-aB];grind[gK,jb,aw]
     exact agp ⟨eE,(by grind[aw,aJ,aO]),(by grind[aw,aJ,aO]),(bL bd dC),h1,(by grind[aw,aJ,aO]),(by grind[aw,aJ,aO]),(bL Node.e lP),aA,aI,a',bu,bU,cI,ad⟩
    skip
    obtain rfl:r=false:=by rw[<-aB];grind[gK,jb,aw]
    exact agq ⟨eE,(by grind[aw,aJ,aO]),(by grind[aw,aJ,aO]),(bL bd dC),h1,(by grind[aw,aJ,aO]),(by grind[aw,aJ,aO]),(bL Node.e lP),aA,aI,a',bu,bU,cI,(by grind[aw,aJ,aO]),ad⟩
   skip
   obtain rfl:r=false:=by grind[gK,jb,aw]
   exact agr ⟨eE,(by grind),(by grind),(bL bd dC),h1,(by grind[aw,aJ,aO]),(by grind),(bL Node.e lP),aA,aI,a',bu,bU,(by grind[aw,aJ,aO]),ad⟩
  skip
  rcases cR (x.kind != 7) with eu | eu
  ·skip
   rcases cR (decide (k<=(i:Int))) with d' | d'
   ·skip
    obtain rfl:r=true:=by rw[<-aB];grind[gK,jb,aw]
    exact ags ⟨eE,(by grind[aw,aJ,aO]),(by grind[aw,aJ,aO]),(bL bd dC),h1,(by grind[aw,aJ,aO]),(by grind[aw,aJ,aO]),(bL Node.e lP),aA,aI,a',eu,d',ad⟩
   skip
   obtain rfl:r=false:=by rw[<-aB];grind[gK,jb,aw]
   exact agt ⟨eE,(by grind[aw,aJ,aO]),(by grind[aw,aJ,aO]),(bL bd dC),h1,(by grind[aw,aJ,aO]),(by grind[aw,aJ,aO]),(bL Node.e lP),aA,aI,a',eu,d',(by grind[aw,aJ,aO]),ad⟩
  skip
  obtain rfl:r=false:=by grind[gK,jb,aw]
  exact agu ⟨eE,(by grind),(by grind),(bL bd dC),h1,(by grind[aw,aJ,aO]),(by grind),(bL Node.e lP),aA,aI,a',eu,(by grind[aw,aJ,aO]),ad⟩
 skip
 rcases cR (x.kind != 7) with iT | iT
 ·skip
  rcases cR (decide (k<=(i:Int))) with jj | jj
  ·skip
   obtain rfl:r=true:=by grind[gK,jb,aw]
   exact agv ⟨eE,(by grind),(by grind),(bL bd dC),h1,(by grind[aw,aJ,aO]),(by grind),(bL Node.e lP),aA,iT,jj,ad⟩
  skip
  obtain rfl:r=false:=by grind[gK,jb,aw]
  exact agw ⟨eE,(by grind),(by grind),(bL bd dC),h1,(by grind),(by grind),(bL Node.e lP),aA,iT,jj,(by grind[aw,aJ,aO]),ad⟩
 skip
 obtain rfl:r=false:=by rw[<-aB];grind[gK,jb,aw]
 exact agx ⟨eE,(by grind[aw,aJ,aO]),(by grind[aw,aJ,aO]),(bL bd dC),h1,(by grind[aw,aJ,aO]),(by grind[aw,aJ,aO]),(bL Node.e lP),aA,iT,(by grind[aw,aJ,aO]),ad⟩
theorem ajD(g:bF)(ar:g.sz<=8388608)(i:Nat)(hi:i<8)(x:Node)(aa:g.nodes[i]?=some x)(bI:aO x=true):
  (x.outs.any (gK g i x)=true/\cN prog (ap f121 1) (i' i (g.nodes.map Node.e) g.ao g.cap x.kind x.a x.b (x.outs.map bd) 0) .ret (s5 false))\/(x.outs.any (gK g i x)=false/\cN prog (ap f121 1) (i' i (g.nodes.map Node.e) g.ao g.cap x.kind x.a x.b (x.outs.map bd) 0) (.exit 2) (NT i (g.nodes.map Node.e) g.ao g.cap)):=by
 have l:=hf (P:=prog) (c:=(ap f121 1)) x.outs (gK g i x) (fun j=>i' i (g.nodes.map Node.e) g.ao g.cap x.kind x.a x.b (x.outs.map bd) j) (X:=fun _ _=>s5 false) eZ (ci 2)
  (fun j k hk h=>VZ g ar i hi x aa bI j k hk false h)
  (fun j k hk h=>VZ g ar i hi x aa bI j k hk true h)
  (ag1 ⟨dq,ad⟩)
 grind
theorem ajE(g:bF)(ar:g.sz<=8388608)(i:Nat)(hi:i<8)(x:Node)(aa:g.nodes[i]?=some x)(bI:aO x=true):
  (x.outs.any (gK g i x)=true/\cN prog (ap f179 1) (ja (g.nodes.map Node.e) i (g.nodes.map Node.e) g.ao g.cap x.kind x.a x.b (x.outs.map bd) 0) .ret (s6 false))\/(x.outs.any (gK g i x)=false/\cN prog (ap f179 1) (ja (g.nodes.map Node.e) i (g.nodes.map Node.e) g.ao g.cap x.kind x.a x.b (x.outs.map bd) 0) (.exit 2) (NV (g.nodes.map Node.e) i (g.nodes.map Node.e) g.ao g.cap)):=by
 have l:=hf (P:=prog) (c:=(ap f179 1)) x.outs (gK g i x) (fun j=>ja (g.nodes.map Node.e) i (g.nodes.map Node.e) g.ao g.cap x.kind x.a x.b (x.outs.map bd) j) (X:=fun _ _=>s6 false) eZ (ci 2)
  (fun j k hk h=>V0 g ar i hi x aa bI j k hk false h)
  (fun j k hk h=>V0 g ar i hi x aa bI j k hk true h)
  (agy ⟨dq,ad⟩)
 grind
theorem V1(g:bF)(ar:g.sz<=8388608)(i:Nat)(hi:i<8)(x:Node)(aa:g.nodes[i]?=some x)(r:Bool)(aB:jq g i x=r):gi prog (ap f121 0) (pO ((i:Nat):Int) (g.nodes.map Node.e) g.ao g.cap) (bif r then .ret else .normal) (bif r then x0 false else pO ((i+1:Nat):Int) (g.nodes.map Node.e) g.ao g.cap):=by
 have a8:=a6 aa;have aW:=bF.xC ar (cB aa);have dC:g.nodes[(i:Int).toNat]?=some x:=by grind
 have eE:decide ((i:Int)<(↑(g.nodes.map Node.e).length:Int))=true:=bT a8;have c1:=VX x (by grind);rcases cR (aO x) with U | U
 ·skip
  rcases cR ((x.kind==1)==((i:Int)==0)) with aA | aA
  ·skip
   rcases ajD g ar i hi x aa (by grind) with⟨cC,l⟩ | ⟨cC,l⟩
   ·skip
    obtain rfl:r=true:=by grind[jq]
    exact ag2 ⟨eE,(by grind),(by grind),(bL Node.e dC),c1,(by rw[U];rfl),(by rw[aA];rfl),l,ad⟩
   skip
   obtain rfl:r=false:=by grind[jq]
   exact ag3 ⟨eE,(by grind),(by grind),(bL Node.e dC),c1,(by rw[U];rfl),(by rw[aA];rfl),l,(by grind[aw,aJ,aO]),ad⟩
  skip
  obtain rfl:r=true:=by grind[jq]
  exact agO ⟨eE,(by grind),(by grind),(bL Node.e dC),c1,(by rw[U];rfl),(by rw[aA];rfl),ad⟩
 skip
 obtain rfl:r=true:=by grind[jq]
 exact agN ⟨eE,(by grind),(by grind),(bL Node.e dC),c1,(by rw[U];rfl),ad⟩
theorem V2(g:bF)(ar:g.sz<=8388608)(i:Nat)(hi:i<8)(x:Node)(aa:g.nodes[i]?=some x)(r:Bool)(aB:jq g i x=r):gi prog (ap f179 0) (pP (g.nodes.map Node.e) ((i:Nat):Int) (g.nodes.map Node.e) g.ao g.cap) (bif r then .ret else .normal) (bif r then x1 false else pP (g.nodes.map Node.e) ((i+1:Nat):Int) (g.nodes.map Node.e) g.ao g.cap):=by
 have a8:=a6 aa;have aW:=bF.xC ar (cB aa);have dC:g.nodes[(i:Int).toNat]?=some x:=by grind
 have eE:decide ((i:Int)<(↑(g.nodes.map Node.e).length:Int))=true:=bT a8;have c1:=VY x (by grind);rcases cR (aO x) with U | U
 ·skip
  rcases cR ((x.kind==1)==((i:Int)==0)) with aA | aA
  ·skip
   rcases ajE g ar i hi x aa (by grind) with⟨cC,l⟩ | ⟨cC,l⟩
   ·skip
    obtain rfl:r=true:=by grind[jq]
    exact agz ⟨eE,(by grind),(by grind),(bL Node.e dC),c1,(by rw[U];rfl),(by rw[aA];rfl),l,ad⟩
   skip
   obtain rfl:r=false:=by grind[jq]
   exact agA ⟨eE,(by grind),(by grind),(bL Node.e dC),c1,(by rw[U];rfl),(by rw[aA];rfl),l,(by grind[aw,aJ,aO]),ad⟩
  skip
  obtain rfl:r=true:=by grind[jq]
  exact agl ⟨eE,(by grind),(by grind),(bL Node.e dC),c1,(by rw[U];rfl),(by rw[aA];rfl),ad⟩
 skip
 obtain rfl:r=true:=by grind[jq]
 exact agk ⟨eE,(by grind),(by grind),(bL Node.e dC),c1,(by rw[U];rfl),ad⟩
theorem ajF(g:bF)(ar:g.sz<=8388608)(cI:g.nodes.length<=8):
  (anyI (jq g) 0 g.nodes=true/\cN prog (ap f121 0) (pO 0 (g.nodes.map Node.e) g.ao g.cap) .ret (x0 false))\/(anyI (jq g) 0 g.nodes=false/\cN prog (ap f121 0) (pO 0 (g.nodes.map Node.e) g.ao g.cap) (.exit 0) NU):=by
 have l:=wD (P:=prog) (c:=(ap f121 0)) g.nodes (jq g) (fun i=>pO (i:Nat) (g.nodes.map Node.e) g.ao g.cap) (X:=x0 false) eZ (ci 0)
  (fun i x aa h=>V1 g ar i (by grind) x aa false h)
  (fun i x aa h=>V1 g ar i (by grind) x aa true h)
  (ag4 ⟨dq,ad⟩)
 grind
theorem ajG(g:bF)(ar:g.sz<=8388608)(cI:g.nodes.length<=8):
  (anyI (jq g) 0 g.nodes=true/\cN prog (ap f179 0) (pP (g.nodes.map Node.e) 0 (g.nodes.map Node.e) g.ao g.cap) .ret (x1 false))\/(anyI (jq g) 0 g.nodes=false/\cN prog (ap f179 0) (pP (g.nodes.map Node.e) 0 (g.nodes.map Node.e) g.ao g.cap) (.exit 0) NW):=by
 have l:=wD (P:=prog) (c:=(ap f179 0)) g.nodes (jq g) (fun i=>pP (g.nodes.map Node.e) (i:Nat) (g.nodes.map Node.e) g.ao g.cap) (X:=x1 false) eZ (ci 0)
  (fun i x aa h=>V2 g ar i (by grind) x aa false h)
  (fun i x aa h=>V2 g ar i (by grind) x aa true h)
  (agB ⟨dq,ad⟩)
 grind
theorem CT(g:bF)(ar:g.sz<=8388608):av 121 [.agg g.e] [.one (B (dg g))]:=by
 have c1:=iw (↑(g.nodes.map Node.e).length:Int) 1 8;rcases cR (aw (↑(g.nodes.map Node.e).length:Int) 1 8) with U | U
 ·skip
  have cw:=iw g.ao 1 4;rcases cR (aw g.ao 1 4) with aI | aI
  ·skip
   have fE:=iw g.cap 1 4;rcases cR (aw g.cap 1 4) with bu | bu
   ·skip
    rcases ajF g ar (by grind[aw]) with⟨cC,l⟩ | ⟨cC,l⟩
    ·skip
     rw[show dg g=false from by grind[dg]];exact ag5 ⟨c1,(by rw[U];rfl),cw,(by rw[aI];rfl),fE,(by rw[bu];rfl),l,ad⟩
    skip
    rw[show dg g=true from by grind[dg]];exact agf ⟨c1,(by rw[U];rfl),cw,(by rw[aI];rfl),fE,(by rw[bu];rfl),l,ad⟩
   skip
   rw[show dg g=false from by grind[dg]];exact agM ⟨c1,(by rw[U];rfl),cw,(by rw[aI];rfl),fE,(by rw[bu];rfl),ad⟩
  skip
  rw[show dg g=false from by grind[dg]];exact agL ⟨c1,(by rw[U];rfl),cw,(by rw[aI];rfl),ad⟩
 skip
 rw[show dg g=false from by grind[dg]];exact agK ⟨c1,(by rw[U];rfl),ad⟩
theorem wI(g:bF)(ar:g.sz<=8388608):av 179 [.agg g.e] [.one (B (dg g))]:=by
 have c1:=lB (↑(g.nodes.map Node.e).length:Int) 1 8;rcases cR (aw (↑(g.nodes.map Node.e).length:Int) 1 8) with U | U
 ·skip
  have cw:=lB g.ao 1 4;rcases cR (aw g.ao 1 4) with aI | aI
  ·skip
   have fE:=lB g.cap 1 4;rcases cR (aw g.cap 1 4) with bu | bu
   ·skip
    rcases ajG g ar (by grind[aw]) with⟨cC,l⟩ | ⟨cC,l⟩
    ·skip
     rw[show dg g=false from by grind[dg]];exact agC ⟨c1,(by rw[U];rfl),cw,(by rw[aI];rfl),fE,(by rw[bu];rfl),l,ad⟩
    skip
    rw[show dg g=true from by grind[dg]];exact agD ⟨c1,(by rw[U];rfl),cw,(by rw[aI];rfl),fE,(by rw[bu];rfl),l,ad⟩
   skip
   rw[show dg g=false from by grind[dg]];exact agj ⟨c1,(by rw[U];rfl),cw,(by rw[aI];rfl),fE,(by rw[bu];rfl),ad⟩
  skip
  rw[show dg g=false from by grind[dg]];exact agi ⟨c1,(by rw[U];rfl),cw,(by rw[aI];rfl),ad⟩
 skip
 rw[show dg g=false from by grind[dg]];exact agh ⟨c1,(by rw[U];rfl),ad⟩
theorem V3(x:Node)(k v:Int)(aa:x.outs.length<=8388608):av 267 [.agg x.e,.one (I k),.one (I v)] [.one (I ((b3 x k v).1)),.one (I ((b3 x k v).2.1)),.one (B ((b3 x k v).2.2))]:=by
 have c1:=VX x (by grind);rcases cR (aO x) with U | U
 ·skip
  have cw:=iw k 0 99;rcases cR (aw k 0 99) with aI | aI
  ·skip
   have fE:=iw v 0 999;rcases cR (aw v 0 999) with bu | bu
   ·skip
    rcases cR (x.kind==2) with bU | bU
    ·skip
     have nQ:=ajC (v+x.a) 999;rw[show b3 x k v=(k,less (v+x.a) 999,true) from by grind[b3,ey,less,aO,bN]];exact ahO ⟨c1,(by rw[U];rfl),cw,(by rw[aI];rfl),fE,(by rw[bu];rfl),bU,(by grind[aO,bN,aw,aJ,ey]),nQ,ad⟩
    skip
    rcases cR (x.kind==4) with eu | eu
    ·skip
     rw[show b3 x k v=((k+x.a).tmod 100,v,true) from by grind[b3,ey,less,aO,bN]];exact ahP ⟨c1,(by rw[U];rfl),cw,(by rw[aI];rfl),fE,(by rw[bu];rfl),bU,eu,(by grind[aO,bN,aw,aJ,ey]),(by grind),ad⟩
    skip
    rcases cR (x.kind==3) with d' | d'
    ·skip
     rw[show b3 x k v=(k,v,k.tmod x.a==x.b) from by grind[b3,ey,less,aO,bN]];exact ahQ ⟨c1,(by rw[U];rfl),cw,(by rw[aI];rfl),fE,(by rw[bu];rfl),bU,eu,d',(by grind[aO,bN,aw,aJ,ey]),ad⟩
    skip
    rw[show b3 x k v=(k,v,x.kind != 8) from by grind[b3,ey,less,aO,bN]];exact ahR ⟨c1,(by rw[U];rfl),cw,(by rw[aI];rfl),fE,(by rw[bu];rfl),bU,eu,d',ad⟩
   skip
   rw[show b3 x k v=(k,v,false) from by grind[b3,ey,less,aO,bN]];exact ahN ⟨c1,(by rw[U];rfl),cw,(by rw[aI];rfl),fE,(by rw[bu];rfl),ad⟩
  skip
  rw[show b3 x k v=(k,v,false) from by grind[b3,ey,less,aO,bN]];exact ahM ⟨c1,(by rw[U];rfl),cw,(by rw[aI];rfl),ad⟩
 skip
 rw[show b3 x k v=(k,v,false) from by grind[b3,ey,less,aO,bN]];exact ahL ⟨c1,(by rw[U];rfl),ad⟩
theorem V4(x:Node)(k v:Int)(aa:x.outs.length<=8388608):av 298 [.agg x.e,.one (I k),.one (I v)] [.one (I ((b3 x k v).1)),.one (I ((b3 x k v).2.1)),.one (B ((b3 x k v).2.2))]:=by
 have c1:=VY x (by grind);rcases cR (aO x) with U | U
 ·skip
  have cw:=N0 k v;rcases cR (ey k v) with aI | aI
  ·skip
   rcases cR (x.kind==2) with a' | a'
   ·skip
    rw[show b3 x k v=(k,if v+x.a<999 then v+x.a else 999,true) from by grind[b3,ey,less,aO,bN]];exact ahU ⟨c1,(by rw[U];rfl),cw,(by rw[aI];rfl),a',(by grind[aO,bN,aw,aJ,ey]),ad⟩
   skip
   rcases cR (x.kind==4) with bu | bu
   ·skip
    rw[show b3 x k v=((k+x.a).tmod 100,v,true) from by grind[b3,ey,less,aO,bN]];exact ahV ⟨c1,(by rw[U];rfl),cw,(by rw[aI];rfl),a',bu,(by grind[aO,bN,aw,aJ,ey]),(by grind),ad⟩
   skip
   rcases cR (x.kind==3) with bU | bU
   ·skip
    rw[show b3 x k v=(k,v,k.tmod x.a==x.b) from by grind[b3,ey,less,aO,bN]];exact ahW ⟨c1,(by rw[U];rfl),cw,(by rw[aI];rfl),a',bu,bU,(by grind[aO,bN,aw,aJ,ey]),ad⟩
   skip
   rw[show b3 x k v=(k,v,x.kind != 8) from by grind[b3,ey,less,aO,bN]];exact ahX ⟨c1,(by rw[U];rfl),cw,(by rw[aI];rfl),a',bu,bU,ad⟩
  skip
  rw[show b3 x k v=(k,v,false) from by grind[b3,ey,less,aO,bN]];exact ahT ⟨c1,(by rw[U];rfl),cw,(by rw[aI];rfl),ad⟩
 skip
 rw[show b3 x k v=(k,v,false) from by grind[b3,ey,less,aO,bN]];exact ahS ⟨c1,(by rw[U];rfl),ad⟩
def cY(a b:Cell):Bool:=a.op==b.op&&a.aU==b.aU&&a.key==b.key
def fj(op ep key:Int)(s:Int×Bool)(a:Cell):Int×Bool:=if a.op=op/\a.aU=ep/\a.key=key/\(s.2=false\/a.val<s.1) then (a.val,true) else s
def oT(xs:List Cell)(op ep key:Int):Int×Bool:=xs.foldl (fj op ep key) (0,false)
theorem V5(a b:Cell):av 347 [.agg a.e,.agg b.e] [.one (B (cY a b))]:=by
 rcases cR (a.op==b.op) with h1 | h1
 ·skip
  rcases cR (a.aU==b.aU) with U | U
  ·skip
   rw[show cY a b=(a.key==b.key) from by grind[cY]];exact aA8 ⟨h1,U,ad⟩
  skip
  rw[show cY a b=false from by grind[cY]];exact aA9 ⟨h1,U,ad⟩
 skip
 rw[show cY a b=false from by grind[cY]];exact aBa ⟨h1,ad⟩
theorem ai7(xs:List Cell)(aj:xs.length<=8388608)(op ep key m:Int)(f:Bool)(i:Nat)(a:Cell)(ae:xs[i]?=some a):gi prog (ap f324 0) (mK (xs.map Cell.e) op ep key i f m) .normal (mK (xs.map Cell.e) op ep key ((i+1:Nat):Int) (fj op ep key (m,f) a).2 (fj op ep key (m,f) a).1):=by
 have a8:=a6 ae;have dC:xs[(i:Int).toNat]?=some a:=by grind
 have eE:decide ((i:Int)<(↑(xs.map Cell.e).length:Int))=true:=bT a8;rcases cR (a.op==op) with h1 | h1
 ·skip
  rcases cR (a.aU==ep) with U | U
  ·skip
   rcases cR (a.key==key) with aA | aA
   ·skip
    rcases cR (f) with aI | aI
    ·skip
     rcases cR (decide (a.val<m)) with a' | a'
     ·skip
      rw[show fj op ep key (m,f) a=(a.val,true) from by grind[fj,cY]];exact afR ⟨eE,(by grind[aJ]),(by grind[aJ]),(bL Cell.e dC),h1,U,aA,(by rw[aI];rfl),a',(by grind[aJ]),ad⟩
     skip
     rw[show fj op ep key (m,f) a=(m,f) from by grind[fj,cY]];exact afS ⟨eE,(by grind[aJ]),(by grind[aJ]),(bL Cell.e dC),h1,U,aA,(by rw[aI];rfl),a',(by grind[aJ]),ad⟩
    skip
    rw[show fj op ep key (m,f) a=(a.val,true) from by grind[fj,cY]];exact afQ ⟨eE,(by grind[aJ]),(by grind[aJ]),(bL Cell.e dC),h1,U,aA,(by rw[aI];rfl),(by grind[aJ]),ad⟩
   skip
   rw[show fj op ep key (m,f) a=(m,f) from by grind[fj,cY]];exact afT ⟨eE,(by grind[aJ]),(by grind[aJ]),(bL Cell.e dC),h1,U,aA,(by grind[aJ]),ad⟩
  skip
  rw[show fj op ep key (m,f) a=(m,f) from by grind[fj,cY]];exact afU ⟨eE,(by grind[aJ]),(by grind[aJ]),(bL Cell.e dC),h1,U,(by grind[aJ]),ad⟩
 skip
 rw[show fj op ep key (m,f) a=(m,f) from by grind[fj,cY]];exact afV ⟨eE,(by grind[aJ]),(by grind[aJ]),(bL Cell.e dC),h1,(by grind[aJ]),ad⟩
theorem ai8(xs:List Cell)(aj:xs.length<=8388608)(op ep key m:Int)(f:Bool)(i:Nat)(a:Cell)(ae:xs[i]?=some a):gi prog (ap f344 0) (pN (xs.map Cell.e) op ep key i f m) .normal (pN (xs.map Cell.e) op ep key ((i+1:Nat):Int) (fj op ep key (m,f) a).2 (fj op ep key (m,f) a).1):=by
 have a8:=a6 ae;have dC:xs[(i:Int).toNat]?=some a:=by grind
 have eE:decide ((i:Int)<(↑(xs.map Cell.e).length:Int))=true:=bT a8;have c1:=V5 a (⟨op,ep,key,0⟩:Cell);rcases cR (cY a (⟨op,ep,key,0⟩:Cell)) with U | U
 ·skip
  rcases cR (f) with aA | aA
  ·skip
   rcases cR (decide (a.val<m)) with aI | aI
   ·skip
    rw[show fj op ep key (m,f) a=(a.val,true) from by grind[fj,cY]];exact aAs ⟨eE,(by grind[aJ]),(by grind[aJ]),(bL Cell.e dC),c1,U,(by rw[aA];rfl),aI,(by grind[aJ]),ad⟩
   skip
   rw[show fj op ep key (m,f) a=(m,f) from by grind[fj,cY]];exact aAt ⟨eE,(by grind[aJ]),(by grind[aJ]),(bL Cell.e dC),c1,U,(by rw[aA];rfl),aI,(by grind[aJ]),ad⟩
  skip
  rw[show fj op ep key (m,f) a=(a.val,true) from by grind[fj,cY]];exact aAr ⟨eE,(by grind[aJ]),(by grind[aJ]),(bL Cell.e dC),c1,U,(by rw[aA];rfl),(by grind[aJ]),ad⟩
 skip
 rw[show fj op ep key (m,f) a=(m,f) from by grind[fj,cY]];exact aAu ⟨eE,(by grind[aJ]),(by grind[aJ]),(bL Cell.e dC),c1,U,(by grind[aJ]),ad⟩
theorem V6(xs:List Cell)(op ep key:Int)(aj:xs.length<=8388608):av 324 [.one (.J 4 (xs.map Cell.e)),.one (I op),.one (I ep),.one (I key)] [.one (I (oT xs op ep key).1),.one (B (oT xs op ep key).2)]:=by
 have l:=dO (P:=prog) (c:=(ap f324 0)) (ci 0) xs.length (fun i:Nat=>mK (xs.map Cell.e) op ep key i (lA (fj op ep key) (0,false) xs i).2 (lA (fj op ep key) (0,false) xs i).1) (fun i hi=>by
  obtain⟨a,ae⟩:=cV hi;grind[G8,ai7]) (afW ⟨dq,ad⟩)
 rw[G9]at l;exact afX ⟨l,ad⟩
theorem ai9(xs:List Cell)(op ep key:Int)(aj:xs.length<=8388608):av 344 [.one (.J 4 (xs.map Cell.e)),.one (I op),.one (I ep),.one (I key)] [.one (I (oT xs op ep key).1),.one (B (oT xs op ep key).2)]:=by
 have l:=dO (P:=prog) (c:=(ap f344 0)) (ci 0) xs.length (fun i:Nat=>pN (xs.map Cell.e) op ep key i (lA (fj op ep key) (0,false) xs i).2 (lA (fj op ep key) (0,false) xs i).1) (fun i hi=>by
  obtain⟨a,ae⟩:=cV hi;grind[G8,ai8]) (aAv ⟨dq,ad⟩)
 rw[G9]at l;exact aAw ⟨l,ad⟩
