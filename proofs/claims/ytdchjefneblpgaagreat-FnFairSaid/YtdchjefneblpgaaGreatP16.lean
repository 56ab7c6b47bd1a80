import Derived.Test.YtdchjefneblpgaaGreatP15
set_option linter.unusedVariables false
set_option linter.unusedSimpArgs false
namespace Go.Proofs.YtdchjefneblpgaaGreat
open Go.Sx Go.RowKit Go.Proofs.Tryz
def iQ(g:bV)(k:Int):Int:=match g.nodes[k.toNat]? with | some y=>y.kind | none=>0
def gN(g:bV)(i:Nat)(x:Node)(k:Int):Bool:=
 decide ((g.nodes.length:Int)<=k)||(if x.kind=7 then decide ((i:Int)<k)||(iQ g k != 5&&iQ g k != 6) else decide (k<=i))
def jD(g:bV)(i:Nat)(x:Node):Bool:=!aQ x||(decide (x.kind=1) != decide ((i:Int)=0))||x.outs.any (gN g i x)
def eh(g:bV):Bool:=av g.nodes.length 1 8&&av g.ar 1 4&&av g.cap 1 4&&!(anyI (jD g) 0 g.nodes)
def cI(x:Node)(k v:Int):Int×Int×Bool:=
 if aQ x&&fy k v then
  if x.kind=2 then (k,less (v+x.a) 999,true)
  else if x.kind=4 then ((k+x.a).tmod 100,v,true)
  else if x.kind=3 then (k,v,k.tmod x.a==x.b)
  else (k,v,x.kind != 8)
 else (k,v,false)
theorem Np{l:List Int}(h:oo l=true){k:Int}(hk:k∈l):av k 0 7=true:=by
 grind[oo,hb,ft]
theorem VO(g:bV)(ax:g.sz<=8388608)(i:Nat)(hi:i<8)(x:Node)(af:g.nodes[i]?=some x)(bW:aQ x=true)(j:Nat)(k:Int)(hk:x.outs[j]?=some k)(r:Bool)(aD:gN g i x k=r):fX prog (ap f121 1) (iO i (g.nodes.map Node.e) g.ar g.cap x.kind x.a x.b (x.outs.map bc) (j:Int)) (bif r then .ret else .normal) (bif r then sU false else iO i (g.nodes.map Node.e) g.ar g.cap x.kind x.a x.b (x.outs.map bc) ((j+1:Nat):Int)):=by
 have bk:=a1 hk;have al:x.outs.length<=2:=by grind[aQ]
 have og:av k 0 7=true:=Np (by grind[aQ]) (c9 hk);have dF:x.outs[(j:Int).toNat]?=some k:=by grind
 have eE:decide ((j:Int)<(↑(x.outs.map bc).length:Int))=true:=b5 bk;rcases cR (decide (k>=(↑(g.nodes.map Node.e).length:Int))) with h1 | h1
 ·skip
  obtain rfl:r=true:=by grind[gN,iQ,av]
  exact ahs ⟨eE,(by grind),(by grind),(bQ bc dF),h1,aa⟩
 skip
 rcases cR (x.kind != 7) with U | U
 ·skip
  rcases cR (decide (k<=(i:Int))) with aA | aA
  ·skip
   obtain rfl:r=true:=by grind[gN,iQ,av]
   exact aht ⟨eE,(by grind),(by grind),(bQ bc dF),h1,U,aA,aa⟩
  skip
  obtain⟨abf,BW⟩:=look (xs:=g.nodes) (i:=k) (by grind) (by grind);rcases cR (x.kind==7) with a' | a'
  ·skip
   rcases cR (decide (k>(i:Int))) with bu | bu
   ·skip
    obtain rfl:r=true:=by rw[<-aD];grind[gN,iQ,av]
    exact aiV ⟨eE,(by grind[av,aL,aQ]),(by grind[av,aL,aQ]),(bQ bc dF),h1,U,aA,(by grind[av,aL,aQ]),(by grind[av,aL,aQ]),(bQ Node.e BW),a',bu,aa⟩
   skip
   rcases cR (abf.kind != 5) with b1 | b1
   ·skip
    rcases cR (abf.kind != 6) with dy | dy
    ·skip
     obtain rfl:r=true:=by rw[<-aD];grind[gN,iQ,av]
     exact aiW ⟨eE,(by grind[av,aL,aQ]),(by grind[av,aL,aQ]),(bQ bc dF),h1,U,aA,(by grind[av,aL,aQ]),(by grind[av,aL,aQ]),(bQ Node.e BW),a',bu,b1,dy,aa⟩
    skip
    obtain rfl:r=false:=by rw[<-aD];grind[gN,iQ,av]
    exact aiX ⟨eE,(by grind[av,aL,aQ]),(by grind[av,aL,aQ]),(bQ bc dF),h1,U,aA,(by grind[av,aL,aQ]),(by grind[av,aL,aQ]),(bQ Node.e BW),a',bu,b1,dy,(by grind[av,aL,aQ]),aa⟩
   skip
   obtain rfl:r=false:=by rw[<-aD];grind[gN,iQ,av]
   exact aiY ⟨eE,(by grind[av,aL,aQ]),(by grind[av,aL,aQ]),(bQ bc dF),h1,U,aA,(by grind[av,aL,aQ]),(by grind[av,aL,aQ]),(bQ Node.e BW),a',bu,b1,(by grind[av,aL,aQ]),aa⟩
  skip
  obtain rfl:r=false:=by grind[gN,iQ,av]
  exact aiZ ⟨eE,(by grind),(by grind),(bQ bc dF),h1,U,aA,(by grind),(by grind),(bQ Node.e BW),a',(by grind[av,aL,aQ]),aa⟩
 skip
 obtain⟨IK,tO⟩:=look (xs:=g.nodes) (i:=k) (by grind[av,aL,aQ]) (by grind);rcases cR (x.kind==7) with dX | dX
 ·skip
  rcases cR (decide (k>(i:Int))) with iH | iH
  ·skip
   obtain rfl:r=true:=by grind[gN,iQ,av]
   exact ai0 ⟨eE,(by grind),(by grind),(bQ bc dF),h1,U,(by grind),(by grind),(bQ Node.e tO),dX,iH,aa⟩
  skip
  rcases cR (IK.kind != 5) with iW | iW
  ·skip
   rcases cR (IK.kind != 6) with uX | uX
   ·skip
    obtain rfl:r=true:=by grind[gN,iQ,av]
    exact ai1 ⟨eE,(by grind),(by grind),(bQ bc dF),h1,U,(by grind[av,aL,aQ]),(by grind),(bQ Node.e tO),dX,iH,iW,uX,aa⟩
   skip
   obtain rfl:r=false:=by grind[gN,iQ,av]
   exact ai2 ⟨eE,(by grind),(by grind),(bQ bc dF),h1,U,(by grind[av,aL,aQ]),(by grind),(bQ Node.e tO),dX,iH,iW,uX,(by grind[av,aL,aQ]),aa⟩
  skip
  obtain rfl:r=false:=by grind[gN,iQ,av]
  exact ai3 ⟨eE,(by grind),(by grind),(bQ bc dF),h1,U,(by grind[av,aL,aQ]),(by grind),(bQ Node.e tO),dX,iH,iW,(by grind[av,aL,aQ]),aa⟩
 skip
 obtain rfl:r=false:=by rw[<-aD];grind[gN,iQ,av]
 exact ai4 ⟨eE,(by grind[av,aL,aQ]),(by grind[av,aL,aQ]),(bQ bc dF),h1,U,(by grind[av,aL,aQ]),(by grind[av,aL,aQ]),(bQ Node.e tO),dX,(by grind[av,aL,aQ]),aa⟩
theorem Vf(g:bV)(ax:g.sz<=8388608)(i:Nat)(hi:i<8)(x:Node)(af:g.nodes[i]?=some x)(bW:aQ x=true)(j:Nat)(k:Int)(hk:x.outs[j]?=some k)(r:Bool)(aD:gN g i x k=r):fX prog (ap f179 1) (iP (g.nodes.map Node.e) i (g.nodes.map Node.e) g.ar g.cap x.kind x.a x.b (x.outs.map bc) (j:Int)) (bif r then .ret else .normal) (bif r then sV false else iP (g.nodes.map Node.e) i (g.nodes.map Node.e) g.ar g.cap x.kind x.a x.b (x.outs.map bc) ((j+1:Nat):Int)):=by
 have bk:=a1 hk;have al:x.outs.length<=2:=by grind[aQ]
 have og:av k 0 7=true:=Np (by grind[aQ]) (c9 hk);have dF:x.outs[(j:Int).toNat]?=some k:=by grind
 have eE:decide ((j:Int)<(↑(x.outs.map bc).length:Int))=true:=b5 bk;rcases cR (decide (k>=(↑(g.nodes.map Node.e).length:Int))) with h1 | h1
 ·skip
  obtain rfl:r=true:=by grind[gN,iQ,av]
  exact ajg ⟨eE,(by grind),(by grind),(bQ bc dF),h1,aa⟩
 skip
 obtain⟨eV,lu⟩:=look (xs:=g.nodes) (i:=k) (by grind[av,aL,aQ]) (by grind);rcases cR (x.kind==7) with aA | aA
 ·skip
  rcases cR (decide (k>(i:Int))) with aJ | aJ
  ·skip
   obtain rfl:r=true:=by grind[gN,iQ,av]
   exact ajh ⟨eE,(by grind),(by grind),(bQ bc dF),h1,(by grind),(by grind),(bQ Node.e lu),aA,aJ,aa⟩
  skip
  rcases cR (eV.kind != 5) with a' | a'
  ·skip
   rcases cR (eV.kind != 6) with bu | bu
   ·skip
    obtain rfl:r=true:=by grind[gN,iQ,av]
    exact aji ⟨eE,(by grind),(by grind),(bQ bc dF),h1,(by grind[av,aL,aQ]),(by grind),(bQ Node.e lu),aA,aJ,a',bu,aa⟩
   skip
   rcases cR (x.kind != 7) with b1 | b1
   ·skip
    rcases cR (decide (k<=(i:Int))) with dy | dy
    ·skip
     obtain rfl:r=true:=by rw[<-aD];grind[gN,iQ,av]
     exact ajj ⟨eE,(by grind[av,aL,aQ]),(by grind[av,aL,aQ]),(bQ bc dF),h1,(by grind[av,aL,aQ]),(by grind[av,aL,aQ]),(bQ Node.e lu),aA,aJ,a',bu,b1,dy,aa⟩
    skip
    obtain rfl:r=false:=by rw[<-aD];grind[gN,iQ,av]
    exact ajk ⟨eE,(by grind[av,aL,aQ]),(by grind[av,aL,aQ]),(bQ bc dF),h1,(by grind[av,aL,aQ]),(by grind[av,aL,aQ]),(bQ Node.e lu),aA,aJ,a',bu,b1,dy,(by grind[av,aL,aQ]),aa⟩
   skip
   obtain rfl:r=false:=by grind[gN,iQ,av]
   exact aiv ⟨eE,(by grind),(by grind),(bQ bc dF),h1,(by grind[av,aL,aQ]),(by grind),(bQ Node.e lu),aA,aJ,a',bu,b1,(by grind[av,aL,aQ]),aa⟩
  skip
  rcases cR (x.kind != 7) with eu | eu
  ·skip
   rcases cR (decide (k<=(i:Int))) with dX | dX
   ·skip
    obtain rfl:r=true:=by rw[<-aD];grind[gN,iQ,av]
    exact aiw ⟨eE,(by grind[av,aL,aQ]),(by grind[av,aL,aQ]),(bQ bc dF),h1,(by grind[av,aL,aQ]),(by grind[av,aL,aQ]),(bQ Node.e lu),aA,aJ,a',eu,dX,aa⟩
   skip
   obtain rfl:r=false:=by rw[<-aD];grind[gN,iQ,av]
   exact aix ⟨eE,(by grind[av,aL,aQ]),(by grind[av,aL,aQ]),(bQ bc dF),h1,(by grind[av,aL,aQ]),(by grind[av,aL,aQ]),(bQ Node.e lu),aA,aJ,a',eu,dX,(by grind[av,aL,aQ]),aa⟩
  skip
  obtain rfl:r=false:=by grind[gN,iQ,av]
  exact aiy ⟨eE,(by grind),(by grind),(bQ bc dF),h1,(by grind[av,aL,aQ]),(by grind),(bQ Node.e lu),aA,aJ,a',eu,(by grind[av,aL,aQ]),aa⟩
 skip
 rcases cR (x.kind != 7) with iH | iH
 ·skip
  rcases cR (decide (k<=(i:Int))) with iW | iW
  ·skip
   obtain rfl:r=true:=by grind[gN,iQ,av]
   exact aiz ⟨eE,(by grind),(by grind),(bQ bc dF),h1,(by grind[av,aL,aQ]),(by grind),(bQ Node.e lu),aA,iH,iW,aa⟩
  skip
  obtain rfl:r=false:=by grind[gN,iQ,av]
  exact aiA ⟨eE,(by grind),(by grind),(bQ bc dF),h1,(by grind),(by grind),(bQ Node.e lu),aA,iH,iW,(by grind[av,aL,aQ]),aa⟩
 skip
 obtain rfl:r=false:=by rw[<-aD];grind[gN,iQ,av]
 exact aiB ⟨eE,(by grind[av,aL,aQ]),(by grind[av,aL,aQ]),(bQ bc dF),h1,(by grind[av,aL,aQ]),(by grind[av,aL,aQ]),(bQ Node.e lu),aA,iH,(by grind[av,aL,aQ]),aa⟩
theorem alI(g:bV)(ax:g.sz<=8388608)(i:Nat)(hi:i<8)(x:Node)(af:g.nodes[i]?=some x)(bW:aQ x=true):
  (x.outs.any (gN g i x)=true/\c8 prog (ap f121 1) (iO i (g.nodes.map Node.e) g.ar g.cap x.kind x.a x.b (x.outs.map bc) 0) .ret (sU false))\/(x.outs.any (gN g i x)=false/\c8 prog (ap f121 1) (iO i (g.nodes.map Node.e) g.ar g.cap x.kind x.a x.b (x.outs.map bc) 0) (.exit 2) (Nh i (g.nodes.map Node.e) g.ar g.cap)):=by
 have l:=gv (P:=prog) (c:=(ap f121 1)) x.outs (gN g i x) (fun j=>iO i (g.nodes.map Node.e) g.ar g.cap x.kind x.a x.b (x.outs.map bc) j) (X:=fun _ _=>sU false) e5 (cn 2)
  (fun j k hk h=>VO g ax i hi x af bW j k hk false h)
  (fun j k hk h=>VO g ax i hi x af bW j k hk true h)
  (ai5 ⟨dw,aa⟩)
 grind
theorem alJ(g:bV)(ax:g.sz<=8388608)(i:Nat)(hi:i<8)(x:Node)(af:g.nodes[i]?=some x)(bW:aQ x=true):
  (x.outs.any (gN g i x)=true/\c8 prog (ap f179 1) (iP (g.nodes.map Node.e) i (g.nodes.map Node.e) g.ar g.cap x.kind x.a x.b (x.outs.map bc) 0) .ret (sV false))\/(x.outs.any (gN g i x)=false/\c8 prog (ap f179 1) (iP (g.nodes.map Node.e) i (g.nodes.map Node.e) g.ar g.cap x.kind x.a x.b (x.outs.map bc) 0) (.exit 2) (Nj (g.nodes.map Node.e) i (g.nodes.map Node.e) g.ar g.cap)):=by
 have l:=gv (P:=prog) (c:=(ap f179 1)) x.outs (gN g i x) (fun j=>iP (g.nodes.map Node.e) i (g.nodes.map Node.e) g.ar g.cap x.kind x.a x.b (x.outs.map bc) j) (X:=fun _ _=>sV false) e5 (cn 2)
  (fun j k hk h=>Vf g ax i hi x af bW j k hk false h)
  (fun j k hk h=>Vf g ax i hi x af bW j k hk true h)
  (aiC ⟨dw,aa⟩)
 grind
theorem Vg(g:bV)(ax:g.sz<=8388608)(i:Nat)(hi:i<8)(x:Node)(af:g.nodes[i]?=some x)(r:Bool)(aD:jD g i x=r):fX prog (ap f121 0) (pv ((i:Nat):Int) (g.nodes.map Node.e) g.ar g.cap) (bif r then .ret else .normal) (bif r then yb false else pv ((i+1:Nat):Int) (g.nodes.map Node.e) g.ar g.cap):=by
 have bk:=a1 af;have a7:=bV.Cd ax (c9 af);have dF:g.nodes[(i:Int).toNat]?=some x:=by grind
 have eE:decide ((i:Int)<(↑(g.nodes.map Node.e).length:Int))=true:=b5 bk;have c1:=VM x (by grind);rcases cR (aQ x) with U | U
 ·skip
  rcases cR ((x.kind==1)==((i:Int)==0)) with aA | aA
  ·skip
   rcases alI g ax i hi x af (by grind) with⟨cH,l⟩ | ⟨cH,l⟩
   ·skip
    obtain rfl:r=true:=by grind[jD]
    exact ai6 ⟨eE,(by grind),(by grind),(bQ Node.e dF),c1,(by rw[U];rfl),(by rw[aA];rfl),l,aa⟩
   skip
   obtain rfl:r=false:=by grind[jD]
   exact ai7 ⟨eE,(by grind),(by grind),(bQ Node.e dF),c1,(by rw[U];rfl),(by rw[aA];rfl),l,(by grind[av,aL,aQ]),aa⟩
  skip
  obtain rfl:r=true:=by grind[jD]
  exact ahr ⟨eE,(by grind),(by grind),(bQ Node.e dF),c1,(by rw[U];rfl),(by rw[aA];rfl),aa⟩
 skip
 obtain rfl:r=true:=by grind[jD]
 exact ahq ⟨eE,(by grind),(by grind),(bQ Node.e dF),c1,(by rw[U];rfl),aa⟩
theorem Vh(g:bV)(ax:g.sz<=8388608)(i:Nat)(hi:i<8)(x:Node)(af:g.nodes[i]?=some x)(r:Bool)(aD:jD g i x=r):fX prog (ap f179 0) (pw (g.nodes.map Node.e) ((i:Nat):Int) (g.nodes.map Node.e) g.ar g.cap) (bif r then .ret else .normal) (bif r then yc false else pw (g.nodes.map Node.e) ((i+1:Nat):Int) (g.nodes.map Node.e) g.ar g.cap):=by
 have bk:=a1 af;have a7:=bV.Cd ax (c9 af);have dF:g.nodes[(i:Int).toNat]?=some x:=by grind
 have eE:decide ((i:Int)<(↑(g.nodes.map Node.e).length:Int))=true:=b5 bk;have c1:=VN x (by grind);rcases cR (aQ x) with U | U
 ·skip
  rcases cR ((x.kind==1)==((i:Int)==0)) with aA | aA
  ·skip
   rcases alJ g ax i hi x af (by grind) with⟨cH,l⟩ | ⟨cH,l⟩
   ·skip
    obtain rfl:r=true:=by grind[jD]
    exact aiD ⟨eE,(by grind),(by grind),(bQ Node.e dF),c1,(by rw[U];rfl),(by rw[aA];rfl),l,aa⟩
   skip
   obtain rfl:r=false:=by grind[jD]
   exact aiE ⟨eE,(by grind),(by grind),(bQ Node.e dF),c1,(by rw[U];rfl),(by rw[aA];rfl),l,(by grind[av,aL,aQ]),aa⟩
  skip
  obtain rfl:r=true:=by grind[jD]
  exact ajf ⟨eE,(by grind),(by grind),(bQ Node.e dF),c1,(by rw[U];rfl),(by rw[aA];rfl),aa⟩
 skip
 obtain rfl:r=true:=by grind[jD]
 exact aje ⟨eE,(by grind),(by grind),(bQ Node.e dF),c1,(by rw[U];rfl),aa⟩
theorem alK(g:bV)(ax:g.sz<=8388608)(dy:g.nodes.length<=8):
  (anyI (jD g) 0 g.nodes=true/\c8 prog (ap f121 0) (pv 0 (g.nodes.map Node.e) g.ar g.cap) .ret (yb false))\/(anyI (jD g) 0 g.nodes=false/\c8 prog (ap f121 0) (pv 0 (g.nodes.map Node.e) g.ar g.cap) (.exit 0) Ni):=by
 have l:=vJ (P:=prog) (c:=(ap f121 0)) g.nodes (jD g) (fun i=>pv (i:Nat) (g.nodes.map Node.e) g.ar g.cap) (X:=yb false) e5 (cn 0)
  (fun i x af h=>Vg g ax i (by grind) x af false h)
  (fun i x af h=>Vg g ax i (by grind) x af true h)
  (ai8 ⟨dw,aa⟩)
 grind
theorem alL(g:bV)(ax:g.sz<=8388608)(dy:g.nodes.length<=8):
  (anyI (jD g) 0 g.nodes=true/\c8 prog (ap f179 0) (pw (g.nodes.map Node.e) 0 (g.nodes.map Node.e) g.ar g.cap) .ret (yc false))\/(anyI (jD g) 0 g.nodes=false/\c8 prog (ap f179 0) (pw (g.nodes.map Node.e) 0 (g.nodes.map Node.e) g.ar g.cap) (.exit 0) Nk):=by
 have l:=vJ (P:=prog) (c:=(ap f179 0)) g.nodes (jD g) (fun i=>pw (g.nodes.map Node.e) (i:Nat) (g.nodes.map Node.e) g.ar g.cap) (X:=yc false) e5 (cn 0)
  (fun i x af h=>Vh g ax i (by grind) x af false h)
  (fun i x af h=>Vh g ax i (by grind) x af true h)
  (aiF ⟨dw,aa⟩)
 grind
theorem Az(g:bV)(ax:g.sz<=8388608):aq 121 [.agg g.e] [.one (B (eh g))]:=by
 have c1:=je (↑(g.nodes.map Node.e).length:Int) 1 8;rcases cR (av (↑(g.nodes.map Node.e).length:Int) 1 8) with U | U
 ·skip
  have cN:=je g.ar 1 4;rcases cR (av g.ar 1 4) with aJ | aJ
  ·skip
   have gT:=je g.cap 1 4;rcases cR (av g.cap 1 4) with bu | bu
   ·skip
    rcases alK g ax (by grind[av]) with⟨cH,l⟩ | ⟨cH,l⟩
    ·skip
     rw[show eh g=false from by grind[eh]];exact ai9 ⟨c1,(by rw[U];rfl),cN,(by rw[aJ];rfl),gT,(by rw[bu];rfl),l,aa⟩
    skip
    rw[show eh g=true from by grind[eh]];exact aja ⟨c1,(by rw[U];rfl),cN,(by rw[aJ];rfl),gT,(by rw[bu];rfl),l,aa⟩
   skip
   rw[show eh g=false from by grind[eh]];exact ahp ⟨c1,(by rw[U];rfl),cN,(by rw[aJ];rfl),gT,(by rw[bu];rfl),aa⟩
  skip
  rw[show eh g=false from by grind[eh]];exact aho ⟨c1,(by rw[U];rfl),cN,(by rw[aJ];rfl),aa⟩
 skip
 rw[show eh g=false from by grind[eh]];exact ahn ⟨c1,(by rw[U];rfl),aa⟩
theorem AA(g:bV)(ax:g.sz<=8388608):aq 179 [.agg g.e] [.one (B (eh g))]:=by
 have c1:=lB (↑(g.nodes.map Node.e).length:Int) 1 8;rcases cR (av (↑(g.nodes.map Node.e).length:Int) 1 8) with U | U
 ·skip
  have cN:=lB g.ar 1 4;rcases cR (av g.ar 1 4) with aJ | aJ
  ·skip
   have gT:=lB g.cap 1 4;rcases cR (av g.cap 1 4) with bu | bu
   ·skip
    rcases alL g ax (by grind[av]) with⟨cH,l⟩ | ⟨cH,l⟩
    ·skip
     rw[show eh g=false from by grind[eh]];exact aiG ⟨c1,(by rw[U];rfl),cN,(by rw[aJ];rfl),gT,(by rw[bu];rfl),l,aa⟩
    skip
    rw[show eh g=true from by grind[eh]];exact aiH ⟨c1,(by rw[U];rfl),cN,(by rw[aJ];rfl),gT,(by rw[bu];rfl),l,aa⟩
   skip
   rw[show eh g=false from by grind[eh]];exact ajd ⟨c1,(by rw[U];rfl),cN,(by rw[aJ];rfl),gT,(by rw[bu];rfl),aa⟩
  skip
  rw[show eh g=false from by grind[eh]];exact ajc ⟨c1,(by rw[U];rfl),cN,(by rw[aJ];rfl),aa⟩
 skip
 rw[show eh g=false from by grind[eh]];exact ajb ⟨c1,(by rw[U];rfl),aa⟩
theorem alM(x:Node)(k v:Int)(af:x.outs.length<=8388608):aq 267 [.agg x.e,.one (I k),.one (I v)] [.one (I ((cI x k v).1)),.one (I ((cI x k v).2.1)),.one (B ((cI x k v).2.2))]:=by
 have c1:=VM x (by grind);rcases cR (aQ x) with U | U
 ·skip
  have cN:=je k 0 99;rcases cR (av k 0 99) with aJ | aJ
  ·skip
   have gT:=je v 0 999;rcases cR (av v 0 999) with bu | bu
   ·skip
    rcases cR (x.kind==2) with b1 | b1
    ·skip
     have nr:=alH (v+x.a) 999;rw[show cI x k v=(k,less (v+x.a) 999,true) from by grind[cI,fy,less,aQ,bU]];exact ais ⟨c1,(by rw[U];rfl),cN,(by rw[aJ];rfl),gT,(by rw[bu];rfl),b1,(by grind[aQ,bU,av,aL,fy]),nr,aa⟩
    skip
    rcases cR (x.kind==4) with eu | eu
    ·skip
     rw[show cI x k v=((k+x.a).tmod 100,v,true) from by grind[cI,fy,less,aQ,bU]];exact ait ⟨c1,(by rw[U];rfl),cN,(by rw[aJ];rfl),gT,(by rw[bu];rfl),b1,eu,(by grind[aQ,bU,av,aL,fy]),(by grind),aa⟩
    skip
    rcases cR (x.kind==3) with dX | dX
    ·skip
     rw[show cI x k v=(k,v,k.tmod x.a==x.b) from by grind[cI,fy,less,aQ,bU]];exact aiu ⟨c1,(by rw[U];rfl),cN,(by rw[aJ];rfl),gT,(by rw[bu];rfl),b1,eu,dX,(by grind[aQ,bU,av,aL,fy]),aa⟩
    skip
    rw[show cI x k v=(k,v,x.kind != 8) from by grind[cI,fy,less,aQ,bU]];exact ajV ⟨c1,(by rw[U];rfl),cN,(by rw[aJ];rfl),gT,(by rw[bu];rfl),b1,eu,dX,aa⟩
   skip
   rw[show cI x k v=(k,v,false) from by grind[cI,fy,less,aQ,bU]];exact air ⟨c1,(by rw[U];rfl),cN,(by rw[aJ];rfl),gT,(by rw[bu];rfl),aa⟩
  skip
  rw[show cI x k v=(k,v,false) from by grind[cI,fy,less,aQ,bU]];exact aiq ⟨c1,(by rw[U];rfl),cN,(by rw[aJ];rfl),aa⟩
 skip
 rw[show cI x k v=(k,v,false) from by grind[cI,fy,less,aQ,bU]];exact aip ⟨c1,(by rw[U];rfl),aa⟩
theorem alN(x:Node)(k v:Int)(af:x.outs.length<=8388608):aq 298 [.agg x.e,.one (I k),.one (I v)] [.one (I ((cI x k v).1)),.one (I ((cI x k v).2.1)),.one (B ((cI x k v).2.2))]:=by
 have c1:=VN x (by grind);rcases cR (aQ x) with U | U
 ·skip
  have cN:=VL k v;rcases cR (fy k v) with aJ | aJ
  ·skip
   rcases cR (x.kind==2) with a' | a'
   ·skip
    rw[show cI x k v=(k,if v+x.a<999 then v+x.a else 999,true) from by grind[cI,fy,less,aQ,bU]];exact ajY ⟨c1,(by rw[U];rfl),cN,(by rw[aJ];rfl),a',(by grind[aQ,bU,av,aL,fy]),aa⟩
   skip
   rcases cR (x.kind==4) with bu | bu
   ·skip
    rw[show cI x k v=((k+x.a).tmod 100,v,true) from by grind[cI,fy,less,aQ,bU]];exact ajZ ⟨c1,(by rw[U];rfl),cN,(by rw[aJ];rfl),a',bu,(by grind[aQ,bU,av,aL,fy]),(by grind),aa⟩
   skip
   rcases cR (x.kind==3) with b1 | b1
   ·skip
    rw[show cI x k v=(k,v,k.tmod x.a==x.b) from by grind[cI,fy,less,aQ,bU]];exact aj0 ⟨c1,(by rw[U];rfl),cN,(by rw[aJ];rfl),a',bu,b1,(by grind[aQ,bU,av,aL,fy]),aa⟩
   skip
   rw[show cI x k v=(k,v,x.kind != 8) from by grind[cI,fy,less,aQ,bU]];exact aj1 ⟨c1,(by rw[U];rfl),cN,(by rw[aJ];rfl),a',bu,b1,aa⟩
  skip
  rw[show cI x k v=(k,v,false) from by grind[cI,fy,less,aQ,bU]];exact ajX ⟨c1,(by rw[U];rfl),cN,(by rw[aJ];rfl),aa⟩
 skip
 rw[show cI x k v=(k,v,false) from by grind[cI,fy,less,aQ,bU]];exact ajW ⟨c1,(by rw[U];rfl),aa⟩
def eT(a b:Cell):Bool:=a.op==b.op&&a.a8==b.a8&&a.key==b.key
def fp(op ep key:Int)(s:Int×Bool)(a:Cell):Int×Bool:=if a.op=op/\a.a8=ep/\a.key=key/\(s.2=false\/a.val<s.1) then (a.val,true) else s
def px(xs:List Cell)(op ep key:Int):Int×Bool:=xs.foldl (fp op ep key) (0,false)
theorem Vi(a b:Cell):aq 347 [.agg a.e,.agg b.e] [.one (B (eT a b))]:=by
 rcases cR (a.op==b.op) with h1 | h1
 ·skip
  rcases cR (a.a8==b.a8) with U | U
  ·skip
   rw[show eT a b=(a.key==b.key) from by grind[eT]];exact azD ⟨h1,U,aa⟩
  skip
  rw[show eT a b=false from by grind[eT]];exact azE ⟨h1,U,aa⟩
 skip
 rw[show eT a b=false from by grind[eT]];exact azF ⟨h1,aa⟩
theorem alO(xs:List Cell)(al:xs.length<=8388608)(op ep key m:Int)(f:Bool)(i:Nat)(a:Cell)(ai:xs[i]?=some a):fX prog (ap f324 0) (mz (xs.map Cell.e) op ep key i f m) .normal (mz (xs.map Cell.e) op ep key ((i+1:Nat):Int) (fp op ep key (m,f) a).2 (fp op ep key (m,f) a).1):=by
 have bk:=a1 ai;have dF:xs[(i:Int).toNat]?=some a:=by grind
 have eE:decide ((i:Int)<(↑(xs.map Cell.e).length:Int))=true:=b5 bk;rcases cR (a.op==op) with h1 | h1
 ·skip
  rcases cR (a.a8==ep) with U | U
  ·skip
   rcases cR (a.key==key) with aA | aA
   ·skip
    rcases cR (f) with aJ | aJ
    ·skip
     rcases cR (decide (a.val<m)) with a' | a'
     ·skip
      rw[show fp op ep key (m,f) a=(a.val,true) from by grind[fp,eT]];exact aA7 ⟨eE,(by grind[aL]),(by grind[aL]),(bQ Cell.e dF),h1,U,aA,(by rw[aJ];rfl),a',(by grind[aL]),aa⟩
     skip
     rw[show fp op ep key (m,f) a=(m,f) from by grind[fp,eT]];exact aA8 ⟨eE,(by grind[aL]),(by grind[aL]),(bQ Cell.e dF),h1,U,aA,(by rw[aJ];rfl),a',(by grind[aL]),aa⟩
    skip
    rw[show fp op ep key (m,f) a=(a.val,true) from by grind[fp,eT]];exact aA6 ⟨eE,(by grind[aL]),(by grind[aL]),(bQ Cell.e dF),h1,U,aA,(by rw[aJ];rfl),(by grind[aL]),aa⟩
   skip
   rw[show fp op ep key (m,f) a=(m,f) from by grind[fp,eT]];exact aA9 ⟨eE,(by grind[aL]),(by grind[aL]),(bQ Cell.e dF),h1,U,aA,(by grind[aL]),aa⟩
  skip
  rw[show fp op ep key (m,f) a=(m,f) from by grind[fp,eT]];exact aBa ⟨eE,(by grind[aL]),(by grind[aL]),(bQ Cell.e dF),h1,U,(by grind[aL]),aa⟩
 skip
 rw[show fp op ep key (m,f) a=(m,f) from by grind[fp,eT]];exact aBb ⟨eE,(by grind[aL]),(by grind[aL]),(bQ Cell.e dF),h1,(by grind[aL]),aa⟩
theorem alP(xs:List Cell)(al:xs.length<=8388608)(op ep key m:Int)(f:Bool)(i:Nat)(a:Cell)(ai:xs[i]?=some a):fX prog (ap f344 0) (pu (xs.map Cell.e) op ep key i f m) .normal (pu (xs.map Cell.e) op ep key ((i+1:Nat):Int) (fp op ep key (m,f) a).2 (fp op ep key (m,f) a).1):=by
 have bk:=a1 ai;have dF:xs[(i:Int).toNat]?=some a:=by grind
 have eE:decide ((i:Int)<(↑(xs.map Cell.e).length:Int))=true:=b5 bk;have c1:=Vi a (⟨op,ep,key,0⟩:Cell);rcases cR (eT a (⟨op,ep,key,0⟩:Cell)) with U | U
 ·skip
  rcases cR (f) with aA | aA
  ·skip
   rcases cR (decide (a.val<m)) with aJ | aJ
   ·skip
    rw[show fp op ep key (m,f) a=(a.val,true) from by grind[fp,eT]];exact azN ⟨eE,(by grind[aL]),(by grind[aL]),(bQ Cell.e dF),c1,U,(by rw[aA];rfl),aJ,(by grind[aL]),aa⟩
   skip
   rw[show fp op ep key (m,f) a=(m,f) from by grind[fp,eT]];exact azO ⟨eE,(by grind[aL]),(by grind[aL]),(bQ Cell.e dF),c1,U,(by rw[aA];rfl),aJ,(by grind[aL]),aa⟩
  skip
  rw[show fp op ep key (m,f) a=(a.val,true) from by grind[fp,eT]];exact azM ⟨eE,(by grind[aL]),(by grind[aL]),(bQ Cell.e dF),c1,U,(by rw[aA];rfl),(by grind[aL]),aa⟩
 skip
 rw[show fp op ep key (m,f) a=(m,f) from by grind[fp,eT]];exact azP ⟨eE,(by grind[aL]),(by grind[aL]),(bQ Cell.e dF),c1,U,(by grind[aL]),aa⟩
theorem Vj(xs:List Cell)(op ep key:Int)(al:xs.length<=8388608):aq 324 [.one (.J 4 (xs.map Cell.e)),.one (I op),.one (I ep),.one (I key)] [.one (I (px xs op ep key).1),.one (B (px xs op ep key).2)]:=by
 have l:=dY (P:=prog) (c:=(ap f324 0)) (cn 0) xs.length (fun i:Nat=>mz (xs.map Cell.e) op ep key i (ud (fp op ep key) (0,false) xs i).2 (ud (fp op ep key) (0,false) xs i).1) (fun i hi=>by
  obtain⟨a,ai⟩:=c4 hi;grind[TJ,alO]) (aBc ⟨dw,aa⟩)
 rw[TK]at l;exact aBd ⟨l,aa⟩
theorem alQ(xs:List Cell)(op ep key:Int)(al:xs.length<=8388608):aq 344 [.one (.J 4 (xs.map Cell.e)),.one (I op),.one (I ep),.one (I key)] [.one (I (px xs op ep key).1),.one (B (px xs op ep key).2)]:=by
 have l:=dY (P:=prog) (c:=(ap f344 0)) (cn 0) xs.length (fun i:Nat=>pu (xs.map Cell.e) op ep key i (ud (fp op ep key) (0,false) xs i).2 (ud (fp op ep key) (0,false) xs i).1) (fun i hi=>by
  obtain⟨a,ai⟩:=c4 hi;grind[TJ,alP]) (azQ ⟨dw,aa⟩)
 rw[TK]at l;exact azR ⟨l,aa⟩
