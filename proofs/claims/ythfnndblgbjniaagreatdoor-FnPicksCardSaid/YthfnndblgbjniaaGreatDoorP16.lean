import Derived.Test.YthfnndblgbjniaaGreatDoorP15
set_option linter.unusedVariables false
set_option linter.unusedSimpArgs false
namespace Go.Proofs.YthfnndblgbjniaaGreatDoor
open Go.Sx Go.RowKit Go.Proofs.Tryz
def h8(g:b5)(k:Int):Int:=match g.nodes[k.toNat]? with | some y=>y.kind | none=>0
def gj(g:b5)(i:Nat)(x:Node)(k:Int):Bool:=
 decide ((g.nodes.length:Int)<=k)||(if x.kind=7 then decide ((i:Int)<k)||(h8 g k != 5&&h8 g k != 6) else decide (k<=i))
def jv(g:b5)(i:Nat)(x:Node):Bool:=!aQ x||(decide (x.kind=1) != decide ((i:Int)=0))||x.outs.any (gj g i x)
def ev(g:b5):Bool:=av g.nodes.length 1 8&&av g.az 1 4&&av g.cap 1 4&&!(anyI (jv g) 0 g.nodes)
def cX(x:Node)(k v:Int):Int×Int×Bool:=
 if aQ x&&fq k v then
  if x.kind=2 then (k,less (v+x.a) 999,true)
  else if x.kind=4 then ((k+x.a).tmod 100,v,true)
  else if x.kind=3 then (k,v,k.tmod x.a==x.b)
  else (k,v,x.kind != 8)
 else (k,v,false)
theorem LC{l:List Int}(h:nt l=true){k:Int}(ba:k∈l):av k 0 7=true:=by
 grind[nt,i',hW]
theorem Sh(g:b5)(ax:g.sz<=8388608)(i:Nat)(hi:i<8)(x:Node)(aq:g.nodes[i]?=some x)(cN:aQ x=true)(j:Nat)(k:Int)(ba:x.outs[j]?=some k)(r:Bool)(aH:gj g i x k=r):gP prog (ap f138 1) (h6 i (g.nodes.map Node.e) g.az g.cap x.kind x.a x.b (x.outs.map bb) (j:Int)) (bif r then .ret else .normal) (bif r then ru false else h6 i (g.nodes.map Node.e) g.az g.cap x.kind x.a x.b (x.outs.map bb) ((j+1:Nat):Int)):=by
 have bm:=a7 ba;have ar:x.outs.length<=2:=by grind[aQ]
 have nj:av k 0 7=true:=LC (by grind[aQ]) (eQ ba);have dz:x.outs[(j:Int).toNat]?=some k:=by grind
 have ep:decide ((j:Int)<(↑(x.outs.map bb).length:Int))=true:=cc bm;rcases cM (decide (k>=(↑(g.nodes.map Node.e).length:Int))) with U | U
 ·skip
  obtain rfl:r=true:=by grind[gj,h8,av]
  exact auK ⟨ep,(by grind),(by grind),(bN bb dz),U,ad⟩
 skip
 rcases cM (x.kind != 7) with aa | aa
 ·skip
  rcases cM (decide (k<=(i:Int))) with aB | aB
  ·skip
   obtain rfl:r=true:=by grind[gj,h8,av]
   exact auL ⟨ep,(by grind),(by grind),(bN bb dz),U,aa,aB,ad⟩
  skip
  obtain⟨Xx,zI⟩:=look (xs:=g.nodes) (i:=k) (by grind) (by grind);rcases cM (x.kind==7) with a6 | a6
  ·skip
   rcases cM (decide (k>(i:Int))) with bF | bF
   ·skip
    obtain rfl:r=true:=by rw[<-aH];grind[gj,h8,av]
    exact auM ⟨ep,(by grind[av,aK,aQ]),(by grind[av,aK,aQ]),(bN bb dz),U,aa,aB,(by grind[av,aK,aQ]),(by grind[av,aK,aQ]),(bN Node.e zI),a6,bF,ad⟩
   skip
   rcases cM (Xx.kind != 5) with bY | bY
   ·skip
    rcases cM (Xx.kind != 6) with dy | dy
    ·skip
     obtain rfl:r=true:=by rw[<-aH];grind[gj,h8,av]
     exact auN ⟨ep,(by grind[av,aK,aQ]),(by grind[av,aK,aQ]),(bN bb dz),U,aa,aB,(by grind[av,aK,aQ]),(by grind[av,aK,aQ]),(bN Node.e zI),a6,bF,bY,dy,ad⟩
    skip
    obtain rfl:r=false:=by rw[<-aH];grind[gj,h8,av]
    exact auO ⟨ep,(by grind[av,aK,aQ]),(by grind[av,aK,aQ]),(bN bb dz),U,aa,aB,(by grind[av,aK,aQ]),(by grind[av,aK,aQ]),(bN Node.e zI),a6,bF,bY,dy,(by grind[av,aK,aQ]),ad⟩
   skip
   obtain rfl:r=false:=by rw[<-aH];grind[gj,h8,av]
   exact auP ⟨ep,(by grind[av,aK,aQ]),(by grind[av,aK,aQ]),(bN bb dz),U,aa,aB,(by grind[av,aK,aQ]),(by grind[av,aK,aQ]),(bN Node.e zI),a6,bF,bY,(by grind[av,aK,aQ]),ad⟩
  skip
  obtain rfl:r=false:=by grind[gj,h8,av]
  exact auQ ⟨ep,(by grind),(by grind),(bN bb dz),U,aa,aB,(by grind),(by grind),(bN Node.e zI),a6,(by grind[av,aK,aQ]),ad⟩
 skip
 obtain⟨Gd,ss⟩:=look (xs:=g.nodes) (i:=k) (by grind[av,aK,aQ]) (by grind);rcases cM (x.kind==7) with dH | dH
 ·skip
  rcases cM (decide (k>(i:Int))) with h0 | h0
  ·skip
   obtain rfl:r=true:=by grind[gj,h8,av]
   exact auR ⟨ep,(by grind),(by grind),(bN bb dz),U,aa,(by grind),(by grind),(bN Node.e ss),dH,h0,ad⟩
  skip
  rcases cM (Gd.kind != 5) with ig | ig
  ·skip
   rcases cM (Gd.kind != 6) with tB | tB
   ·skip
    obtain rfl:r=true:=by grind[gj,h8,av]
    exact auS ⟨ep,(by grind),(by grind),(bN bb dz),U,aa,(by grind[av,aK,aQ]),(by grind),(bN Node.e ss),dH,h0,ig,tB,ad⟩
   skip
   obtain rfl:r=false:=by grind[gj,h8,av]
   exact auT ⟨ep,(by grind),(by grind),(bN bb dz),U,aa,(by grind[av,aK,aQ]),(by grind),(bN Node.e ss),dH,h0,ig,tB,(by grind[av,aK,aQ]),ad⟩
  skip
  obtain rfl:r=false:=by grind[gj,h8,av]
  exact auU ⟨ep,(by grind),(by grind),(bN bb dz),U,aa,(by grind[av,aK,aQ]),(by grind),(bN Node.e ss),dH,h0,ig,(by grind[av,aK,aQ]),ad⟩
 skip
 obtain rfl:r=false:=by rw[<-aH];grind[gj,h8,av]
 exact auV ⟨ep,(by grind[av,aK,aQ]),(by grind[av,aK,aQ]),(bN bb dz),U,aa,(by grind[av,aK,aQ]),(by grind[av,aK,aQ]),(bN Node.e ss),dH,(by grind[av,aK,aQ]),ad⟩
theorem Si(g:b5)(ax:g.sz<=8388608)(i:Nat)(hi:i<8)(x:Node)(aq:g.nodes[i]?=some x)(cN:aQ x=true)(j:Nat)(k:Int)(ba:x.outs[j]?=some k)(r:Bool)(aH:gj g i x k=r):gP prog (ap f78 1) (h7 (g.nodes.map Node.e) i (g.nodes.map Node.e) g.az g.cap x.kind x.a x.b (x.outs.map bb) (j:Int)) (bif r then .ret else .normal) (bif r then rv false else h7 (g.nodes.map Node.e) i (g.nodes.map Node.e) g.az g.cap x.kind x.a x.b (x.outs.map bb) ((j+1:Nat):Int)):=by
 have bm:=a7 ba;have ar:x.outs.length<=2:=by grind[aQ]
 have nj:av k 0 7=true:=LC (by grind[aQ]) (eQ ba);have dz:x.outs[(j:Int).toNat]?=some k:=by grind
 have ep:decide ((j:Int)<(↑(x.outs.map bb).length:Int))=true:=cc bm;rcases cM (decide (k>=(↑(g.nodes.map Node.e).length:Int))) with U | U
 ·skip
  obtain rfl:r=true:=by grind[gj,h8,av]
  exact auw ⟨ep,(by grind),(by grind),(bN bb dz),U,ad⟩
 skip
 obtain⟨eX,kN⟩:=look (xs:=g.nodes) (i:=k) (by grind[av,aK,aQ]) (by grind);rcases cM (x.kind==7) with aB | aB
 ·skip
  rcases cM (decide (k>(i:Int))) with aJ | aJ
  ·skip
   obtain rfl:r=true:=by grind[gj,h8,av]
   exact auy ⟨ep,(by grind),(by grind),(bN bb dz),U,(by grind),(by grind),(bN Node.e kN),aB,aJ,ad⟩
  skip
  rcases cM (eX.kind != 5) with a6 | a6
  ·skip
   rcases cM (eX.kind != 6) with bF | bF
   ·skip
    obtain rfl:r=true:=by grind[gj,h8,av]
    exact auz ⟨ep,(by grind),(by grind),(bN bb dz),U,(by grind[av,aK,aQ]),(by grind),(bN Node.e kN),aB,aJ,a6,bF,ad⟩
   skip
   rcases cM (x.kind != 7) with bY | bY
   ·skip
    rcases cM (decide (k<=(i:Int))) with dy | dy
    ·skip
     obtain rfl:r=true:=by rw[<-aH];grind[gj,h8,av]
     exact auA ⟨ep,(by grind[av,aK,aQ]),(by grind[av,aK,aQ]),(bN bb dz),U,(by grind[av,aK,aQ]),(by grind[av,aK,aQ]),(bN Node.e kN),aB,aJ,a6,bF,bY,dy,ad⟩
    skip
    obtain rfl:r=false:=by rw[<-aH];grind[gj,h8,av]
    exact av1 ⟨ep,(by grind[av,aK,aQ]),(by grind[av,aK,aQ]),(bN bb dz),U,(by grind[av,aK,aQ]),(by grind[av,aK,aQ]),(bN Node.e kN),aB,aJ,a6,bF,bY,dy,(by grind[av,aK,aQ]),ad⟩
   skip
   obtain rfl:r=false:=by grind[gj,h8,av]
   exact av2 ⟨ep,(by grind),(by grind),(bN bb dz),U,(by grind[av,aK,aQ]),(by grind),(bN Node.e kN),aB,aJ,a6,bF,bY,(by grind[av,aK,aQ]),ad⟩
  skip
  rcases cM (x.kind != 7) with eg | eg
  ·skip
   rcases cM (decide (k<=(i:Int))) with dH | dH
   ·skip
    obtain rfl:r=true:=by rw[<-aH];grind[gj,h8,av]
    exact av3 ⟨ep,(by grind[av,aK,aQ]),(by grind[av,aK,aQ]),(bN bb dz),U,(by grind[av,aK,aQ]),(by grind[av,aK,aQ]),(bN Node.e kN),aB,aJ,a6,eg,dH,ad⟩
   skip
   obtain rfl:r=false:=by rw[<-aH];grind[gj,h8,av]
   exact av4 ⟨ep,(by grind[av,aK,aQ]),(by grind[av,aK,aQ]),(bN bb dz),U,(by grind[av,aK,aQ]),(by grind[av,aK,aQ]),(bN Node.e kN),aB,aJ,a6,eg,dH,(by grind[av,aK,aQ]),ad⟩
  skip
  obtain rfl:r=false:=by grind[gj,h8,av]
  exact av5 ⟨ep,(by grind),(by grind),(bN bb dz),U,(by grind[av,aK,aQ]),(by grind),(bN Node.e kN),aB,aJ,a6,eg,(by grind[av,aK,aQ]),ad⟩
 skip
 rcases cM (x.kind != 7) with h0 | h0
 ·skip
  rcases cM (decide (k<=(i:Int))) with ig | ig
  ·skip
   obtain rfl:r=true:=by grind[gj,h8,av]
   exact av6 ⟨ep,(by grind),(by grind),(bN bb dz),U,(by grind[av,aK,aQ]),(by grind),(bN Node.e kN),aB,h0,ig,ad⟩
  skip
  obtain rfl:r=false:=by grind[gj,h8,av]
  exact av7 ⟨ep,(by grind),(by grind),(bN bb dz),U,(by grind),(by grind),(bN Node.e kN),aB,h0,ig,(by grind[av,aK,aQ]),ad⟩
 skip
 obtain rfl:r=false:=by rw[<-aH];grind[gj,h8,av]
 exact av8 ⟨ep,(by grind[av,aK,aQ]),(by grind[av,aK,aQ]),(bN bb dz),U,(by grind[av,aK,aQ]),(by grind[av,aK,aQ]),(bN Node.e kN),aB,h0,(by grind[av,aK,aQ]),ad⟩
theorem ade(g:b5)(ax:g.sz<=8388608)(i:Nat)(hi:i<8)(x:Node)(aq:g.nodes[i]?=some x)(cN:aQ x=true):
  (x.outs.any (gj g i x)=true/\c6 prog (ap f138 1) (h6 i (g.nodes.map Node.e) g.az g.cap x.kind x.a x.b (x.outs.map bb) 0) .ret (ru false))\/(x.outs.any (gj g i x)=false/\c6 prog (ap f138 1) (h6 i (g.nodes.map Node.e) g.az g.cap x.kind x.a x.b (x.outs.map bb) 0) (.exit 2) (Lu i (g.nodes.map Node.e) g.az g.cap)):=by
 have l:=gI (P:=prog) (c:=(ap f138 1)) x.outs (gj g i x) (fun j=>h6 i (g.nodes.map Node.e) g.az g.cap x.kind x.a x.b (x.outs.map bb) j) (X:=fun _ _=>ru false) ff (cy 2)
  (fun j k ba h=>Sh g ax i hi x aq cN j k ba false h)
  (fun j k ba h=>Sh g ax i hi x aq cN j k ba true h)
  (auW ⟨dG,ad⟩)
 grind
theorem adf(g:b5)(ax:g.sz<=8388608)(i:Nat)(hi:i<8)(x:Node)(aq:g.nodes[i]?=some x)(cN:aQ x=true):
  (x.outs.any (gj g i x)=true/\c6 prog (ap f78 1) (h7 (g.nodes.map Node.e) i (g.nodes.map Node.e) g.az g.cap x.kind x.a x.b (x.outs.map bb) 0) .ret (rv false))\/(x.outs.any (gj g i x)=false/\c6 prog (ap f78 1) (h7 (g.nodes.map Node.e) i (g.nodes.map Node.e) g.az g.cap x.kind x.a x.b (x.outs.map bb) 0) (.exit 2) (Lw (g.nodes.map Node.e) i (g.nodes.map Node.e) g.az g.cap)):=by
 have l:=gI (P:=prog) (c:=(ap f78 1)) x.outs (gj g i x) (fun j=>h7 (g.nodes.map Node.e) i (g.nodes.map Node.e) g.az g.cap x.kind x.a x.b (x.outs.map bb) j) (X:=fun _ _=>rv false) ff (cy 2)
  (fun j k ba h=>Si g ax i hi x aq cN j k ba false h)
  (fun j k ba h=>Si g ax i hi x aq cN j k ba true h)
  (av9 ⟨dG,ad⟩)
 grind
theorem Sj(g:b5)(ax:g.sz<=8388608)(i:Nat)(hi:i<8)(x:Node)(aq:g.nodes[i]?=some x)(r:Bool)(aH:jv g i x=r):gP prog (ap f138 0) (oB ((i:Nat):Int) (g.nodes.map Node.e) g.az g.cap) (bif r then .ret else .normal) (bif r then v7 false else oB ((i+1:Nat):Int) (g.nodes.map Node.e) g.az g.cap):=by
 have bm:=a7 aq;have bc:=b5.zV ax (eQ aq);have dz:g.nodes[(i:Int).toNat]?=some x:=by grind
 have ep:decide ((i:Int)<(↑(g.nodes.map Node.e).length:Int))=true:=cc bm;have bK:=Sf x (by grind);rcases cM (aQ x) with aa | aa
 ·skip
  rcases cM ((x.kind==1)==((i:Int)==0)) with aB | aB
  ·skip
   rcases ade g ax i hi x aq (by grind) with⟨cB,l⟩ | ⟨cB,l⟩
   ·skip
    obtain rfl:r=true:=by grind[jv]
    exact auX ⟨ep,(by grind),(by grind),(bN Node.e dz),bK,(by rw[aa];rfl),(by rw[aB];rfl),l,ad⟩
   skip
   obtain rfl:r=false:=by grind[jv]
   exact auY ⟨ep,(by grind),(by grind),(bN Node.e dz),bK,(by rw[aa];rfl),(by rw[aB];rfl),l,(by grind[av,aK,aQ]),ad⟩
  skip
  obtain rfl:r=true:=by grind[jv]
  exact auJ ⟨ep,(by grind),(by grind),(bN Node.e dz),bK,(by rw[aa];rfl),(by rw[aB];rfl),ad⟩
 skip
 obtain rfl:r=true:=by grind[jv]
 exact auI ⟨ep,(by grind),(by grind),(bN Node.e dz),bK,(by rw[aa];rfl),ad⟩
theorem Sk(g:b5)(ax:g.sz<=8388608)(i:Nat)(hi:i<8)(x:Node)(aq:g.nodes[i]?=some x)(r:Bool)(aH:jv g i x=r):gP prog (ap f78 0) (oC (g.nodes.map Node.e) ((i:Nat):Int) (g.nodes.map Node.e) g.az g.cap) (bif r then .ret else .normal) (bif r then v8 false else oC (g.nodes.map Node.e) ((i+1:Nat):Int) (g.nodes.map Node.e) g.az g.cap):=by
 have bm:=a7 aq;have bc:=b5.zV ax (eQ aq);have dz:g.nodes[(i:Int).toNat]?=some x:=by grind
 have ep:decide ((i:Int)<(↑(g.nodes.map Node.e).length:Int))=true:=cc bm;have bK:=Sg x (by grind);rcases cM (aQ x) with aa | aa
 ·skip
  rcases cM ((x.kind==1)==((i:Int)==0)) with aB | aB
  ·skip
   rcases adf g ax i hi x aq (by grind) with⟨cB,l⟩ | ⟨cB,l⟩
   ·skip
    obtain rfl:r=true:=by grind[jv]
    exact awa ⟨ep,(by grind),(by grind),(bN Node.e dz),bK,(by rw[aa];rfl),(by rw[aB];rfl),l,ad⟩
   skip
   obtain rfl:r=false:=by grind[jv]
   exact awb ⟨ep,(by grind),(by grind),(bN Node.e dz),bK,(by rw[aa];rfl),(by rw[aB];rfl),l,(by grind[av,aK,aQ]),ad⟩
  skip
  obtain rfl:r=true:=by grind[jv]
  exact auv ⟨ep,(by grind),(by grind),(bN Node.e dz),bK,(by rw[aa];rfl),(by rw[aB];rfl),ad⟩
 skip
 obtain rfl:r=true:=by grind[jv]
 exact auu ⟨ep,(by grind),(by grind),(bN Node.e dz),bK,(by rw[aa];rfl),ad⟩
theorem adg(g:b5)(ax:g.sz<=8388608)(dy:g.nodes.length<=8):
  (anyI (jv g) 0 g.nodes=true/\c6 prog (ap f138 0) (oB 0 (g.nodes.map Node.e) g.az g.cap) .ret (v7 false))\/(anyI (jv g) 0 g.nodes=false/\c6 prog (ap f138 0) (oB 0 (g.nodes.map Node.e) g.az g.cap) (.exit 0) Lv):=by
 have l:=uu (P:=prog) (c:=(ap f138 0)) g.nodes (jv g) (fun i=>oB (i:Nat) (g.nodes.map Node.e) g.az g.cap) (X:=v7 false) ff (cy 0)
  (fun i x aq h=>Sj g ax i (by grind) x aq false h)
  (fun i x aq h=>Sj g ax i (by grind) x aq true h)
  (auZ ⟨dG,ad⟩)
 grind
theorem adh(g:b5)(ax:g.sz<=8388608)(dy:g.nodes.length<=8):
  (anyI (jv g) 0 g.nodes=true/\c6 prog (ap f78 0) (oC (g.nodes.map Node.e) 0 (g.nodes.map Node.e) g.az g.cap) .ret (v8 false))\/(anyI (jv g) 0 g.nodes=false/\c6 prog (ap f78 0) (oC (g.nodes.map Node.e) 0 (g.nodes.map Node.e) g.az g.cap) (.exit 0) Lx):=by
 have l:=uu (P:=prog) (c:=(ap f78 0)) g.nodes (jv g) (fun i=>oC (g.nodes.map Node.e) (i:Nat) (g.nodes.map Node.e) g.az g.cap) (X:=v8 false) ff (cy 0)
  (fun i x aq h=>Sk g ax i (by grind) x aq false h)
  (fun i x aq h=>Sk g ax i (by grind) x aq true h)
  (awc ⟨dG,ad⟩)
 grind
theorem xJ(g:b5)(ax:g.sz<=8388608):al 138 [.agg g.e] [.one (B (ev g))]:=by
 have bK:=h3 (↑(g.nodes.map Node.e).length:Int) 1 8;rcases cM (av (↑(g.nodes.map Node.e).length:Int) 1 8) with aa | aa
 ·skip
  have cG:=h3 g.az 1 4;rcases cM (av g.az 1 4) with aJ | aJ
  ·skip
   have gm:=h3 g.cap 1 4;rcases cM (av g.cap 1 4) with bF | bF
   ·skip
    rcases adg g ax (by grind[av]) with⟨cB,l⟩ | ⟨cB,l⟩
    ·skip
     rw[show ev g=false from by grind[ev]];exact au0 ⟨bK,(by rw[aa];rfl),cG,(by rw[aJ];rfl),gm,(by rw[bF];rfl),l,ad⟩
    skip
    rw[show ev g=true from by grind[ev]];exact auq ⟨bK,(by rw[aa];rfl),cG,(by rw[aJ];rfl),gm,(by rw[bF];rfl),l,ad⟩
   skip
   rw[show ev g=false from by grind[ev]];exact auH ⟨bK,(by rw[aa];rfl),cG,(by rw[aJ];rfl),gm,(by rw[bF];rfl),ad⟩
  skip
  rw[show ev g=false from by grind[ev]];exact auG ⟨bK,(by rw[aa];rfl),cG,(by rw[aJ];rfl),ad⟩
 skip
 rw[show ev g=false from by grind[ev]];exact auF ⟨bK,(by rw[aa];rfl),ad⟩
theorem xK(g:b5)(ax:g.sz<=8388608):al 78 [.agg g.e] [.one (B (ev g))]:=by
 have bK:=kA (↑(g.nodes.map Node.e).length:Int) 1 8;rcases cM (av (↑(g.nodes.map Node.e).length:Int) 1 8) with aa | aa
 ·skip
  have cG:=kA g.az 1 4;rcases cM (av g.az 1 4) with aJ | aJ
  ·skip
   have gm:=kA g.cap 1 4;rcases cM (av g.cap 1 4) with bF | bF
   ·skip
    rcases adh g ax (by grind[av]) with⟨cB,l⟩ | ⟨cB,l⟩
    ·skip
     rw[show ev g=false from by grind[ev]];exact awd ⟨bK,(by rw[aa];rfl),cG,(by rw[aJ];rfl),gm,(by rw[bF];rfl),l,ad⟩
    skip
    rw[show ev g=true from by grind[ev]];exact awe ⟨bK,(by rw[aa];rfl),cG,(by rw[aJ];rfl),gm,(by rw[bF];rfl),l,ad⟩
   skip
   rw[show ev g=false from by grind[ev]];exact aut ⟨bK,(by rw[aa];rfl),cG,(by rw[aJ];rfl),gm,(by rw[bF];rfl),ad⟩
  skip
  rw[show ev g=false from by grind[ev]];exact aus ⟨bK,(by rw[aa];rfl),cG,(by rw[aJ];rfl),ad⟩
 skip
 rw[show ev g=false from by grind[ev]];exact aur ⟨bK,(by rw[aa];rfl),ad⟩
theorem adi(x:Node)(k v:Int)(aq:x.outs.length<=8388608):al 195 [.agg x.e,.one (I k),.one (I v)] [.one (I ((cX x k v).1)),.one (I ((cX x k v).2.1)),.one (B ((cX x k v).2.2))]:=by
 have bK:=Sf x (by grind);rcases cM (aQ x) with aa | aa
 ·skip
  have cG:=h3 k 0 99;rcases cM (av k 0 99) with aJ | aJ
  ·skip
   have gm:=h3 v 0 999;rcases cM (av v 0 999) with bF | bF
   ·skip
    rcases cM (x.kind==2) with bY | bY
    ·skip
     have ml:=adb (v+x.a) 999;rw[show cX x k v=(k,less (v+x.a) 999,true) from by grind[cX,fq,less,aQ,bP]];exact avJ ⟨bK,(by rw[aa];rfl),cG,(by rw[aJ];rfl),gm,(by rw[bF];rfl),bY,(by grind[aQ,bP,av,aK,fq]),ml,ad⟩
    skip
    rcases cM (x.kind==4) with eg | eg
    ·skip
     rw[show cX x k v=((k+x.a).tmod 100,v,true) from by grind[cX,fq,less,aQ,bP]];exact avK ⟨bK,(by rw[aa];rfl),cG,(by rw[aJ];rfl),gm,(by rw[bF];rfl),bY,eg,(by grind[aQ,bP,av,aK,fq]),(by grind),ad⟩
    skip
    rcases cM (x.kind==3) with dH | dH
    ·skip
     rw[show cX x k v=(k,v,k.tmod x.a==x.b) from by grind[cX,fq,less,aQ,bP]];exact avL ⟨bK,(by rw[aa];rfl),cG,(by rw[aJ];rfl),gm,(by rw[bF];rfl),bY,eg,dH,(by grind[aQ,bP,av,aK,fq]),ad⟩
    skip
    rw[show cX x k v=(k,v,x.kind != 8) from by grind[cX,fq,less,aQ,bP]];exact avM ⟨bK,(by rw[aa];rfl),cG,(by rw[aJ];rfl),gm,(by rw[bF];rfl),bY,eg,dH,ad⟩
   skip
   rw[show cX x k v=(k,v,false) from by grind[cX,fq,less,aQ,bP]];exact avI ⟨bK,(by rw[aa];rfl),cG,(by rw[aJ];rfl),gm,(by rw[bF];rfl),ad⟩
  skip
  rw[show cX x k v=(k,v,false) from by grind[cX,fq,less,aQ,bP]];exact avH ⟨bK,(by rw[aa];rfl),cG,(by rw[aJ];rfl),ad⟩
 skip
 rw[show cX x k v=(k,v,false) from by grind[cX,fq,less,aQ,bP]];exact avG ⟨bK,(by rw[aa];rfl),ad⟩
theorem adj(x:Node)(k v:Int)(aq:x.outs.length<=8388608):al 188 [.agg x.e,.one (I k),.one (I v)] [.one (I ((cX x k v).1)),.one (I ((cX x k v).2.1)),.one (B ((cX x k v).2.2))]:=by
 have bK:=Sg x (by grind);rcases cM (aQ x) with aa | aa
 ·skip
  have cG:=Se k v;rcases cM (fq k v) with aJ | aJ
  ·skip
   rcases cM (x.kind==2) with a6 | a6
   ·skip
    rw[show cX x k v=(k,if v+x.a<999 then v+x.a else 999,true) from by grind[cX,fq,less,aQ,bP]];exact avP ⟨bK,(by rw[aa];rfl),cG,(by rw[aJ];rfl),a6,(by grind[aQ,bP,av,aK,fq]),ad⟩
   skip
   rcases cM (x.kind==4) with bF | bF
   ·skip
    rw[show cX x k v=((k+x.a).tmod 100,v,true) from by grind[cX,fq,less,aQ,bP]];exact avQ ⟨bK,(by rw[aa];rfl),cG,(by rw[aJ];rfl),a6,bF,(by grind[aQ,bP,av,aK,fq]),(by grind),ad⟩
   skip
   rcases cM (x.kind==3) with bY | bY
   ·skip
    rw[show cX x k v=(k,v,k.tmod x.a==x.b) from by grind[cX,fq,less,aQ,bP]];exact avR ⟨bK,(by rw[aa];rfl),cG,(by rw[aJ];rfl),a6,bF,bY,(by grind[aQ,bP,av,aK,fq]),ad⟩
   skip
   rw[show cX x k v=(k,v,x.kind != 8) from by grind[cX,fq,less,aQ,bP]];exact avS ⟨bK,(by rw[aa];rfl),cG,(by rw[aJ];rfl),a6,bF,bY,ad⟩
  skip
  rw[show cX x k v=(k,v,false) from by grind[cX,fq,less,aQ,bP]];exact avO ⟨bK,(by rw[aa];rfl),cG,(by rw[aJ];rfl),ad⟩
 skip
 rw[show cX x k v=(k,v,false) from by grind[cX,fq,less,aQ,bP]];exact avN ⟨bK,(by rw[aa];rfl),ad⟩
def e6(a b:Cell):Bool:=a.op==b.op&&a.bh==b.bh&&a.key==b.key
def hA(op cL key:Int)(s:Int×Bool)(a:Cell):Int×Bool:=if a.op=op/\a.bh=cL/\a.key=key/\(s.2=false\/a.val<s.1) then (a.val,true) else s
def qy(xs:List Cell)(op cL key:Int):Int×Bool:=xs.foldl (hA op cL key) (0,false)
theorem Sl(a b:Cell):al 228 [.agg a.e,.agg b.e] [.one (B (e6 a b))]:=by
 rcases cM (a.op==b.op) with U | U
 ·skip
  rcases cM (a.bh==b.bh) with aa | aa
  ·skip
   rw[show e6 a b=(a.key==b.key) from by grind[e6]];exact atZ ⟨U,aa,ad⟩
  skip
  rw[show e6 a b=false from by grind[e6]];exact at0 ⟨U,aa,ad⟩
 skip
 rw[show e6 a b=false from by grind[e6]];exact at1 ⟨U,ad⟩
theorem adk(xs:List Cell)(ar:xs.length<=8388608)(op cL key m:Int)(f:Bool)(i:Nat)(a:Cell)(aj:xs[i]?=some a):gP prog (ap f216 0) (lB (xs.map Cell.e) op cL key i f m) .normal (lB (xs.map Cell.e) op cL key ((i+1:Nat):Int) (hA op cL key (m,f) a).2 (hA op cL key (m,f) a).1):=by
 have bm:=a7 aj;have dz:xs[(i:Int).toNat]?=some a:=by grind
 have ep:decide ((i:Int)<(↑(xs.map Cell.e).length:Int))=true:=cc bm;rcases cM (a.op==op) with U | U
 ·skip
  rcases cM (a.bh==cL) with aa | aa
  ·skip
   rcases cM (a.key==key) with aB | aB
   ·skip
    rcases cM (f) with aJ | aJ
    ·skip
     rcases cM (decide (a.val<m)) with a6 | a6
     ·skip
      rw[show hA op cL key (m,f) a=(a.val,true) from by grind[hA,e6]];exact atM ⟨ep,(by grind[aK]),(by grind[aK]),(bN Cell.e dz),U,aa,aB,(by rw[aJ];rfl),a6,(by grind[aK]),ad⟩
     skip
     rw[show hA op cL key (m,f) a=(m,f) from by grind[hA,e6]];exact atN ⟨ep,(by grind[aK]),(by grind[aK]),(bN Cell.e dz),U,aa,aB,(by rw[aJ];rfl),a6,(by grind[aK]),ad⟩
    skip
    rw[show hA op cL key (m,f) a=(a.val,true) from by grind[hA,e6]];exact atL ⟨ep,(by grind[aK]),(by grind[aK]),(bN Cell.e dz),U,aa,aB,(by rw[aJ];rfl),(by grind[aK]),ad⟩
   skip
   rw[show hA op cL key (m,f) a=(m,f) from by grind[hA,e6]];exact atO ⟨ep,(by grind[aK]),(by grind[aK]),(bN Cell.e dz),U,aa,aB,(by grind[aK]),ad⟩
  skip
  rw[show hA op cL key (m,f) a=(m,f) from by grind[hA,e6]];exact atP ⟨ep,(by grind[aK]),(by grind[aK]),(bN Cell.e dz),U,aa,(by grind[aK]),ad⟩
 skip
 rw[show hA op cL key (m,f) a=(m,f) from by grind[hA,e6]];exact atQ ⟨ep,(by grind[aK]),(by grind[aK]),(bN Cell.e dz),U,(by grind[aK]),ad⟩
theorem adl(xs:List Cell)(ar:xs.length<=8388608)(op cL key m:Int)(f:Bool)(i:Nat)(a:Cell)(aj:xs[i]?=some a):gP prog (ap f225 0) (oz (xs.map Cell.e) op cL key i f m) .normal (oz (xs.map Cell.e) op cL key ((i+1:Nat):Int) (hA op cL key (m,f) a).2 (hA op cL key (m,f) a).1):=by
 have bm:=a7 aj;have dz:xs[(i:Int).toNat]?=some a:=by grind
 have ep:decide ((i:Int)<(↑(xs.map Cell.e).length:Int))=true:=cc bm;have bK:=Sl a (⟨op,cL,key,0⟩:Cell);rcases cM (e6 a (⟨op,cL,key,0⟩:Cell)) with aa | aa
 ·skip
  rcases cM (f) with aB | aB
  ·skip
   rcases cM (decide (a.val<m)) with aJ | aJ
   ·skip
    rw[show hA op cL key (m,f) a=(a.val,true) from by grind[hA,e6]];exact aub ⟨ep,(by grind[aK]),(by grind[aK]),(bN Cell.e dz),bK,aa,(by rw[aB];rfl),aJ,(by grind[aK]),ad⟩
   skip
   rw[show hA op cL key (m,f) a=(m,f) from by grind[hA,e6]];exact auc ⟨ep,(by grind[aK]),(by grind[aK]),(bN Cell.e dz),bK,aa,(by rw[aB];rfl),aJ,(by grind[aK]),ad⟩
  skip
  rw[show hA op cL key (m,f) a=(a.val,true) from by grind[hA,e6]];exact aua ⟨ep,(by grind[aK]),(by grind[aK]),(bN Cell.e dz),bK,aa,(by rw[aB];rfl),(by grind[aK]),ad⟩
 skip
 rw[show hA op cL key (m,f) a=(m,f) from by grind[hA,e6]];exact aud ⟨ep,(by grind[aK]),(by grind[aK]),(bN Cell.e dz),bK,aa,(by grind[aK]),ad⟩
theorem Sm(xs:List Cell)(op cL key:Int)(ar:xs.length<=8388608):al 216 [.one (.J 4 (xs.map Cell.e)),.one (I op),.one (I cL),.one (I key)] [.one (I (qy xs op cL key).1),.one (B (qy xs op cL key).2)]:=by
 have l:=er (P:=prog) (c:=(ap f216 0)) (cy 0) xs.length (fun i:Nat=>lB (xs.map Cell.e) op cL key i (sW (hA op cL key) (0,false) xs i).2 (sW (hA op cL key) (0,false) xs i).1) (fun i hi=>by
  obtain⟨a,aj⟩:=c2 hi;grind[RE,adk]) (atS ⟨dG,ad⟩)
 rw[RF]at l;exact atT ⟨l,ad⟩
theorem adm(xs:List Cell)(op cL key:Int)(ar:xs.length<=8388608):al 225 [.one (.J 4 (xs.map Cell.e)),.one (I op),.one (I cL),.one (I key)] [.one (I (qy xs op cL key).1),.one (B (qy xs op cL key).2)]:=by
 have l:=er (P:=prog) (c:=(ap f225 0)) (cy 0) xs.length (fun i:Nat=>oz (xs.map Cell.e) op cL key i (sW (hA op cL key) (0,false) xs i).2 (sW (hA op cL key) (0,false) xs i).1) (fun i hi=>by
  obtain⟨a,aj⟩:=c2 hi;grind[RE,adl]) (aue ⟨dG,ad⟩)
 rw[RF]at l;exact auf ⟨l,ad⟩
