import Derived.Test.YtdchjefneblpgaaGreatP15
set_option linter.unusedVariables false
set_option linter.unusedSimpArgs false
namespace Go.Proofs.YtdchjefneblpgaaGreat
open Go.Sx Go.RowKit Go.Proofs.Tryz
def hU(g:bX)(k:Int):Int:=match g.nodes[k.toNat]? with | some y=>y.kind | none=>0
def fX(g:bX)(i:Nat)(x:Node)(k:Int):Bool:=
 decide ((g.nodes.length:Int)<=k)||(if x.kind=7 then decide ((i:Int)<k)||(hU g k != 5&&hU g k != 6) else decide (k<=i))
def iR(g:bX)(i:Nat)(x:Node):Bool:=!aL x||(decide (x.kind=1) != decide ((i:Int)=0))||x.outs.any (fX g i x)
def eg(g:bX):Bool:=ap g.nodes.length 1 8&&ap g.az 1 4&&ap g.cap 1 4&&!(anyI (iR g) 0 g.nodes)
def cP(x:Node)(k v:Int):Int×Int×Bool:=
 if aL x&&eZ k v then
  if x.kind=2 then (k,less (v+x.a) 999,true)
  else if x.kind=4 then ((k+x.a).tmod 100,v,true)
  else if x.kind=3 then (k,v,k.tmod x.a==x.b)
  else (k,v,x.kind != 8)
 else (k,v,false)
theorem KA{l:List Int}(h:mB l=true){k:Int}(hk:k∈l):ap k 0 7=true:=by
 simp only[mB,hv,hj]at h;simpa using h k hk
theorem Q7(g:bX)(au:g.sz<=8388608)(i:Nat)(hi:i<8)(x:Node)(ag:g.nodes[i]?=some x)(cJ:aL x=true)(j:Nat)(k:Int)(hk:x.outs[j]?=some k)(r:Bool)(aA:fX g i x k=r):gl prog (aq f121 1) (hS i (g.nodes.map Node.e) g.az g.cap x.kind x.a x.b (x.outs.map a') (j:Int)) (bif r then .ret else .normal) (bif r then qz false else hS i (g.nodes.map Node.e) g.az g.cap x.kind x.a x.b (x.outs.map a') ((j+1:Nat):Int)):=by
 have a6:=a8 hk;have al:x.outs.length<=2:=by grind[aL]
 have lc:ap k 0 7=true:=KA (by grind[aL]) (eA hk);have dh:x.outs[(j:Int).toNat]?=some k:=by simpa using hk
 have ee:decide ((j:Int)<(↑(x.outs.map a').length:Int))=true:=b' a6;rcases cI (decide (k>=(↑(g.nodes.map Node.e).length:Int))) with h1 | h1
 ·skip
  obtain rfl:r=true:=by rw[<-aA];grind[fX,hU,ap]
  exact aoO ⟨ee,(by grind[ap,ay,aL]),(by grind[ap,ay,aL]),(bH a' dh),h1,aa⟩
 skip
 rcases cI (x.kind != 7) with U | U
 ·skip
  rcases cI (decide (k<=(i:Int))) with aw | aw
  ·skip
   obtain rfl:r=true:=by rw[<-aA];grind[fX,hU,ap]
   exact aoP ⟨ee,(by grind[ap,ay,aL]),(by grind[ap,ay,aL]),(bH a' dh),h1,U,aw,aa⟩
  skip
  obtain⟨VN,y7⟩:=look (xs:=g.nodes) (i:=k) (by grind[ap,ay,aL]) (by grind[ap,ay,aL]);rcases cI (x.kind==7) with aU | aU
  ·skip
   rcases cI (decide (k>(i:Int))) with bA | bA
   ·skip
    obtain rfl:r=true:=by rw[<-aA];grind[fX,hU,ap]
    exact aoQ ⟨ee,(by grind[ap,ay,aL]),(by grind[ap,ay,aL]),(bH a' dh),h1,U,aw,(by grind[ap,ay,aL]),(by grind[ap,ay,aL]),(bH Node.e y7),aU,bA,aa⟩
   skip
   rcases cI (VN.kind != 5) with bP | bP
   ·skip
    rcases cI (VN.kind != 6) with c' | c'
    ·skip
     obtain rfl:r=true:=by rw[<-aA];grind[fX,hU,ap]
     exact aoR ⟨ee,(by grind[ap,ay,aL]),(by grind[ap,ay,aL]),(bH a' dh),h1,U,aw,(by grind[ap,ay,aL]),(by grind[ap,ay,aL]),(bH Node.e y7),aU,bA,bP,c',aa⟩
    skip
    obtain rfl:r=false:=by rw[<-aA];grind[fX,hU,ap]
    exact aoS ⟨ee,(by grind[ap,ay,aL]),(by grind[ap,ay,aL]),(bH a' dh),h1,U,aw,(by grind[ap,ay,aL]),(by grind[ap,ay,aL]),(bH Node.e y7),aU,bA,bP,c',(by grind[ap,ay,aL]),aa⟩
   skip
   obtain rfl:r=false:=by rw[<-aA];grind[fX,hU,ap]
   exact aoT ⟨ee,(by grind[ap,ay,aL]),(by grind[ap,ay,aL]),(bH a' dh),h1,U,aw,(by grind[ap,ay,aL]),(by grind[ap,ay,aL]),(bH Node.e y7),aU,bA,bP,(by grind[ap,ay,aL]),aa⟩
  skip
  obtain rfl:r=false:=by rw[<-aA];grind[fX,hU,ap]
  exact aoU ⟨ee,(by grind[ap,ay,aL]),(by grind[ap,ay,aL]),(bH a' dh),h1,U,aw,(by grind[ap,ay,aL]),(by grind[ap,ay,aL]),(bH Node.e y7),aU,(by grind[ap,ay,aL]),aa⟩
 skip
 obtain⟨E7,rM⟩:=look (xs:=g.nodes) (i:=k) (by grind[ap,ay,aL]) (by grind[ap,ay,aL]);rcases cI (x.kind==7) with dF | dF
 ·skip
  rcases cI (decide (k>(i:Int))) with hL | hL
  ·skip
   obtain rfl:r=true:=by rw[<-aA];grind[fX,hU,ap]
   exact aoV ⟨ee,(by grind[ap,ay,aL]),(by grind[ap,ay,aL]),(bH a' dh),h1,U,(by grind[ap,ay,aL]),(by grind[ap,ay,aL]),(bH Node.e rM),dF,hL,aa⟩
  skip
  rcases cI (E7.kind != 5) with h4 | h4
  ·skip
   rcases cI (E7.kind != 6) with sM | sM
   ·skip
    obtain rfl:r=true:=by rw[<-aA];grind[fX,hU,ap]
    exact aoW ⟨ee,(by grind[ap,ay,aL]),(by grind[ap,ay,aL]),(bH a' dh),h1,U,(by grind[ap,ay,aL]),(by grind[ap,ay,aL]),(bH Node.e rM),dF,hL,h4,sM,aa⟩
   skip
   obtain rfl:r=false:=by rw[<-aA];grind[fX,hU,ap]
   exact aoX ⟨ee,(by grind[ap,ay,aL]),(by grind[ap,ay,aL]),(bH a' dh),h1,U,(by grind[ap,ay,aL]),(by grind[ap,ay,aL]),(bH Node.e rM),dF,hL,h4,sM,(by grind[ap,ay,aL]),aa⟩
  skip
  obtain rfl:r=false:=by rw[<-aA];grind[fX,hU,ap]
  exact aoY ⟨ee,(by grind[ap,ay,aL]),(by grind[ap,ay,aL]),(bH a' dh),h1,U,(by grind[ap,ay,aL]),(by grind[ap,ay,aL]),(bH Node.e rM),dF,hL,h4,(by grind[ap,ay,aL]),aa⟩
 skip
 obtain rfl:r=false:=by rw[<-aA];grind[fX,hU,ap]
 exact aoZ ⟨ee,(by grind[ap,ay,aL]),(by grind[ap,ay,aL]),(bH a' dh),h1,U,(by grind[ap,ay,aL]),(by grind[ap,ay,aL]),(bH Node.e rM),dF,(by grind[ap,ay,aL]),aa⟩
theorem Q8(g:bX)(au:g.sz<=8388608)(i:Nat)(hi:i<8)(x:Node)(ag:g.nodes[i]?=some x)(cJ:aL x=true)(j:Nat)(k:Int)(hk:x.outs[j]?=some k)(r:Bool)(aA:fX g i x k=r):gl prog (aq f179 1) (hT (g.nodes.map Node.e) i (g.nodes.map Node.e) g.az g.cap x.kind x.a x.b (x.outs.map a') (j:Int)) (bif r then .ret else .normal) (bif r then qA false else hT (g.nodes.map Node.e) i (g.nodes.map Node.e) g.az g.cap x.kind x.a x.b (x.outs.map a') ((j+1:Nat):Int)):=by
 have a6:=a8 hk;have al:x.outs.length<=2:=by grind[aL]
 have lc:ap k 0 7=true:=KA (by grind[aL]) (eA hk);have dh:x.outs[(j:Int).toNat]?=some k:=by simpa using hk
 have ee:decide ((j:Int)<(↑(x.outs.map a').length:Int))=true:=b' a6;rcases cI (decide (k>=(↑(g.nodes.map Node.e).length:Int))) with h1 | h1
 ·skip
  obtain rfl:r=true:=by rw[<-aA];grind[fX,hU,ap]
  exact apb ⟨ee,(by grind[ap,ay,aL]),(by grind[ap,ay,aL]),(bH a' dh),h1,aa⟩
 skip
 obtain⟨fc,kO⟩:=look (xs:=g.nodes) (i:=k) (by grind[ap,ay,aL]) (by grind[ap,ay,aL]);rcases cI (x.kind==7) with aw | aw
 ·skip
  rcases cI (decide (k>(i:Int))) with aH | aH
  ·skip
   obtain rfl:r=true:=by rw[<-aA];grind[fX,hU,ap]
   exact aoC ⟨ee,(by grind[ap,ay,aL]),(by grind[ap,ay,aL]),(bH a' dh),h1,(by grind[ap,ay,aL]),(by grind[ap,ay,aL]),(bH Node.e kO),aw,aH,aa⟩
  skip
  rcases cI (fc.kind != 5) with aU | aU
  ·skip
   rcases cI (fc.kind != 6) with bA | bA
   ·skip
    obtain rfl:r=true:=by rw[<-aA];grind[fX,hU,ap]
    exact aoD ⟨ee,(by grind[ap,ay,aL]),(by grind[ap,ay,aL]),(bH a' dh),h1,(by grind[ap,ay,aL]),(by grind[ap,ay,aL]),(bH Node.e kO),aw,aH,aU,bA,aa⟩
   skip
   rcases cI (x.kind != 7) with bP | bP
   ·skip
    rcases cI (decide (k<=(i:Int))) with c' | c'
    ·skip
     obtain rfl:r=true:=by rw[<-aA];grind[fX,hU,ap]
     exact aoE ⟨ee,(by grind[ap,ay,aL]),(by grind[ap,ay,aL]),(bH a' dh),h1,(by grind[ap,ay,aL]),(by grind[ap,ay,aL]),(bH Node.e kO),aw,aH,aU,bA,bP,c',aa⟩
    skip
    obtain rfl:r=false:=by rw[<-aA];grind[fX,hU,ap]
    exact aoF ⟨ee,(by grind[ap,ay,aL]),(by grind[ap,ay,aL]),(bH a' dh),h1,(by grind[ap,ay,aL]),(by grind[ap,ay,aL]),(bH Node.e kO),aw,aH,aU,bA,bP,c',(by grind[ap,ay,aL]),aa⟩
   skip
   obtain rfl:r=false:=by rw[<-aA];grind[fX,hU,ap]
   exact aoG ⟨ee,(by grind[ap,ay,aL]),(by grind[ap,ay,aL]),(bH a' dh),h1,(by grind[ap,ay,aL]),(by grind[ap,ay,aL]),(bH Node.e kO),aw,aH,aU,bA,bP,(by grind[ap,ay,aL]),aa⟩
  skip
  rcases cI (x.kind != 7) with dS | dS
  ·skip
   rcases cI (decide (k<=(i:Int))) with dF | dF
   ·skip
    obtain rfl:r=true:=by rw[<-aA];grind[fX,hU,ap]
    exact aoH ⟨ee,(by grind[ap,ay,aL]),(by grind[ap,ay,aL]),(bH a' dh),h1,(by grind[ap,ay,aL]),(by grind[ap,ay,aL]),(bH Node.e kO),aw,aH,aU,dS,dF,aa⟩
   skip
   obtain rfl:r=false:=by rw[<-aA];grind[fX,hU,ap]
   exact aoI ⟨ee,(by grind[ap,ay,aL]),(by grind[ap,ay,aL]),(bH a' dh),h1,(by grind[ap,ay,aL]),(by grind[ap,ay,aL]),(bH Node.e kO),aw,aH,aU,dS,dF,(by grind[ap,ay,aL]),aa⟩
  skip
  obtain rfl:r=false:=by rw[<-aA];grind[fX,hU,ap]
  exact aoJ ⟨ee,(by grind[ap,ay,aL]),(by grind[ap,ay,aL]),(bH a' dh),h1,(by grind[ap,ay,aL]),(by grind[ap,ay,aL]),(bH Node.e kO),aw,aH,aU,dS,(by grind[ap,ay,aL]),aa⟩
 skip
 rcases cI (x.kind != 7) with hL | hL
 ·skip
  rcases cI (decide (k<=(i:Int))) with h4 | h4
  ·skip
   obtain rfl:r=true:=by rw[<-aA];grind[fX,hU,ap]
   exact aoK ⟨ee,(by grind[ap,ay,aL]),(by grind[ap,ay,aL]),(bH a' dh),h1,(by grind[ap,ay,aL]),(by grind[ap,ay,aL]),(bH Node.e kO),aw,hL,h4,aa⟩
  skip
  obtain rfl:r=false:=by rw[<-aA];grind[fX,hU,ap]
  exact aoL ⟨ee,(by grind[ap,ay,aL]),(by grind[ap,ay,aL]),(bH a' dh),h1,(by grind[ap,ay,aL]),(by grind[ap,ay,aL]),(bH Node.e kO),aw,hL,h4,(by grind[ap,ay,aL]),aa⟩
 skip
 obtain rfl:r=false:=by rw[<-aA];grind[fX,hU,ap]
 exact aqd ⟨ee,(by grind[ap,ay,aL]),(by grind[ap,ay,aL]),(bH a' dh),h1,(by grind[ap,ay,aL]),(by grind[ap,ay,aL]),(bH Node.e kO),aw,hL,(by grind[ap,ay,aL]),aa⟩
theorem Zx(g:bX)(au:g.sz<=8388608)(i:Nat)(hi:i<8)(x:Node)(ag:g.nodes[i]?=some x)(cJ:aL x=true):
  (x.outs.any (fX g i x)=true/\c3 prog (aq f121 1) (hS i (g.nodes.map Node.e) g.az g.cap x.kind x.a x.b (x.outs.map a') 0) .ret (qz false))\/(x.outs.any (fX g i x)=false/\c3 prog (aq f121 1) (hS i (g.nodes.map Node.e) g.az g.cap x.kind x.a x.b (x.outs.map a') 0) (.exit 2) (Kt i (g.nodes.map Node.e) g.az g.cap)):=by
 have l:=gN (P:=prog) (c:=(aq f121 1)) x.outs (fX g i x) (fun j=>hS i (g.nodes.map Node.e) g.az g.cap x.kind x.a x.b (x.outs.map a') j) (X:=fun _ _=>qz false) fg (cM 2)
  (fun j k hk h=>Q7 g au i hi x ag cJ j k hk false h)
  (fun j k hk h=>Q7 g au i hi x ag cJ j k hk true h)
  (ao0 ⟨dG,aa⟩)
 rcases l with⟨_,_,h1,U⟩ | ⟨j,k,_,_,_,_,h1,U⟩
 ·exact .inr ⟨h1,U⟩
 exact .inl ⟨h1,U⟩
theorem Zy(g:bX)(au:g.sz<=8388608)(i:Nat)(hi:i<8)(x:Node)(ag:g.nodes[i]?=some x)(cJ:aL x=true):
  (x.outs.any (fX g i x)=true/\c3 prog (aq f179 1) (hT (g.nodes.map Node.e) i (g.nodes.map Node.e) g.az g.cap x.kind x.a x.b (x.outs.map a') 0) .ret (qA false))\/(x.outs.any (fX g i x)=false/\c3 prog (aq f179 1) (hT (g.nodes.map Node.e) i (g.nodes.map Node.e) g.az g.cap x.kind x.a x.b (x.outs.map a') 0) (.exit 2) (Kv (g.nodes.map Node.e) i (g.nodes.map Node.e) g.az g.cap)):=by
 have l:=gN (P:=prog) (c:=(aq f179 1)) x.outs (fX g i x) (fun j=>hT (g.nodes.map Node.e) i (g.nodes.map Node.e) g.az g.cap x.kind x.a x.b (x.outs.map a') j) (X:=fun _ _=>qA false) fg (cM 2)
  (fun j k hk h=>Q8 g au i hi x ag cJ j k hk false h)
  (fun j k hk h=>Q8 g au i hi x ag cJ j k hk true h)
  (aqe ⟨dG,aa⟩)
 rcases l with⟨_,_,h1,U⟩ | ⟨j,k,_,_,_,_,h1,U⟩
 ·exact .inr ⟨h1,U⟩
 exact .inl ⟨h1,U⟩
theorem Q9(g:bX)(au:g.sz<=8388608)(i:Nat)(hi:i<8)(x:Node)(ag:g.nodes[i]?=some x)(r:Bool)(aA:iR g i x=r):gl prog (aq f121 0) (nT ((i:Nat):Int) (g.nodes.map Node.e) g.az g.cap) (bif r then .ret else .normal) (bif r then va false else nT ((i+1:Nat):Int) (g.nodes.map Node.e) g.az g.cap):=by
 have a6:=a8 ag;have aZ:=bX.zk au (eA ag);have dh:g.nodes[(i:Int).toNat]?=some x:=by simpa using ag
 have ee:decide ((i:Int)<(↑(g.nodes.map Node.e).length:Int))=true:=b' a6;have c1:=Q5 x (by grind);rcases cI (aL x) with U | U
 ·skip
  rcases cI ((x.kind==1)==((i:Int)==0)) with aw | aw
  ·skip
   rcases Zx g au i hi x ag (by grind) with⟨cw,l⟩ | ⟨cw,l⟩
   ·skip
    obtain rfl:r=true:=by rw[<-aA];grind[iR]
    exact ao1 ⟨ee,(by grind[ap,ay,aL]),(by grind[ap,ay,aL]),(bH Node.e dh),c1,(by rw[U];rfl),(by rw[aw];rfl),l,aa⟩
   skip
   obtain rfl:r=false:=by rw[<-aA];grind[iR]
   exact ao2 ⟨ee,(by grind[ap,ay,aL]),(by grind[ap,ay,aL]),(bH Node.e dh),c1,(by rw[U];rfl),(by rw[aw];rfl),l,(by grind[ap,ay,aL]),aa⟩
  skip
  obtain rfl:r=true:=by rw[<-aA];grind[iR]
  exact aoN ⟨ee,(by grind[ap,ay,aL]),(by grind[ap,ay,aL]),(bH Node.e dh),c1,(by rw[U];rfl),(by rw[aw];rfl),aa⟩
 skip
 obtain rfl:r=true:=by rw[<-aA];grind[iR]
 exact aoM ⟨ee,(by grind[ap,ay,aL]),(by grind[ap,ay,aL]),(bH Node.e dh),c1,(by rw[U];rfl),aa⟩
theorem Q'(g:bX)(au:g.sz<=8388608)(i:Nat)(hi:i<8)(x:Node)(ag:g.nodes[i]?=some x)(r:Bool)(aA:iR g i x=r):gl prog (aq f179 0) (nU (g.nodes.map Node.e) ((i:Nat):Int) (g.nodes.map Node.e) g.az g.cap) (bif r then .ret else .normal) (bif r then vb false else nU (g.nodes.map Node.e) ((i+1:Nat):Int) (g.nodes.map Node.e) g.az g.cap):=by
 have a6:=a8 ag;have aZ:=bX.zk au (eA ag);have dh:g.nodes[(i:Int).toNat]?=some x:=by simpa using ag
 have ee:decide ((i:Int)<(↑(g.nodes.map Node.e).length:Int))=true:=b' a6;have c1:=Q6 x (by grind);rcases cI (aL x) with U | U
 ·skip
  rcases cI ((x.kind==1)==((i:Int)==0)) with aw | aw
  ·skip
   rcases Zy g au i hi x ag (by grind) with⟨cw,l⟩ | ⟨cw,l⟩
   ·skip
    obtain rfl:r=true:=by rw[<-aA];grind[iR]
    exact aqf ⟨ee,(by grind[ap,ay,aL]),(by grind[ap,ay,aL]),(bH Node.e dh),c1,(by rw[U];rfl),(by rw[aw];rfl),l,aa⟩
   skip
   obtain rfl:r=false:=by rw[<-aA];grind[iR]
   exact aqg ⟨ee,(by grind[ap,ay,aL]),(by grind[ap,ay,aL]),(bH Node.e dh),c1,(by rw[U];rfl),(by rw[aw];rfl),l,(by grind[ap,ay,aL]),aa⟩
  skip
  obtain rfl:r=true:=by rw[<-aA];grind[iR]
  exact apa ⟨ee,(by grind[ap,ay,aL]),(by grind[ap,ay,aL]),(bH Node.e dh),c1,(by rw[U];rfl),(by rw[aw];rfl),aa⟩
 skip
 obtain rfl:r=true:=by rw[<-aA];grind[iR]
 exact ao9 ⟨ee,(by grind[ap,ay,aL]),(by grind[ap,ay,aL]),(bH Node.e dh),c1,(by rw[U];rfl),aa⟩
theorem Zz(g:bX)(au:g.sz<=8388608)(c':g.nodes.length<=8):
  (anyI (iR g) 0 g.nodes=true/\c3 prog (aq f121 0) (nT 0 (g.nodes.map Node.e) g.az g.cap) .ret (va false))\/(anyI (iR g) 0 g.nodes=false/\c3 prog (aq f121 0) (nT 0 (g.nodes.map Node.e) g.az g.cap) (.exit 0) Ku):=by
 have l:=tw (P:=prog) (c:=(aq f121 0)) g.nodes (iR g) (fun i=>nT (i:Nat) (g.nodes.map Node.e) g.az g.cap) (X:=va false) fg (cM 0)
  (fun i x ag h=>Q9 g au i (by have:=a8 ag;omega) x ag false h)
  (fun i x ag h=>Q9 g au i (by have:=a8 ag;omega) x ag true h)
  (ao3 ⟨dG,aa⟩)
 rcases l with⟨h1,U⟩ | ⟨h1,U⟩
 ·exact .inr ⟨h1,U⟩
 exact .inl ⟨h1,U⟩
theorem ZA(g:bX)(au:g.sz<=8388608)(c':g.nodes.length<=8):
  (anyI (iR g) 0 g.nodes=true/\c3 prog (aq f179 0) (nU (g.nodes.map Node.e) 0 (g.nodes.map Node.e) g.az g.cap) .ret (vb false))\/(anyI (iR g) 0 g.nodes=false/\c3 prog (aq f179 0) (nU (g.nodes.map Node.e) 0 (g.nodes.map Node.e) g.az g.cap) (.exit 0) Kw):=by
 have l:=tw (P:=prog) (c:=(aq f179 0)) g.nodes (iR g) (fun i=>nU (g.nodes.map Node.e) (i:Nat) (g.nodes.map Node.e) g.az g.cap) (X:=vb false) fg (cM 0)
  (fun i x ag h=>Q' g au i (by have:=a8 ag;omega) x ag false h)
  (fun i x ag h=>Q' g au i (by have:=a8 ag;omega) x ag true h)
  (aqh ⟨dG,aa⟩)
 rcases l with⟨h1,U⟩ | ⟨h1,U⟩
 ·exact .inr ⟨h1,U⟩
 exact .inl ⟨h1,U⟩
theorem xB(g:bX)(au:g.sz<=8388608):av 121 [.agg g.e] [.one (B (eg g))]:=by
 have c1:=ic (↑(g.nodes.map Node.e).length:Int) 1 8;rcases cI (ap (↑(g.nodes.map Node.e).length:Int) 1 8) with U | U
 ·skip
  have cA:=ic g.az 1 4;rcases cI (ap g.az 1 4) with aH | aH
  ·skip
   have ga:=ic g.cap 1 4;rcases cI (ap g.cap 1 4) with bA | bA
   ·skip
    rcases Zz g au (by grind[ap]) with⟨cw,l⟩ | ⟨cw,l⟩
    ·skip
     rw[show eg g=false from by grind[eg]];exact ao4 ⟨c1,(by rw[U];rfl),cA,(by rw[aH];rfl),ga,(by rw[bA];rfl),l,aa⟩
    skip
    rw[show eg g=true from by grind[eg]];exact ao5 ⟨c1,(by rw[U];rfl),cA,(by rw[aH];rfl),ga,(by rw[bA];rfl),l,aa⟩
   skip
   rw[show eg g=false from by grind[eg]];exact apC ⟨c1,(by rw[U];rfl),cA,(by rw[aH];rfl),ga,(by rw[bA];rfl),aa⟩
  skip
  rw[show eg g=false from by grind[eg]];exact apB ⟨c1,(by rw[U];rfl),cA,(by rw[aH];rfl),aa⟩
 skip
 rw[show eg g=false from by grind[eg]];exact apA ⟨c1,(by rw[U];rfl),aa⟩
theorem xC(g:bX)(au:g.sz<=8388608):av 179 [.agg g.e] [.one (B (eg g))]:=by
 have c1:=kk (↑(g.nodes.map Node.e).length:Int) 1 8;rcases cI (ap (↑(g.nodes.map Node.e).length:Int) 1 8) with U | U
 ·skip
  have cA:=kk g.az 1 4;rcases cI (ap g.az 1 4) with aH | aH
  ·skip
   have ga:=kk g.cap 1 4;rcases cI (ap g.cap 1 4) with bA | bA
   ·skip
    rcases ZA g au (by grind[ap]) with⟨cw,l⟩ | ⟨cw,l⟩
    ·skip
     rw[show eg g=false from by grind[eg]];exact aqi ⟨c1,(by rw[U];rfl),cA,(by rw[aH];rfl),ga,(by rw[bA];rfl),l,aa⟩
    skip
    rw[show eg g=true from by grind[eg]];exact aqj ⟨c1,(by rw[U];rfl),cA,(by rw[aH];rfl),ga,(by rw[bA];rfl),l,aa⟩
   skip
   rw[show eg g=false from by grind[eg]];exact ao8 ⟨c1,(by rw[U];rfl),cA,(by rw[aH];rfl),ga,(by rw[bA];rfl),aa⟩
  skip
  rw[show eg g=false from by grind[eg]];exact ao7 ⟨c1,(by rw[U];rfl),cA,(by rw[aH];rfl),aa⟩
 skip
 rw[show eg g=false from by grind[eg]];exact ao6 ⟨c1,(by rw[U];rfl),aa⟩
theorem ZB(x:Node)(k v:Int)(ag:x.outs.length<=8388608):av 267 [.agg x.e,.one (I k),.one (I v)] [.one (I ((cP x k v).1)),.one (I ((cP x k v).2.1)),.one (B ((cP x k v).2.2))]:=by
 have c1:=Q5 x (by grind);rcases cI (aL x) with U | U
 ·skip
  have cA:=ic k 0 99;rcases cI (ap k 0 99) with aH | aH
  ·skip
   have ga:=ic v 0 999;rcases cI (ap v 0 999) with bA | bA
   ·skip
    rcases cI (x.kind==2) with bP | bP
    ·skip
     have lI:=Zw (v+x.a) 999;rw[show cP x k v=(k,less (v+x.a) 999,true) from by grind[cP,eZ,less,aL,bL]];exact apO ⟨c1,(by rw[U];rfl),cA,(by rw[aH];rfl),ga,(by rw[bA];rfl),bP,(by grind[aL,bL,ap,ay,eZ]),lI,aa⟩
    skip
    rcases cI (x.kind==4) with dS | dS
    ·skip
     rw[show cP x k v=((k+x.a).tmod 100,v,true) from by grind[cP,eZ,less,aL,bL]];exact apP ⟨c1,(by rw[U];rfl),cA,(by rw[aH];rfl),ga,(by rw[bA];rfl),bP,dS,(by grind[aL,bL,ap,ay,eZ]),(by grind[aL,bL,ap,ay,eZ]),aa⟩
    skip
    rcases cI (x.kind==3) with dF | dF
    ·skip
     rw[show cP x k v=(k,v,k.tmod x.a==x.b) from by grind[cP,eZ,less,aL,bL]];exact apQ ⟨c1,(by rw[U];rfl),cA,(by rw[aH];rfl),ga,(by rw[bA];rfl),bP,dS,dF,(by grind[aL,bL,ap,ay,eZ]),aa⟩
    skip
    rw[show cP x k v=(k,v,x.kind != 8) from by grind[cP,eZ,less,aL,bL]];exact apR ⟨c1,(by rw[U];rfl),cA,(by rw[aH];rfl),ga,(by rw[bA];rfl),bP,dS,dF,aa⟩
   skip
   rw[show cP x k v=(k,v,false) from by grind[cP,eZ,less,aL,bL]];exact apN ⟨c1,(by rw[U];rfl),cA,(by rw[aH];rfl),ga,(by rw[bA];rfl),aa⟩
  skip
  rw[show cP x k v=(k,v,false) from by grind[cP,eZ,less,aL,bL]];exact aqC ⟨c1,(by rw[U];rfl),cA,(by rw[aH];rfl),aa⟩
 skip
 rw[show cP x k v=(k,v,false) from by grind[cP,eZ,less,aL,bL]];exact aqB ⟨c1,(by rw[U];rfl),aa⟩
theorem ZC(x:Node)(k v:Int)(ag:x.outs.length<=8388608):av 298 [.agg x.e,.one (I k),.one (I v)] [.one (I ((cP x k v).1)),.one (I ((cP x k v).2.1)),.one (B ((cP x k v).2.2))]:=by
 have c1:=Q6 x (by grind);rcases cI (aL x) with U | U
 ·skip
  have cA:=Q4 k v;rcases cI (eZ k v) with aH | aH
  ·skip
   rcases cI (x.kind==2) with aU | aU
   ·skip
    rw[show cP x k v=(k,if v+x.a<999 then v+x.a else 999,true) from by grind[cP,eZ,less,aL,bL]];exact apU ⟨c1,(by rw[U];rfl),cA,(by rw[aH];rfl),aU,(by grind[aL,bL,ap,ay,eZ]),aa⟩
   skip
   rcases cI (x.kind==4) with bA | bA
   ·skip
    rw[show cP x k v=((k+x.a).tmod 100,v,true) from by grind[cP,eZ,less,aL,bL]];exact apV ⟨c1,(by rw[U];rfl),cA,(by rw[aH];rfl),aU,bA,(by grind[aL,bL,ap,ay,eZ]),(by grind[aL,bL,ap,ay,eZ]),aa⟩
   skip
   rcases cI (x.kind==3) with bP | bP
   ·skip
    rw[show cP x k v=(k,v,k.tmod x.a==x.b) from by grind[cP,eZ,less,aL,bL]];exact apW ⟨c1,(by rw[U];rfl),cA,(by rw[aH];rfl),aU,bA,bP,(by grind[aL,bL,ap,ay,eZ]),aa⟩
   skip
   rw[show cP x k v=(k,v,x.kind != 8) from by grind[cP,eZ,less,aL,bL]];exact apX ⟨c1,(by rw[U];rfl),cA,(by rw[aH];rfl),aU,bA,bP,aa⟩
  skip
  rw[show cP x k v=(k,v,false) from by grind[cP,eZ,less,aL,bL]];exact apT ⟨c1,(by rw[U];rfl),cA,(by rw[aH];rfl),aa⟩
 skip
 rw[show cP x k v=(k,v,false) from by grind[cP,eZ,less,aL,bL]];exact apS ⟨c1,(by rw[U];rfl),aa⟩
def eR(a b:Cell):Bool:=a.op==b.op&&a.bc==b.bc&&a.key==b.key
def hc(op cE key:Int)(s:Int×Bool)(a:Cell):Int×Bool:=if a.op=op/\a.bc=cE/\a.key=key/\(s.2=false\/a.val<s.1) then (a.val,true) else s
def pU(xs:List Cell)(op cE key:Int):Int×Bool:=xs.foldl (hc op cE key) (0,false)
theorem Ra(a b:Cell):av 347 [.agg a.e,.agg b.e] [.one (B (eR a b))]:=by
 rcases cI (a.op==b.op) with h1 | h1
 ·skip
  rcases cI (a.bc==b.bc) with U | U
  ·skip
   rw[show eR a b=(a.key==b.key) from by grind[eR]];exact amI ⟨h1,U,aa⟩
  skip
  rw[show eR a b=false from by grind[eR]];exact aoc ⟨h1,U,aa⟩
 skip
 rw[show eR a b=false from by grind[eR]];exact aod ⟨h1,aa⟩
theorem ZD(xs:List Cell)(al:xs.length<=8388608)(op cE key m:Int)(f:Bool)(i:Nat)(a:Cell)(ah:xs[i]?=some a):gl prog (aq f324 0) (kV (xs.map Cell.e) op cE key i f m) .normal (kV (xs.map Cell.e) op cE key ((i+1:Nat):Int) (hc op cE key (m,f) a).2 (hc op cE key (m,f) a).1):=by
 have a6:=a8 ah;have dh:xs[(i:Int).toNat]?=some a:=by simpa using ah
 have ee:decide ((i:Int)<(↑(xs.map Cell.e).length:Int))=true:=b' a6;rcases cI (a.op==op) with h1 | h1
 ·skip
  rcases cI (a.bc==cE) with U | U
  ·skip
   rcases cI (a.key==key) with aw | aw
   ·skip
    rcases cI (f) with aH | aH
    ·skip
     rcases cI (decide (a.val<m)) with aU | aU
     ·skip
      rw[show hc op cE key (m,f) a=(a.val,true) from by grind[hc,eR]];exact anZ ⟨ee,(by grind[ay]),(by grind[ay]),(bH Cell.e dh),h1,U,aw,(by rw[aH];rfl),aU,(by grind[ay]),aa⟩
     skip
     rw[show hc op cE key (m,f) a=(m,f) from by grind[hc,eR]];exact an0 ⟨ee,(by grind[ay]),(by grind[ay]),(bH Cell.e dh),h1,U,aw,(by rw[aH];rfl),aU,(by grind[ay]),aa⟩
    skip
    rw[show hc op cE key (m,f) a=(a.val,true) from by grind[hc,eR]];exact anY ⟨ee,(by grind[ay]),(by grind[ay]),(bH Cell.e dh),h1,U,aw,(by rw[aH];rfl),(by grind[ay]),aa⟩
   skip
   rw[show hc op cE key (m,f) a=(m,f) from by grind[hc,eR]];exact an1 ⟨ee,(by grind[ay]),(by grind[ay]),(bH Cell.e dh),h1,U,aw,(by grind[ay]),aa⟩
  skip
  rw[show hc op cE key (m,f) a=(m,f) from by grind[hc,eR]];exact an2 ⟨ee,(by grind[ay]),(by grind[ay]),(bH Cell.e dh),h1,U,(by grind[ay]),aa⟩
 skip
 rw[show hc op cE key (m,f) a=(m,f) from by grind[hc,eR]];exact an3 ⟨ee,(by grind[ay]),(by grind[ay]),(bH Cell.e dh),h1,(by grind[ay]),aa⟩
theorem ZE(xs:List Cell)(al:xs.length<=8388608)(op cE key m:Int)(f:Bool)(i:Nat)(a:Cell)(ah:xs[i]?=some a):gl prog (aq f344 0) (nR (xs.map Cell.e) op cE key i f m) .normal (nR (xs.map Cell.e) op cE key ((i+1:Nat):Int) (hc op cE key (m,f) a).2 (hc op cE key (m,f) a).1):=by
 have a6:=a8 ah;have dh:xs[(i:Int).toNat]?=some a:=by simpa using ah
 have ee:decide ((i:Int)<(↑(xs.map Cell.e).length:Int))=true:=b' a6;have c1:=Ra a (⟨op,cE,key,0⟩:Cell);rcases cI (eR a (⟨op,cE,key,0⟩:Cell)) with U | U
 ·skip
  rcases cI (f) with aw | aw
  ·skip
   rcases cI (decide (a.val<m)) with aH | aH
   ·skip
    rw[show hc op cE key (m,f) a=(a.val,true) from by grind[hc,eR]];exact aol ⟨ee,(by grind[ay]),(by grind[ay]),(bH Cell.e dh),c1,U,(by rw[aw];rfl),aH,(by grind[ay]),aa⟩
   skip
   rw[show hc op cE key (m,f) a=(m,f) from by grind[hc,eR]];exact aom ⟨ee,(by grind[ay]),(by grind[ay]),(bH Cell.e dh),c1,U,(by rw[aw];rfl),aH,(by grind[ay]),aa⟩
  skip
  rw[show hc op cE key (m,f) a=(a.val,true) from by grind[hc,eR]];exact aok ⟨ee,(by grind[ay]),(by grind[ay]),(bH Cell.e dh),c1,U,(by rw[aw];rfl),(by grind[ay]),aa⟩
 skip
 rw[show hc op cE key (m,f) a=(m,f) from by grind[hc,eR]];exact aon ⟨ee,(by grind[ay]),(by grind[ay]),(bH Cell.e dh),c1,U,(by grind[ay]),aa⟩
theorem Rb(xs:List Cell)(op cE key:Int)(al:xs.length<=8388608):av 324 [.one (.J 4 (xs.map Cell.e)),.one (I op),.one (I cE),.one (I key)] [.one (I (pU xs op cE key).1),.one (B (pU xs op cE key).2)]:=by
 have l:=eY (P:=prog) (c:=(aq f324 0)) (cM 0) xs.length (fun i:Nat=>kV (xs.map Cell.e) op cE key i (r4 (hc op cE key) (0,false) xs i).2 (r4 (hc op cE key) (0,false) xs i).1) (fun i hi=>by
  obtain⟨a,ah⟩:=c0 hi;rw[PW ah];exact ZD xs al op cE key _ _ i a ah) (an4 ⟨dG,aa⟩)
 rw[PX]at l;exact an5 ⟨l,aa⟩
theorem ZF(xs:List Cell)(op cE key:Int)(al:xs.length<=8388608):av 344 [.one (.J 4 (xs.map Cell.e)),.one (I op),.one (I cE),.one (I key)] [.one (I (pU xs op cE key).1),.one (B (pU xs op cE key).2)]:=by
 have l:=eY (P:=prog) (c:=(aq f344 0)) (cM 0) xs.length (fun i:Nat=>nR (xs.map Cell.e) op cE key i (r4 (hc op cE key) (0,false) xs i).2 (r4 (hc op cE key) (0,false) xs i).1) (fun i hi=>by
  obtain⟨a,ah⟩:=c0 hi;rw[PW ah];exact ZE xs al op cE key _ _ i a ah) (aoo ⟨dG,aa⟩)
 rw[PX]at l;exact aop ⟨l,aa⟩
