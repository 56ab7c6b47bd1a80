import Derived.Test.YtdchjefneblpgaaGreatP18
import Derived.Test.YtdchjefneblpgaaGreatGU
set_option linter.unusedVariables false
set_option linter.unusedSimpArgs false
namespace Go.Proofs.YtdchjefneblpgaaGreat
open Go.Sx Go.RowKit Go.Proofs.Tryz
variable{c:aU}
theorem aU.aaV(h:c.sz<=8388608):c.bK.length<=8388608:=by simp only[aU.sz,iV]at h;omega
def vB(l:bt):Bool:=ap l.eC 0 l.cap&&ap l.back 0 l.cap&&decide (l.eC+l.back+l.queue.length=l.cap)
theorem aU.JP(h:c.wf){l:bt}(aj:l∈c.bK):l.wf:=h.aaW.2 l aj
structure DE (c:aU):Prop where
 n:aC .i64 c.ay.aq
 l:∀l∈c.bK,aC .i64 l.cap/\l.dZ<=9223372036854775807
theorem DE.of(h:c.wf):DE c:=⟨h.Yy.Wi,fun l aj=>⟨(aU.JP h aj).OT,(aU.JP h aj).O6.2⟩⟩
theorem aU.y1(h:c.sz<=8388608){l:bt}(aj:l∈c.bK):l.sz<=8388608:=by
 have:=F5 (sz:=bt.sz) (xs:=c.bK) (m:=8388608) (by simp only[aU.sz]at h;omega) aj;exact this
theorem afw(c:aU)(af:c.sz<=8388608)(hw:DE c):aw 42 [.agg c.e] [.one (B (c.bK.all vB))]:=by
 have aj:=aU.aaV af
 let st:=fun i:Nat=>tX i (c.ay.nodes.map Node.e) c.ay.aq c.ay.cap (c.aq.map aL.e) (c.bK.map bt.e) (c.tokens.map bQ.e) (c.news.map bT.e)
 have step:∀i,i<c.bK.length->(∀b,c.bK[i]?=some b->vB b=true)->gA prog (av f42 0) (st i) .normal (st (i+1)):=by
  intro i hi h;obtain⟨a,ad⟩:=dm hi;have h:=h a ad;have aA:=aU.y1 af (cG ad);have I':=hw.l _ (cG ad);have f':=I'.1;simp only[vB,ap,b8,b']at h;simp only[aC]at f';simp only[bt.sz]at aA;have e:IntKind.i64.wrap (IntKind.i64.wrap (a.eC+a.back)+(a.queue.length:Int))=a.cap:=by simp only[IntKind.wrap_i64];omega
  refine acJ ⟨b4 hi,bH,bL hi,bI bt.e ad,fe true (by simp[ap];omega),rfl,fe true (by simp[ap];omega),rfl,?_,du hi aj,ae⟩;rw[bk,e];simp
 rcases SC vB c.bK with h1 | ⟨i,a,ad,U,aF⟩
 ·rw[fW.2 h1];have l:=eR (cL 0) c.bK.length st (fun i hi=>step i hi fun b ao=>h1 b (cG ao)) (acK ⟨ec,ae⟩);exact acM ⟨l,ae⟩
 have hY:c.bK.all vB=false:=List.all_eq_false.2 ⟨a,cG ad,by simp[U]⟩;rw[hY];have hi:=aX ad;have out:gA prog (av f42 0) (st i) .ret (Bx false):=by
  have aA:=aU.y1 af (cG ad);have I':=hw.l _ (cG ad);have f':=I'.1;simp only[aC]at f';simp only[bt.sz]at aA;by_cases aQ:ap a.eC 0 a.cap=true
  case neg=>exact acG ⟨b4 hi,bH,bL hi,bI bt.e ad,fe false (by simpa using aQ),rfl,ae⟩
  by_cases bb:ap a.back 0 a.cap=true
  case neg=>exact acH ⟨b4 hi,bH,bL hi,bI bt.e ad,fe true aQ,rfl,fe false (by simpa using bb),rfl,ae⟩
  have bN:¬(a.eC+a.back+a.queue.length=a.cap):=by
   intro e;simp[vB,aQ,bb,e]at U
  refine acI ⟨b4 hi,bH,bL hi,bI bt.e ad,fe true aQ,rfl,fe true bb,rfl,?_,ae⟩;simp only[ap,b']at aQ bb;have e:¬IntKind.i64.wrap (IntKind.i64.wrap (a.eC+a.back)+(a.queue.length:Int))=a.cap:=by simp only[IntKind.wrap_i64];omega
  rw[bk];simp[e]
 have l:=eR fl i st (fun j aP=>step j (by omega) fun b ao=>aF j b aP ao) out;exact acL ⟨l,ae⟩
def oC(e:Int)(l:bt):Nat:=(l3 e l.queue).length
def wj(e n:Int)(w:aL):Int:=if ap e 0 (w.bM.length-1) then Wj (n+w.bM.getD e.toNat 0) else n
def BE(c:aU)(e:Int):Int:=c.aq.foldl (wj e) 0
theorem afx{xs:List Int}{e:Int}(h:ap e 0 (xs.length-1)=true):0<=e/\e<(↑(xs.map ba).length:Int)/\(xs.map ba)[e.toNat]?=some [I (xs.getD e.toNat 0)]:=by
 simp only[ap,b']at h;refine⟨h.1,by rw[bk];omega,?_⟩;have:e.toNat<xs.length:=by omega
 rw[dG,gz this,iF,gz this];rfl
theorem x4{α:Type}{f:Int->α}{xs:List Int}(h:xs.length<=8388608):IntKind.i64.wrap ((↑(xs.map f).length:Int)-1)=(xs.length:Int)-1:=by
 rw[bk];exact aC.wrap ⟨by omega,by omega⟩
theorem afy(c:aU)(e:Int)(af:c.sz<=8388608):aw 41 [.agg c.e,.one (I e)] [.one (I (BE c e))]:=by
 have aj:=aU.x5 af;have l:=eR (P:=prog) (c:=(av f41 0)) (cL 0) c.aq.length (fun i:Nat=>xy (c.ay.nodes.map Node.e) c.ay.aq c.ay.cap (c.aq.map aL.e) (c.bK.map bt.e) (c.tokens.map bQ.e) (c.news.map bT.e) e i (rn (wj e) 0 c.aq i)) (fun i hi=>by
  obtain⟨a,ad⟩:=dm hi;have ai:=aU.x6 af (cG ad);simp only[aL.sz]at ai;rw[KE ad];by_cases h:ap e 0 (a.bM.length-1)=true
  ·obtain⟨h1,U,ax⟩:=afx h;rw[wj,aZ h];exact acN ⟨b4 hi,bH,bL hi,bI aL.e ad,fe true (by rw[x4 (xs:=a.bM) (by omega)];exact h),rfl,bH,bL hi,bI aL.e ad,h1,U,ax,du hi aj,ae⟩
  rw[wj,a6 h];exact acO ⟨b4 hi,bH,bL hi,bI aL.e ad,fe false (by rw[x4 (xs:=a.bM) (by omega)];simpa using h),rfl,du hi aj,ae⟩) (acP ⟨ec,ae⟩)
 rw[KF,ao2]at l;exact ace ⟨l,ae⟩
def eJ(key aq:Int):Int:=if aq<1 then 0 else if key.tmod aq<0 then key.tmod aq+aq else key.tmod aq
theorem L1(a b:Int)(h:0<b):- b<a.tmod b:=by
 rcases Int.le_total 0 a with ad | ad
 ·have:=Int.tmod_nonneg b ad;omega
 have h1:(-a).tmod b<b:=Int.tmod_lt_of_pos _ h;rw[Int.neg_tmod]at h1;omega
theorem SN(key aq:Int)(hw:aq<=9223372036854775807):aw 245 [.one (I key),.one (I aq)] [.one (I (eJ key aq))]:=by
 unfold eJ;split
 ·exact acf ⟨by simpa using ‹aq<1›,ae⟩
 rename_i h;have h1:=L1 key aq (by omega);have U:key.tmod aq<aq:=Int.tmod_lt_of_pos _ (by omega);split
 ·rename_i ax;exact acg ⟨by simp only[lr];omega,by omega,by simpa using ax,⟨by omega,by omega⟩,ae⟩
 rename_i ax;exact ach ⟨by simp only[lr];omega,by omega,by simpa using ax,ae⟩
theorem afz(key aq:Int)(hw:aq<=9223372036854775807):aw 147 [.one (I key),.one (I aq)] [.one (I (eJ key aq))]:=by
 unfold eJ;split
 ·exact aci ⟨by simpa using ‹aq<1›,ae⟩
 rename_i h;have h1:=L1 key aq (by omega);have U:key.tmod aq<aq:=Int.tmod_lt_of_pos _ (by omega);split
 ·rename_i ax;exact acj ⟨by simp only[lr];omega,by omega,by simpa using ax,⟨by omega,by omega⟩,ae⟩
 rename_i ax;exact ack ⟨by simp only[lr];omega,by omega,by simpa using ax,ae⟩
def BF(w n:Int)(r:aE):Bool:=eJ r.key n != w
def HK(n:Int)(i:Nat)(w:aL):Bool:=w.queue.any (BF i n)||w.bZ.any (BF i n)
def HJ(n:Int)(i:Nat)(l:bt):Bool:=decide (n<1)||l.queue.any (BF ((i:Int).tmod n) n)
def SO(c:aU):Bool:=!(anyI (HK c.ay.aq) 0 c.aq)&&!(anyI (HJ c.ay.aq) 0 c.bK)
theorem aL.GH{w:aL}(h:w.sz<=8388608):w.queue.length<=8388608:=by simp only[aL.sz]at h;omega
theorem aL.yX{w:aL}(h:w.sz<=8388608):w.bZ.length<=8388608:=by simp only[aL.sz]at h;omega
end Go.Proofs.YtdchjefneblpgaaGreat
namespace Go.Proofs.YtdchjefneblpgaaGreat
open Go.Sx Go.RowKit Go.Proofs.Tryz
def FG(p:Cell×Cell):Bool:=decide (iO p.1 p.2>=0)
def k0(xs:List Cell):Bool:=!((xs.zip (xs.drop 1)).any FG)
variable{xs:List Cell}
theorem Cn{i:Nat}{p:Cell×Cell}(h:(xs.zip (xs.drop 1))[i]?=some p):xs[i]?=some p.1/\xs[i+1]?=some p.2:=by
 rw[List.getElem?_zip_eq_some]at h;obtain⟨h1,U⟩:=h;rw[gU,Nat.add_comm]at U;exact⟨h1,U⟩
theorem afA(xs:List Cell)(aj:xs.length<=8388608):aw 266 [.one (.J 4 (xs.map Cell.e))] [.one (B (k0 xs))]:=by
 have cc:∀i:Nat,(((i:Int)+1)-1).toNat=i:=fun i=>by omega
 have e1:∀i:Nat,(((i:Int)+1)).toNat=i+1:=fun i=>by omega
 have aW:(xs.zip (xs.drop 1)).length=xs.length-1:=by simp
 have l:=hv (P:=prog) (c:=(av f266 0)) (xs.zip (xs.drop 1)) FG (fun i=>vv (xs.map Cell.e) ((i:Int)+1)) (X:=fun _ _=>ME false) fl (cL 0)
  (fun i a ad h=>by
   obtain⟨h1,U⟩:=Cn ad;have hi:=aX U;refine x2 (vv (xs.map Cell.e)) (acn ⟨dr (by simp only[bk];omega),⟨by omega,by omega⟩,by omega,by simp only[bk];omega,by rw[cc,dG,h1];rfl,by omega,by simp only[bk];omega,by rw[e1,dG,U];rfl,Fp a.1 a.2,h,⟨by omega,by omega⟩,ae⟩) (by omega))
  (fun i a ad h=>by
   obtain⟨h1,U⟩:=Cn ad;have hi:=aX U;exact acm ⟨dr (by simp only[bk];omega),⟨by omega,by omega⟩,by omega,by simp only[bk];omega,by rw[cc,dG,h1];rfl,by omega,by simp only[bk];omega,by rw[e1,dG,U];rfl,Fp a.1 a.2,h,ae⟩)
  (aco ⟨ee (by rw[aW];simp only[bk];omega),ae⟩)
 unfold k0;rcases l with⟨_,_,h1,U⟩ | ⟨i,a,_,_,_,_,h1,U⟩
 ·rw[h1];exact adT ⟨U,ae⟩
 rw[h1];exact adS ⟨U,ae⟩
theorem SP{r:Bool}(h:k0 xs=r)(aj:xs.length<=8388608):aw 266 [.one (.J 4 (xs.map Cell.e))] [.one (B r)]:=h▸afA xs aj
theorem afB(xs:List Cell)(aj:xs.length<=8388608):aw 280 [.one (.J 4 (xs.map Cell.e))] [.one (B (k0 xs))]:=by
 have cc:∀i:Nat,(((i:Int)+1)-1).toNat=i:=fun i=>by omega
 have e1:∀i:Nat,(((i:Int)+1)).toNat=i+1:=fun i=>by omega
 have aW:(xs.zip (xs.drop 1)).length=xs.length-1:=by simp
 have l:=hv (P:=prog) (c:=(av f280 0)) (xs.zip (xs.drop 1)) FG (fun i=>vw (xs.map Cell.e) ((i:Int)+1)) (X:=fun _ _=>LO false) fl (cL 0)
  (fun i a ad h=>by
   obtain⟨h1,U⟩:=Cn ad;have hi:=aX U;refine x2 (vw (xs.map Cell.e)) (adV ⟨dr (by simp only[bk];omega),⟨by omega,by omega⟩,by omega,by simp only[bk];omega,by rw[cc,dG,h1];rfl,by omega,by simp only[bk];omega,by rw[e1,dG,U];rfl,Fo a.1 a.2,h,⟨by omega,by omega⟩,ae⟩) (by omega))
  (fun i a ad h=>by
   obtain⟨h1,U⟩:=Cn ad;have hi:=aX U;exact adU ⟨dr (by simp only[bk];omega),⟨by omega,by omega⟩,by omega,by simp only[bk];omega,by rw[cc,dG,h1];rfl,by omega,by simp only[bk];omega,by rw[e1,dG,U];rfl,Fo a.1 a.2,h,ae⟩)
  (adW ⟨ee (by rw[aW];simp only[bk];omega),ae⟩)
 unfold k0;rcases l with⟨_,_,h1,U⟩ | ⟨i,a,_,_,_,_,h1,U⟩
 ·rw[h1];exact adY ⟨U,ae⟩
 rw[h1];exact adX ⟨U,ae⟩
theorem SQ{r:Bool}(h:k0 xs=r)(aj:xs.length<=8388608):aw 280 [.one (.J 4 (xs.map Cell.e))] [.one (B r)]:=h▸afB xs aj
def kj(g:b0)(r:aE):Bool:=!eD r||decide (r.op>=(g.nodes.length:Int))
def gu(g:b0)(xs:List aE):Bool:=!(xs.any (kj g))
theorem afC{r:aE}(h:eD r=true):0<=r.op:=by
 simp only[eD,b8,ap,b']at h;omega
theorem afD(g:b0)(xs:List aE)(aj:xs.length<=8388608):aw 192 [.agg g.e,.one (.J 5 (xs.map aE.e))] [.one (B (gu g xs))]:=by
 have l:=hv (P:=prog) (c:=(av f192 0)) xs (kj g) (fun i=>vx (g.nodes.map Node.e) g.aq g.cap (xs.map aE.e) i) (X:=fun _ _=>Fx false) fl (cL 0)
  (fun i a ad h=>by
   simp only[kj,fR,jW]at h;have c:=tW a;rw[h.1]at c;exact ad1 ⟨b4 (aX ad),bH,bL (aX ad),bI aE.e ad,c,rfl,bH,bL (aX ad),bI aE.e ad,by rw[bk];exact h.2,du (aX ad) aj,ae⟩)
  (fun i a ad h=>by
   have c:=tW a;cases az:eD a with
   | false=>
    rw[az]at c;exact adZ ⟨b4 (aX ad),bH,bL (aX ad),bI aE.e ad,c,rfl,ae⟩
   | true=>
    rw[az]at c;simp only[kj,az,iu,jY]at h;exact ad0 ⟨b4 (aX ad),bH,bL (aX ad),bI aE.e ad,c,rfl,bH,bL (aX ad),bI aE.e ad,by rw[bk];exact h,ae⟩)
  (ad2 ⟨ec,ae⟩)
 unfold gu;rcases l with⟨_,_,h1,U⟩ | ⟨i,a,_,_,_,_,h1,U⟩
 ·rw[h1];exact ad4 ⟨U,ae⟩
 rw[h1];exact ad3 ⟨U,ae⟩
theorem SR{g:b0}{r:aE}(h:eD r=true):(fK g r.op).isSome=!(decide (r.op>=(g.nodes.length:Int))):=by
 have bl:=afC h;unfold fK;rw[aZ bl];by_cases af:r.op>=(g.nodes.length:Int)
 ·rw[dr af,List.getElem?_eq_none (by omega)];rfl
 rw[ee af,gz (by omega)];rfl
theorem afE(g:b0)(xs:List aE)(ar:g.sz<=8388608)(aj:xs.length<=8388608):aw 189 [.agg g.e,.one (.J 5 (xs.map aE.e))] [.one (B (gu g xs))]:=by
 have l:=hv (P:=prog) (c:=(av f189 0)) xs (kj g) (fun i=>vy (xs.map aE.e) i (g.nodes.map Node.e) g.aq g.cap) (X:=fun _ _=>Fy false) fl (cL 0)
  (fun i a ad h=>by
   simp only[kj,fR,jW]at h;have c:=vp a;rw[h.1]at c;exact ad7 ⟨b4 (aX ad),bH,bL (aX ad),bI aE.e ad,c,rfl,zI g a.op true (by rw[SR h.1,h.2];rfl) ar,rfl,du (aX ad) aj,ae⟩)
  (fun i a ad h=>by
   have c:=vp a;cases az:eD a with
   | false=>
    rw[az]at c;exact ad5 ⟨b4 (aX ad),bH,bL (aX ad),bI aE.e ad,c,rfl,ae⟩
   | true=>
    rw[az]at c;simp only[kj,az,iu,jY]at h;exact ad6 ⟨b4 (aX ad),bH,bL (aX ad),bI aE.e ad,c,rfl,zI g a.op false (by rw[SR az,h];rfl) ar,rfl,ae⟩)
  (ad8 ⟨ec,ae⟩)
 unfold gu;rcases l with⟨_,_,h1,U⟩ | ⟨i,a,_,_,_,_,h1,U⟩
 ·rw[h1];exact aea ⟨U,ae⟩
 rw[h1];exact ad9 ⟨U,ae⟩
theorem xC(g:b0)(xs:List aE)(r:Bool)(h:gu g xs=r)(_:g.sz<=8388608)(aj:xs.length<=8388608):aw 192 [.agg g.e,.one (.J 5 (xs.map aE.e))] [.one (B r)]:=h▸afD g xs aj
theorem xD(g:b0)(xs:List aE)(r:Bool)(h:gu g xs=r)(ar:g.sz<=8388608)(aj:xs.length<=8388608):aw 189 [.agg g.e,.one (.J 5 (xs.map aE.e))] [.one (B r)]:=h▸afE g xs ar aj
def jm(l:bt):Bool:=
 ap l.cap 1 4&&ap l.eC 0 l.cap&&ap l.back 0 l.cap&&(l.eC+l.back+l.queue.length==l.cap)&&ap l.eF 0 1000000000&&decide (0<=l.dZ)&&(l.dZ==l.eF-l.queue.length)&&!(l.queue.any fun r=>!eD r)
theorem afF(xs:List aE)(aj:xs.length<=8388608):aw 282 [.one (.J 5 (xs.map aE.e))] [.one (B (!(xs.any fun r=>!eD r)))]:=by
 have l:=hv (P:=prog) (c:=(av f282 0)) xs (fun r=>!eD r) (fun i=>xz (xs.map aE.e) i) (X:=fun _ _=>LY false) fl (cL 0)
  (fun i a ad h=>aeu ⟨b4 (aX ad),bH,bL (aX ad),bI aE.e ad,vp a,h,du (aX ad) aj,ae⟩)
  (fun i a ad h=>aet ⟨b4 (aX ad),bH,bL (aX ad),bI aE.e ad,vp a,h,ae⟩)
  (aev ⟨ec,ae⟩)
 rcases l with⟨_,_,h1,U⟩ | ⟨i,a,_,_,_,_,h1,U⟩
 ·rw[h1];exact aex ⟨U,ae⟩
 rw[h1];exact aew ⟨U,ae⟩
theorem FH(l:bt)(aj:l.sz<=8388608)(awM:l.dZ<=9223372036854775807):aw 188 [.agg l.e] [.one (B (jm l))]:=by
 have aA:l.queue.length<=8388608:=aj;have c1:=lL l.cap 1 4;have c2:=lL l.eC 0 l.cap;have cH:=lL l.back 0 l.cap;have ez:=lL l.eF 0 1000000000;have gY:=afF l.queue aA;unfold jm;cases h1:ap l.cap 1 4 with
 | false=>rw[h1]at c1;exact afb ⟨c1,rfl,ae⟩
 | true=>
 cases U:ap l.eC 0 l.cap with
 | false=>rw[h1]at c1;rw[U]at c2;exact afc ⟨c1,rfl,c2,rfl,ae⟩
 | true=>
 cases ax:ap l.back 0 l.cap with
 | false=>rw[h1]at c1;rw[U]at c2;rw[ax]at cH;exact afd ⟨c1,rfl,c2,rfl,cH,rfl,ae⟩
 | true=>
 have cy:=h1;have bw:=U;have fc:=ax;simp only[ap,b']at cy bw fc;rw[h1]at c1;rw[U]at c2;rw[ax]at cH;have gw:aC .i64 (l.eC+l.back):=⟨by omega,by omega⟩
 have jU:aC .i64 (l.eC+l.back+(↑(l.queue.map aE.e).length:Int)):=⟨by simp only[bk];omega,by simp only[bk];omega⟩
 cases aF:(l.eC+l.back+(l.queue.length:Int)==l.cap) with
 | false=>exact afe ⟨c1,rfl,c2,rfl,cH,rfl,gw,jU,by rw[bk];simpa using aF,ae⟩
 | true=>
 have v4:(l.eC+l.back+(↑(l.queue.map aE.e).length:Int) != l.cap)=false:=by rw[bk];simpa using aF
 cases aQ:ap l.eF 0 1000000000 with
 | false=>rw[aQ]at ez;exact aff ⟨c1,rfl,c2,rfl,cH,rfl,gw,jU,v4,ez,rfl,ae⟩
 | true=>
 have kb:=aQ;simp only[ap,b']at kb;rw[aQ]at ez;by_cases bb:l.dZ<0
 ·rw[ee (show ¬0<=l.dZ by omega)];exact afg ⟨c1,rfl,c2,rfl,cH,rfl,gw,jU,v4,ez,rfl,dr bb,ae⟩
 rw[dr (show 0<=l.dZ by omega)];have sP:aC .i64 (l.eF-l.dZ):=⟨by omega,by omega⟩
 ·by_cases bN:l.dZ=l.eF-(l.queue.length:Int)
  ·rw[show (l.dZ==l.eF-(l.queue.length:Int))=true from by simpa using bN];exact aes ⟨c1,rfl,c2,rfl,cH,rfl,gw,jU,v4,ez,rfl,ee bb,sP,by rw[bk];simp;omega,gY,ae⟩
  rw[show (l.dZ==l.eF-(l.queue.length:Int))=false from by simpa using bN];exact afh ⟨c1,rfl,c2,rfl,cH,rfl,gw,jU,v4,ez,rfl,ee bb,sP,by rw[bk];simp;omega,ae⟩
theorem FI(l:bt)(aj:l.sz<=8388608):aw 191 [.agg l.e] [.one (B (jm l))]:=by
 have aA:l.queue.length<=8388608:=aj;have aR:=hv (P:=prog) (c:=(av f191 0)) l.queue (fun r=>!eD r) (fun i=>wS l.cap (l.queue.map aE.e) l.eC l.back l.eF l.dZ i) (X:=fun _ _=>LX false) fl (cL 0)
  (fun i a ad h=>ae1 ⟨b4 (aX ad),bH,bL (aX ad),bI aE.e ad,tW a,h,du (aX ad) aA,ae⟩)
  (fun i a ad h=>ae0 ⟨b4 (aX ad),bH,bL (aX ad),bI aE.e ad,tW a,h,ae⟩)
  (ae2 ⟨ec,ae⟩)
 unfold jm;rcases aR with⟨_,_,bl,aR⟩ | ⟨i,a,_,_,_,_,bl,aR⟩
 case inr=>
  rw[bl,iu,Bool.and_false];exact ae3 ⟨aR,ae⟩
 rw[bl,oL,uu];have c1:=jl l.cap 1 4;have c2:=jl l.eC 0 l.cap;have cH:=jl l.back 0 l.cap;have ez:=jl l.eF 0 1000000000;cases h1:ap l.cap 1 4 with
 | false=>rw[h1]at c1;exact afa ⟨aR,c1,rfl,ae⟩
 | true=>
 cases U:ap l.eC 0 l.cap with
 | false=>rw[h1]at c1;rw[U]at c2;exact ae9 ⟨aR,c1,rfl,c2,rfl,ae⟩
 | true=>
 cases ax:ap l.back 0 l.cap with
 | false=>rw[h1]at c1;rw[U]at c2;rw[ax]at cH;exact ae8 ⟨aR,c1,rfl,c2,rfl,cH,rfl,ae⟩
 | true=>
 have cy:=h1;have bw:=U;have fc:=ax;simp only[ap,b']at cy bw fc;rw[h1]at c1;rw[U]at c2;rw[ax]at cH;have gw:aC .i64 (l.eC+l.back):=⟨by omega,by omega⟩
 have jU:aC .i64 (l.eC+l.back+(↑(l.queue.map aE.e).length:Int)):=⟨by simp only[bk];omega,by simp only[bk];omega⟩
 cases aF:(l.eC+l.back+(l.queue.length:Int)==l.cap) with
 | false=>exact ae7 ⟨aR,c1,rfl,c2,rfl,cH,rfl,gw,jU,by rw[bk];exact aF,ae⟩
 | true=>
 have v4:(l.eC+l.back+(↑(l.queue.map aE.e).length:Int)==l.cap)=true:=by rw[bk];exact aF
 cases aQ:ap l.eF 0 1000000000 with
 | false=>rw[aQ]at ez;exact ae6 ⟨aR,c1,rfl,c2,rfl,cH,rfl,gw,jU,v4,ez,rfl,ae⟩
 | true=>
 have kb:=aQ;simp only[ap,b']at kb;rw[aQ]at ez;have sP:aC .i64 (l.eF-(↑(l.queue.map aE.e).length:Int)):=⟨by simp only[bk];omega,by simp only[bk];omega⟩
 cases bN:(l.dZ==l.eF-(l.queue.length:Int)) with
 | false=>
  rw[Bool.and_false];exact ae5 ⟨aR,c1,rfl,c2,rfl,cH,rfl,gw,jU,v4,ez,rfl,sP,by rw[bk];exact bN,ae⟩
 | true=>
  rw[uu];exact ae4 ⟨aR,c1,rfl,c2,rfl,cH,rfl,gw,jU,v4,ez,rfl,sP,by rw[bk];exact bN,ae⟩
end Go.Proofs.YtdchjefneblpgaaGreat
namespace Go.Proofs.YtdchjefneblpgaaGreat
open Go.Sx Go.RowKit Go.Proofs.Tryz
def mm(xs:List aE)(i:Nat)(r:aE):Bool:=
 r.op != 0||r.bh.dh != 0||(match i with | 0=>false | j+1=>match xs[j]? with | some q=>decide (q.bh.a7>r.bh.a7) | none=>false)
theorem SS{xs:List aE}{i:Nat}{a:aE}(ad:xs[i]?=some a)(h:mm xs i a=true):
  (a.op != 0)=true\/((a.op != 0)=false/\(a.bh.dh != 0)=true)\/((a.op != 0)=false/\(a.bh.dh != 0)=false/\∃j b,i=j+1/\xs[j]?=some b/\decide (b.bh.a7>a.bh.a7)=true):=by
 unfold mm at h;cases h1:(a.op != 0) with
 | true=>exact .inl rfl
 | false=>
 cases U:(a.bh.dh != 0) with
 | true=>exact .inr (.inl ⟨rfl,rfl⟩)
 | false=>
 rw[h1,U,jY,jY]at h;cases i with
 | zero=>cases h
 | succ j=>
  have aP:j<xs.length:=by have:=aX ad;omega
  obtain⟨b,ao⟩:=dm aP;simp only[ao]at h;exact .inr (.inr ⟨rfl,rfl,j,b,rfl,ao,h⟩)
theorem SU{xs:List aE}{i:Nat}{a:aE}(ad:xs[i]?=some a)(h:mm xs i a=false):
  (a.op != 0)=false/\(a.bh.dh != 0)=false/\(i=0\/∃j b,i=j+1/\xs[j]?=some b/\decide (b.bh.a7>a.bh.a7)=false):=by
 unfold mm at h;rw[fR,fR]at h;obtain⟨⟨h1,U⟩,h⟩:=h;refine⟨h1,U,?_⟩;cases i with
 | zero=>exact .inl rfl
 | succ j=>
  have aP:j<xs.length:=by have:=aX ad;omega
  obtain⟨b,ao⟩:=dm aP;simp only[ao]at h;exact .inr ⟨j,b,rfl,ao,h⟩
theorem E7{α:Type}(f:α->List D){xs:List α}{j:Nat}{b:α}(h:xs[j]?=some b):(xs.map f)[(((j+1:Nat):Int)-1).toNat]?=some (f b):=by
 rw[show (((j+1:Nat):Int)-1)=(j:Int) by omega];exact bI f h
theorem E8{α β:Type}{f:α->β}{xs:List α}{j:Nat}{b:α}(h:xs[j]?=some b):(((j+1:Nat):Int)-1)<(↑(xs.map f).length:Int):=by
 have:=aX h;rw[bk];omega
def oD(n:Int):Bool:=!ap n (-1000000) 1000000
def l4(xs:List cD)(i:Nat)(d:cD):Bool:=!ap d.a7 0 3||(xs.take i).any (fun q=>q.a7==d.a7)
theorem gl{α β:Type}{f:α->β}{xs:List α}(h:(xs.length==4)=true):((↑(xs.map f).length:Int) != 4)=false:=by
 rw[bk,eq_of_beq h];rfl
theorem u0{α β:Type}{f:α->β}{xs:List α}(h:(xs.length==4)=false):((↑(xs.map f).length:Int) != 4)=true:=by
 rw[bk];have:=ne_of_beq_false h;simp only[bne_iff_ne,fM];omega
def e6(g:b0)(w:aL):Bool:=
 gu g w.queue&&(gu g w.cp&&(gu g w.bZ&&(k0 w.cells&&((w.bM.length==4)&&((w.bV.length==4)&&((w.bm.length==4)&&(!anyI (mm w.bZ) 0 w.bZ&&(!(w.bM.any oD)&&!anyI (l4 w.b1) 0 w.b1))))))))
variable{w:aL}
theorem aL.GQ(h:w.sz<=8388608):w.cp.length<=8388608:=by simp only[aL.sz]at h;omega
theorem aL.DP(h:w.sz<=8388608):w.cells.length<=8388608:=by simp only[aL.sz]at h;omega
theorem aL.Wd(h:w.sz<=8388608):w.bM.length<=8388608:=by simp only[aL.sz]at h;omega
theorem aL.OZ(h:w.sz<=8388608):w.b1.length<=8388608:=by simp only[aL.sz]at h;omega
theorem afG(w:aL)(aj:w.bZ.length<=8388608):
  (anyI (mm w.bZ) 0 w.bZ=false/\c6 prog (av f175 0) (pC (w.queue.map aE.e) (w.cp.map aE.e) (w.bZ.map aE.e) (w.cells.map Cell.e) (w.bM.map ba) (w.bV.map cI) (w.bm.map cI) (w.b1.map cD.e) 0) (.exit 0) (J7 (w.queue.map aE.e) (w.cp.map aE.e) (w.bZ.map aE.e) (w.cells.map Cell.e) (w.bM.map ba) (w.bV.map cI) (w.bm.map cI) (w.b1.map cD.e)))\/
  (anyI (mm w.bZ) 0 w.bZ=true/\c6 prog (av f175 0) (pC (w.queue.map aE.e) (w.cp.map aE.e) (w.bZ.map aE.e) (w.cells.map Cell.e) (w.bM.map ba) (w.bV.map cI) (w.bm.map cI) (w.b1.map cD.e) 0) .ret (By false)):=
 u' (P:=prog) (c:=(av f175 0)) w.bZ (mm w.bZ) (fun i=>pC (w.queue.map aE.e) (w.cp.map aE.e) (w.bZ.map aE.e) (w.cells.map Cell.e) (w.bM.map ba) (w.bV.map cI) (w.bm.map cI) (w.b1.map cD.e) i) fl (cL 0)
  (fun i a ad h=>by
   have hi:=aX ad;obtain⟨h1,U,rfl | ⟨j,b,rfl,ao,ax⟩⟩:=SU ad h
   ·exact adw ⟨b4 (aX ad),bH,bL (aX ad),bI aE.e ad,h1,bH,bL (aX ad),bI aE.e ad,U,ee (by omega),du (aX ad) aj,ae⟩
   exact adv ⟨b4 (aX ad),bH,bL (aX ad),bI aE.e ad,h1,bH,bL (aX ad),bI aE.e ad,U,dr (by omega),⟨by omega,by omega⟩,by omega,E8 ao,E7 aE.e ao,bH,bL (aX ad),bI aE.e ad,ax,du (aX ad) aj,ae⟩)
  (fun i a ad h=>by
   have hi:=aX ad;rcases SS ad h with h1 | ⟨h1,U⟩ | ⟨h1,U,j,b,rfl,ao,ax⟩
   ·exact ads ⟨b4 (aX ad),bH,bL (aX ad),bI aE.e ad,h1,ae⟩
   ·exact adt ⟨b4 (aX ad),bH,bL (aX ad),bI aE.e ad,h1,bH,bL (aX ad),bI aE.e ad,U,ae⟩
   exact adu ⟨b4 (aX ad),bH,bL (aX ad),bI aE.e ad,h1,bH,bL (aX ad),bI aE.e ad,U,dr (by omega),⟨by omega,by omega⟩,by omega,E8 ao,E7 aE.e ao,bH,bL (aX ad),bI aE.e ad,ax,ae⟩)
  (adx ⟨ec,ae⟩)
theorem afH(w:aL)(aj:w.b1.length<=8388608):
  (anyI (l4 w.b1) 0 w.b1=false/\c6 prog (av f175 2) (sy (w.queue.map aE.e) (w.cp.map aE.e) (w.bZ.map aE.e) (w.cells.map Cell.e) (w.bM.map ba) (w.bV.map cI) (w.bm.map cI) (w.b1.map cD.e) 0) (.exit 4) LS)\/
  (anyI (l4 w.b1) 0 w.b1=true/\c6 prog (av f175 2) (sy (w.queue.map aE.e) (w.cp.map aE.e) (w.bZ.map aE.e) (w.cells.map Cell.e) (w.bM.map ba) (w.bV.map cI) (w.bm.map cI) (w.b1.map cD.e) 0) .ret (Fz false)):=by
 have inner:∀(i:Nat) (a:cD),w.b1[i]?=some a->
   (((w.b1.take i).any (fun q=>q.a7==a.a7))=false/\c6 prog (av f175 3) (tY (w.queue.map aE.e) (w.cp.map aE.e) (w.bZ.map aE.e) (w.cells.map Cell.e) (w.bM.map ba) (w.bV.map cI) (w.bm.map cI) (w.b1.map cD.e) i 0) (.exit 6) (LR (w.queue.map aE.e) (w.cp.map aE.e) (w.bZ.map aE.e) (w.cells.map Cell.e) (w.bM.map ba) (w.bV.map cI) (w.bm.map cI) (w.b1.map cD.e) i))\/
   (((w.b1.take i).any (fun q=>q.a7==a.a7))=true/\c6 prog (av f175 3) (tY (w.queue.map aE.e) (w.cp.map aE.e) (w.bZ.map aE.e) (w.cells.map Cell.e) (w.bM.map ba) (w.bV.map cI) (w.bm.map cI) (w.b1.map cD.e) i 0) .ret (FA false)):=by
  intro i a ad;have hi:=aX ad;have hlen:(w.b1.take i).length=i:=by rw[qs];omega
  have hF:∀{k:Nat} {b:cD},(w.b1.take i)[k]?=some b->k<i/\w.b1[k]?=some b:=fun {k b} h=>by
   have hk:=aX h;rw[hlen]at hk;rw[hj,aZ hk]at h;exact⟨hk,h⟩
  have l:=hv (P:=prog) (c:=(av f175 3)) (w.b1.take i) (fun q=>q.a7==a.a7) (fun k=>tY (w.queue.map aE.e) (w.cp.map aE.e) (w.bZ.map aE.e) (w.cells.map Cell.e) (w.bM.map ba) (w.bV.map cI) (w.bm.map cI) (w.b1.map cD.e) i k) (X:=fun _ _=>FA false) fl (cL 6)
   (fun k b ao h=>by
    obtain⟨hk,ao⟩:=hF ao;exact adF ⟨dr (by omega),bH,bL (aX ao),bI cD.e ao,bH,bL (aX ad),bI cD.e ad,h,du (aX ao) aj,ae⟩)
   (fun k b ao h=>by
    obtain⟨hk,ao⟩:=hF ao;exact adE ⟨dr (by omega),bH,bL (aX ao),bI cD.e ao,bH,bL (aX ad),bI cD.e ad,h,ae⟩)
   (adG ⟨ee (by rw[hlen];omega),ae⟩)
  rcases l with⟨_,_,h1,U⟩ | ⟨_,_,_,_,_,_,h1,U⟩
  ·exact .inl ⟨h1,U⟩
  exact .inr ⟨h1,U⟩
 exact u' (P:=prog) (c:=(av f175 2)) w.b1 (l4 w.b1) (fun i=>sy (w.queue.map aE.e) (w.cp.map aE.e) (w.bZ.map aE.e) (w.cells.map Cell.e) (w.bM.map ba) (w.bV.map cI) (w.bm.map cI) (w.b1.map cD.e) i) fl (cL 4)
  (fun i a ad h=>by
   simp only[l4,fR,jW]at h;rcases inner i a ad with⟨e,l⟩ | ⟨e,l⟩
   ·exact adI ⟨b4 (aX ad),bH,bL (aX ad),bI cD.e ad,fe true h.1,rfl,l,du (aX ad) aj,ae⟩
   rw[h.2]at e;cases e)
  (fun i a ad h=>by
   cases h1:ap a.a7 0 3 with
   | false=>exact adD ⟨b4 (aX ad),bH,bL (aX ad),bI cD.e ad,fe false h1,rfl,ae⟩
   | true=>
    simp only[l4,h1,iu,jY]at h;rcases inner i a ad with⟨e,l⟩ | ⟨e,l⟩
    ·rw[h]at e;cases e
    exact adH ⟨b4 (aX ad),bH,bL (aX ad),bI cD.e ad,fe true h1,rfl,l,ae⟩)
  (adJ ⟨ec,ae⟩)
theorem SV(g:b0)(w:aL)(ar:g.sz<=8388608)(hw:w.sz<=8388608):aw 175 [.agg g.e,.agg w.e] [.one (B (e6 g w))]:=by
 unfold e6;cases h1:gu g w.queue with
 | false=>exact aeb ⟨xC g _ _ h1 ar (aL.GH hw),rfl,ae⟩
 | true=>
 have c1:=xC g _ _ h1 ar (aL.GH hw);cases U:gu g w.cp with
 | false=>exact aec ⟨c1,rfl,xC g _ _ U ar (aL.GQ hw),rfl,ae⟩
 | true=>
 have c2:=xC g _ _ U ar (aL.GQ hw);cases ax:gu g w.bZ with
 | false=>exact aed ⟨c1,rfl,c2,rfl,xC g _ _ ax ar (aL.yX hw),rfl,ae⟩
 | true=>
 have cH:=xC g _ _ ax ar (aL.yX hw);cases aF:k0 w.cells with
 | false=>exact aee ⟨c1,rfl,c2,rfl,cH,rfl,SP aF (aL.DP hw),rfl,ae⟩
 | true=>
 have ez:=SP aF (aL.DP hw);cases aQ:(w.bM.length==4) with
 | false=>exact aef ⟨c1,rfl,c2,rfl,cH,rfl,ez,rfl,u0 aQ,ae⟩
 | true=>
 cases bb:(w.bV.length==4) with
 | false=>exact aeg ⟨c1,rfl,c2,rfl,cH,rfl,ez,rfl,gl aQ,u0 bb,ae⟩
 | true=>
 cases bN:(w.bm.length==4) with
 | false=>exact aeh ⟨c1,rfl,c2,rfl,cH,rfl,ez,rfl,gl aQ,gl bb,u0 bN,ae⟩
 | true=>
 have ra:w.bM.length=4:=eq_of_beq aQ;rcases afG w (aL.yX hw) with⟨dj,kt⟩ | ⟨dj,kt⟩
 case inr=>rw[dj];exact ady ⟨c1,rfl,c2,rfl,cH,rfl,ez,rfl,gl aQ,gl bb,gl bN,kt,ae⟩
 have pf:=hv (P:=prog) (c:=(av f175 1)) w.bM oD (fun i=>vz (w.queue.map aE.e) (w.cp.map aE.e) (w.bZ.map aE.e) (w.cells.map Cell.e) (w.bM.map ba) (w.bV.map cI) (w.bm.map cI) (w.b1.map cD.e) i) (X:=fun _ _=>LP false) fl (cL 2)
  (fun i a ad h=>adA ⟨dr (by have:=aX ad;omega),bH,bL (aX ad),bI ba ad,fe true (by simpa[oD]using h),rfl,du (aX ad) (aL.Wd hw),ae⟩)
  (fun i a ad h=>adz ⟨dr (by have:=aX ad;omega),bH,bL (aX ad),bI ba ad,fe false (by simpa[oD]using h),rfl,ae⟩)
  (adB ⟨ee (by omega),ae⟩)
 rw[dj];rcases pf with⟨_,_,ej,pf⟩ | ⟨_,_,_,_,_,_,ej,pf⟩
 case inr=>rw[ej];exact adC ⟨c1,rfl,c2,rfl,cH,rfl,ez,rfl,gl aQ,gl bb,gl bN,kt,pf,ae⟩
 rw[ej];rcases afH w (aL.OZ hw) with⟨dU,wM⟩ | ⟨dU,wM⟩
 ·rw[dU];exact adL ⟨c1,rfl,c2,rfl,cH,rfl,ez,rfl,gl aQ,gl bb,gl bN,kt,pf,wM,ae⟩
 rw[dU];exact adK ⟨c1,rfl,c2,rfl,cH,rfl,ez,rfl,gl aQ,gl bb,gl bN,kt,pf,wM,ae⟩
end Go.Proofs.YtdchjefneblpgaaGreat
namespace Go.Proofs.YtdchjefneblpgaaGreat
open Go.Sx Go.RowKit Go.Proofs.Tryz
theorem afI(w:aL)(aj:w.bZ.length<=8388608):
  (anyI (mm w.bZ) 0 w.bZ=false/\c6 prog (av f187 0) (pr (w.bZ.map aE.e) 0 (w.queue.map aE.e) (w.cp.map aE.e) (w.bZ.map aE.e) (w.cells.map Cell.e) (w.bM.map ba) (w.bV.map cI) (w.bm.map cI) (w.b1.map cD.e)) (.exit 0) (J4 (w.queue.map aE.e) (w.cp.map aE.e) (w.bZ.map aE.e) (w.cells.map Cell.e) (w.bM.map ba) (w.bV.map cI) (w.bm.map cI) (w.b1.map cD.e)))\/
  (anyI (mm w.bZ) 0 w.bZ=true/\c6 prog (av f187 0) (pr (w.bZ.map aE.e) 0 (w.queue.map aE.e) (w.cp.map aE.e) (w.bZ.map aE.e) (w.cells.map Cell.e) (w.bM.map ba) (w.bV.map cI) (w.bm.map cI) (w.b1.map cD.e)) .ret (Bz false)):=
 u' (P:=prog) (c:=(av f187 0)) w.bZ (mm w.bZ) (fun i=>pr (w.bZ.map aE.e) i (w.queue.map aE.e) (w.cp.map aE.e) (w.bZ.map aE.e) (w.cells.map Cell.e) (w.bM.map ba) (w.bV.map cI) (w.bm.map cI) (w.b1.map cD.e)) fl (cL 0)
  (fun i a ad h=>by
   have hi:=aX ad;obtain⟨h1,U,rfl | ⟨j,b,rfl,ao,ax⟩⟩:=SU ad h
   ·exact adk ⟨b4 (aX ad),bH,bL (aX ad),bI aE.e ad,h1,U,ee (by omega),du (aX ad) aj,ae⟩
   exact adj ⟨b4 (aX ad),bH,bL (aX ad),bI aE.e ad,h1,U,dr (by omega),⟨by omega,by omega⟩,by omega,E8 ao,E7 aE.e ao,ax,du (aX ad) aj,ae⟩)
  (fun i a ad h=>by
   have hi:=aX ad;rcases SS ad h with h1 | ⟨h1,U⟩ | ⟨h1,U,j,b,rfl,ao,ax⟩
   ·exact adQ ⟨b4 (aX ad),bH,bL (aX ad),bI aE.e ad,h1,ae⟩
   ·exact adR ⟨b4 (aX ad),bH,bL (aX ad),bI aE.e ad,h1,U,ae⟩
   exact adi ⟨b4 (aX ad),bH,bL (aX ad),bI aE.e ad,h1,U,dr (by omega),⟨by omega,by omega⟩,by omega,E8 ao,E7 aE.e ao,ax,ae⟩)
  (adl ⟨ec,ae⟩)
theorem SX(xs:List cD)(i:Nat)(e:Int)(r:Bool)(h:(xs.take i).any (fun q=>q.a7==e)=r)(aj:xs.length<=8388608):aw 281 [.one (.J 2 ((xs.map cD.e).take i)),.one (I e)] [.one (B r)]:=by
 have c:=Te (xs.take i) e (by rw[qs];omega);rw[sW,h]at c;exact c
theorem afJ(w:aL)(aj:w.b1.length<=8388608):
  (anyI (l4 w.b1) 0 w.b1=false/\c6 prog (av f187 2) (sA (w.b1.map cD.e) 0 (w.queue.map aE.e) (w.cp.map aE.e) (w.bZ.map aE.e) (w.cells.map Cell.e) (w.bM.map ba) (w.bV.map cI) (w.bm.map cI) (w.b1.map cD.e)) (.exit 4) LW)\/
  (anyI (l4 w.b1) 0 w.b1=true/\c6 prog (av f187 2) (sA (w.b1.map cD.e) 0 (w.queue.map aE.e) (w.cp.map aE.e) (w.bZ.map aE.e) (w.cells.map Cell.e) (w.bM.map ba) (w.bV.map cI) (w.bm.map cI) (w.b1.map cD.e)) .ret (FB false)):=
 u' (P:=prog) (c:=(av f187 2)) w.b1 (l4 w.b1) (fun i=>sA (w.b1.map cD.e) i (w.queue.map aE.e) (w.cp.map aE.e) (w.bZ.map aE.e) (w.cells.map Cell.e) (w.bM.map ba) (w.bV.map cI) (w.bm.map cI) (w.b1.map cD.e)) fl (cL 4)
  (fun i a ad h=>by
   have hi:=aX ad;simp only[l4,fR,jW]at h;exact aeW ⟨b4 (aX ad),bH,bL (aX ad),bI cD.e ad,hN true h.1,rfl,Int.le_refl 0,(bH:(0:Int)<=(i:Int)),(show (i:Int)<=_ by rw[bk];omega),SX w.b1 i a.a7 false h.2 aj,rfl,du (aX ad) aj,ae⟩)
  (fun i a ad h=>by
   have hi:=aX ad;cases h1:ap a.a7 0 3 with
   | false=>exact aeU ⟨b4 (aX ad),bH,bL (aX ad),bI cD.e ad,hN false h1,rfl,ae⟩
   | true=>
    simp only[l4,h1,iu,jY]at h;exact aeV ⟨b4 (aX ad),bH,bL (aX ad),bI cD.e ad,hN true h1,rfl,Int.le_refl 0,(bH:(0:Int)<=(i:Int)),(show (i:Int)<=_ by rw[bk];omega),SX w.b1 i a.a7 true h aj,rfl,ae⟩)
  (aeX ⟨ec,ae⟩)
theorem E9(g:b0)(w:aL)(ar:g.sz<=8388608)(hw:w.sz<=8388608):aw 187 [.agg g.e,.agg w.e] [.one (B (e6 g w))]:=by
 unfold e6;cases h1:gu g w.queue with
 | false=>exact adM ⟨xD g _ _ h1 ar (aL.GH hw),rfl,ae⟩
 | true=>
 have c1:=xD g _ _ h1 ar (aL.GH hw);cases U:gu g w.cp with
 | false=>exact adN ⟨c1,rfl,xD g _ _ U ar (aL.GQ hw),rfl,ae⟩
 | true=>
 have c2:=xD g _ _ U ar (aL.GQ hw);cases ax:gu g w.bZ with
 | false=>exact adO ⟨c1,rfl,c2,rfl,xD g _ _ ax ar (aL.yX hw),rfl,ae⟩
 | true=>
 have cH:=xD g _ _ ax ar (aL.yX hw);cases aF:k0 w.cells with
 | false=>exact adP ⟨c1,rfl,c2,rfl,cH,rfl,SQ aF (aL.DP hw),rfl,ae⟩
 | true=>
 have ez:=SQ aF (aL.DP hw);rcases afI w (aL.yX hw) with⟨dj,kt⟩ | ⟨dj,kt⟩
 case inr=>
  rw[dj];simp only[iu,Bool.false_and,Bool.and_false];exact adm ⟨c1,rfl,c2,rfl,cH,rfl,ez,rfl,kt,ae⟩
 cases aQ:(w.bM.length==4) with
 | false=>exact adn ⟨c1,rfl,c2,rfl,cH,rfl,ez,rfl,kt,u0 aQ,ae⟩
 | true=>
 cases bb:(w.bV.length==4) with
 | false=>exact ado ⟨c1,rfl,c2,rfl,cH,rfl,ez,rfl,kt,gl aQ,u0 bb,ae⟩
 | true=>
 cases bN:(w.bm.length==4) with
 | false=>exact adp ⟨c1,rfl,c2,rfl,cH,rfl,ez,rfl,kt,gl aQ,gl bb,u0 bN,ae⟩
 | true=>
 have pf:=hv (P:=prog) (c:=(av f187 1)) w.bM oD (fun i=>vA (w.queue.map aE.e) (w.cp.map aE.e) (w.bZ.map aE.e) (w.cells.map Cell.e) (w.bM.map ba) (w.bV.map cI) (w.bm.map cI) (w.b1.map cD.e) i) (X:=fun _ _=>LU false) fl (cL 2)
  (fun i a ad h=>adr ⟨b4 (aX ad),bH,bL (aX ad),bI ba ad,hN true (by simpa[oD]using h),rfl,du (aX ad) (aL.Wd hw),ae⟩)
  (fun i a ad h=>adq ⟨b4 (aX ad),bH,bL (aX ad),bI ba ad,hN false (by simpa[oD]using h),rfl,ae⟩)
  (aeS ⟨ec,ae⟩)
 rw[dj];rcases pf with⟨_,_,ej,pf⟩ | ⟨_,_,_,_,_,_,ej,pf⟩
 case inr=>rw[ej];exact aeT ⟨c1,rfl,c2,rfl,cH,rfl,ez,rfl,kt,gl aQ,gl bb,gl bN,pf,ae⟩
 rw[ej];rcases afJ w (aL.OZ hw) with⟨dU,wM⟩ | ⟨dU,wM⟩
 ·rw[dU];exact aeZ ⟨c1,rfl,c2,rfl,cH,rfl,ez,rfl,kt,gl aQ,gl bb,gl bN,pf,wM,ae⟩
 rw[dU];exact aeY ⟨c1,rfl,c2,rfl,cH,rfl,ez,rfl,kt,gl aQ,gl bb,gl bN,pf,wM,ae⟩
