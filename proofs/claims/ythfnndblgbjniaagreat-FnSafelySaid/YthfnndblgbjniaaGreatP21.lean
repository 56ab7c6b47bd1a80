import Derived.Test.YthfnndblgbjniaaGreatC6
import Derived.Test.YthfnndblgbjniaaGreatGU
import Derived.Test.YthfnndblgbjniaaGreatP17
set_option linter.unusedVariables false
set_option linter.unusedSimpArgs false
namespace Go.Proofs.YthfnndblgbjniaaGreat
open Go.Sx Go.RowKit Go.Proofs.Tryz
variable{c:aO}
theorem aO.zI(h:c.sz<=8388608):c.bn.length<=8388608:=by grind[aO.sz,fw]
def mE(l:bj):Bool:=ax l.eb 0 l.cap&&ax l.back 0 l.cap&&decide (l.eb+l.back+l.queue.length=l.cap)
theorem aO.LD(h:c.wf){l:bj}(al:l∈c.bn):l.wf:=h.afv.2 l al
structure nH (c:aO):Prop where
 n:aL .i64 c.au.aq
 l:∀l∈c.bn,aL .i64 l.cap/\l.db<=9223372036854775807
theorem nH.of(h:c.wf):nH c:=⟨h.adf.aaO,fun l al=>⟨(aO.LD h al).RO,(aO.LD h al).R4.2⟩⟩
theorem aO.qD(h:c.sz<=8388608){l:bj}(al:l∈c.bn):l.sz<=8388608:=by
 grind[Du,bj.sz,aO.sz]
theorem W0(c:aO)(ai:c.sz<=8388608)(hw:nH c):ar 15 [.agg c.e] [.one (B (c.bn.all mE))]:=by
 have al:=aO.zI ai
 let st:=fun i:Nat=>uV i (c.au.nodes.map Node.e) c.au.aq c.au.cap (c.aq.map aK.e) (c.bn.map bj.e) (c.tokens.map bQ.e) (c.news.map bT.e)
 have step:∀i,i<c.bn.length->(∀b,c.bn[i]?=some b->mE b=true)->fS prog (ap f15 0) (st i) .normal (st (i+1)):=by
  intro i hi h;obtain⟨a,ah⟩:=c5 hi;have h:=h a ah;have aH:=aO.qD ai (cD ah);have KV:=hw.l _ (cD ah);have ff:=KV.1;simp only[mE,ax,cu,cj]at h;simp only[aL]at ff;simp only[bj.sz]at aH;have e:IntKind.i64.wrap (IntKind.i64.wrap (a.eb+a.back)+(a.queue.length:Int))=a.cap:=by grind[IntKind.wrap_i64]
  refine alY ⟨bV hi,bx,bH hi,bA bj.e ah,fm _ _ _ true (by grind[ax]),rfl,fm _ _ _ true (by grind[ax]),rfl,?_,c0 hi al,aa⟩;grind
 rcases N1 mE c.bn with h1 | ⟨i,a,ah,U,aJ⟩
 ·rw[gn.2 h1];have l:=er (cn 0) c.bn.length st (fun i hi=>step i hi fun b aw=>h1 b (cD aw)) (alZ ⟨dq,aa⟩);exact al1 ⟨l,aa⟩
 have h9:c.bn.all mE=false:=List.all_eq_false.2 ⟨a,cD ah,by simp[U]⟩;rw[h9];have hi:=aY ah;have out:fS prog (ap f15 0) (st i) .ret (CA false):=by
  have aH:=aO.qD ai (cD ah);have KV:=hw.l _ (cD ah);have ff:=KV.1;simp only[aL]at ff;simp only[bj.sz]at aH;by_cases a7:ax a.eb 0 a.cap=true
  case neg=>exact amL ⟨bV hi,bx,bH hi,bA bj.e ah,fm _ _ _ false (by grind),rfl,aa⟩
  by_cases bw:ax a.back 0 a.cap=true
  case neg=>exact amM ⟨bV hi,bx,bH hi,bA bj.e ah,fm _ _ _ true a7,rfl,fm _ _ _ false (by grind),rfl,aa⟩
  have b1:¬(a.eb+a.back+a.queue.length=a.cap):=by
   grind[mE]
  refine alX ⟨bV hi,bx,bH hi,bA bj.e ah,fm _ _ _ true a7,rfl,fm _ _ _ true bw,rfl,?_,aa⟩;simp only[ax,cj]at a7 bw;grind[Int,IntKind.wrap_i64,b']
 have l:=er eC i st (fun j bf=>step j (by omega) fun b aw=>aJ j b bf aw) out;exact al0 ⟨l,aa⟩
theorem W1(c:aO)(ai:c.sz<=8388608)(hw:nH c):ar 14 [.agg c.e] [.one (B (c.bn.all mE))]:=by
 have al:=aO.zI ai
 let st:=fun i:Nat=>tr (c.bn.map bj.e) i
 have step:∀i,i<c.bn.length->(∀b,c.bn[i]?=some b->mE b=true)->fS prog (ap f14 0) (st i) .normal (st (i+1)):=by
  intro i hi h;obtain⟨a,ah⟩:=c5 hi;have h:=h a ah;have ff:=(hw.l _ (cD ah)).1;simp only[mE,ax,cu,cj]at h;simp only[aL]at ff;refine al6 ⟨bV hi,bx,bH hi,bA bj.e ah,fY true (by grind[ax]),rfl,fY true (by grind[ax]),rfl,⟨by omega,by omega⟩,by grind,⟨by omega,by omega⟩,⟨by omega,by omega⟩,?_,c0 hi al,aa⟩;grind
 rcases N1 mE c.bn with h1 | ⟨i,a,ah,U,aJ⟩
 ·rw[gn.2 h1];have l:=er (cn 0) c.bn.length st (fun i hi=>step i hi fun b aw=>h1 b (cD aw)) (al7 ⟨dq,aa⟩);exact al9 ⟨l,aa⟩
 have h9:c.bn.all mE=false:=List.all_eq_false.2 ⟨a,cD ah,by simp[U]⟩;rw[h9];have hi:=aY ah;have out:fS prog (ap f14 0) (st i) .ret (Ae false):=by
  have ff:=(hw.l _ (cD ah)).1;simp only[aL]at ff;by_cases a7:ax a.eb 0 a.cap=true
  case neg=>exact al2 ⟨bV hi,bx,bH hi,bA bj.e ah,fY false (by grind),rfl,aa⟩
  by_cases bw:ax a.back 0 a.cap=true
  case neg=>exact al3 ⟨bV hi,bx,bH hi,bA bj.e ah,fY true a7,rfl,fY false (by grind),rfl,aa⟩
  have b1:¬(a.eb+a.back+a.queue.length=a.cap):=by
   grind[mE]
  have g5:=a7;have g6:=bw;simp only[ax,cj]at g5 g6;by_cases dA:a.eb>a.cap-a.back
  ·exact al4 ⟨bV hi,bx,bH hi,bA bj.e ah,fY true a7,rfl,fY true bw,rfl,⟨by omega,by omega⟩,by grind,aa⟩
  refine al5 ⟨bV hi,bx,bH hi,bA bj.e ah,fY true a7,rfl,fY true bw,rfl,⟨by omega,by omega⟩,by grind,⟨by omega,by omega⟩,⟨by omega,by omega⟩,?_,aa⟩;grind
 have l:=er eC i st (fun j bf=>step j (by omega) fun b aw=>aJ j b bf aw) out;exact al8 ⟨l,aa⟩
def iy(e:Int)(l:bj):Nat:=(hF e l.queue).length
theorem aqJ(l:bj)(e:Int)(al:l.sz<=8388608):ar 41 [.agg l.e,.one (I e)] [.one (I (iy e l))]:=by
 have:=ama l.cap _ l.eb l.back l.ek l.db _ _ ⟨C1 l.queue e al,aa⟩;rw[b']at this;exact this
theorem aqK(l:bj)(e:Int)(al:l.sz<=8388608):ar 39 [.agg l.e,.one (I e)] [.one (I (iy e l))]:=by
 have:=amb l.cap _ l.eb l.back l.ek l.db _ _ ⟨C2 l.queue e al,aa⟩;rw[b']at this;exact this
def sA(e n:Int)(w:aK):Int:=if ax e 0 (w.bB.length-1) then aaP (n+w.bB.getD e.toNat 0) else n
def DG(c:aO)(e:Int):Int:=c.aq.foldl (sA e) 0
theorem W2{xs:List Int}{e:Int}(h:ax e 0 (xs.length-1)=true):0<=e/\e<(↑(xs.map bd).length:Int)/\(xs.map bd)[e.toNat]?=some [I (xs.getD e.toNat 0)]:=by
 simp only[ax,cj]at h;refine⟨h.1,by grind,?_⟩;have:e.toNat<xs.length:=by omega
 rw[dI,gU this,ly,gU this];rfl
theorem qX{α:Type}{f:Int->α}{xs:List Int}(h:xs.length<=8388608):IntKind.i64.wrap ((↑(xs.map f).length:Int)-1)=(xs.length:Int)-1:=by
 rw[b'];exact aL.wrap ⟨by omega,by omega⟩
theorem aqL(c:aO)(e:Int)(ai:c.sz<=8388608):ar 42 [.agg c.e,.one (I e)] [.one (I (DG c e))]:=by
 have al:=aO.nA ai;have l:=er (P:=prog) (c:=(ap f42 0)) (cn 0) c.aq.length (fun i:Nat=>yH (c.au.nodes.map Node.e) c.au.aq c.au.cap (c.aq.map aK.e) (c.bn.map bj.e) (c.tokens.map bQ.e) (c.news.map bT.e) e i (qP (sA e) 0 c.aq i)) (fun i hi=>by
  obtain⟨a,ah⟩:=c5 hi;have ao:=aO.oY ai (cD ah);simp only[aK.sz]at ao;rw[Hw ah];by_cases h:ax e 0 (a.bB.length-1)=true
  ·obtain⟨h1,U,aA⟩:=W2 h;rw[sA,bq h];exact amc ⟨bV hi,bx,bH hi,bA aK.e ah,fm _ _ _ true (by grind[qX]),rfl,bx,bH hi,bA aK.e ah,h1,U,aA,c0 hi al,aa⟩
  rw[sA,bD h];exact amd ⟨bV hi,bx,bH hi,bA aK.e ah,fm _ _ _ false (by grind[qX]),rfl,c0 hi al,aa⟩) (ame ⟨dq,aa⟩)
 rw[Hy,U0]at l;exact amf ⟨l,aa⟩
theorem aqM(c:aO)(e:Int)(ai:c.sz<=8388608):ar 40 [.agg c.e,.one (I e)] [.one (I (DG c e))]:=by
 have al:=aO.nA ai;have l:=er (P:=prog) (c:=(ap f40 0)) (cn 0) c.aq.length (fun i:Nat=>yI (c.aq.map aK.e) e i (qP (sA e) 0 c.aq i)) (fun i hi=>by
  obtain⟨a,ah⟩:=c5 hi;have ao:=aO.oY ai (cD ah);simp only[aK.sz]at ao;rw[Hw ah];by_cases h:ax e 0 (a.bB.length-1)=true
  ·obtain⟨h1,U,aA⟩:=W2 h;rw[sA,bq h];exact amg ⟨bV hi,bx,bH hi,bA aK.e ah,fY true (by grind[qX]),rfl,h1,U,aA,c0 hi al,aa⟩
  rw[sA,bD h];exact amh ⟨bV hi,bx,bH hi,bA aK.e ah,fY false (by grind[qX]),rfl,c0 hi al,aa⟩) (ami ⟨dq,aa⟩)
 rw[Hy,U0]at l;exact amj ⟨l,aa⟩
def DH(c:aO)(e:Int):Bool:=DG c e==((c.bn.map (iy e)).sum:Int)
theorem W3{α:Type}{f g:α->Nat}:∀{xs:List α},(∀a,f a<=g a)->(xs.map f).sum<=(xs.map g).sum
 | [],_=>fi _
 | x::xs,h=>by
  have:=h x;have:=W3 (xs:=xs) h;grind
theorem W4(e:Int)(ai:c.sz<=8388608):(c.bn.map (iy e)).sum<=8388608:=by
 have h:(c.bn.map (iy e)).sum<=(c.bn.map bj.sz).sum:=W3 fun l=>o2 ..
 grind[aO.sz,fw]
theorem Pg(c:aO)(e:Int)(ai:c.sz<=8388608):ar 13 [.agg c.e,.one (I e)] [.one (B (DH c e))]:=by
 have al:=aO.zI ai;have aw:=W4 e ai;have l:=er (P:=prog) (c:=(ap f13 0)) (cn 0) c.bn.length (fun i:Nat=>CB (c.au.nodes.map Node.e) c.au.aq c.au.cap (c.aq.map aK.e) (c.bn.map bj.e) (c.tokens.map bQ.e) (c.news.map bT.e) e i (tw (iy e) c.bn i)) (fun i hi=>by
  obtain⟨a,ah⟩:=c5 hi;have ao:=VM (sz:=iy e) ah;have h1:=VN (sz:=iy e) (xs:=c.bn) (i:=i+1);rw[ao,Int.natCast_add];exact amk ⟨bV hi,bx,bH hi,bA bj.e ah,aqJ a e (aO.qD ai (cD ah)),⟨by omega,by omega⟩,c0 hi al,aa⟩) (aml ⟨dq,aa⟩)
 rw[VL,VK]at l;exact amm ⟨l,aqL c e ai,aa⟩
theorem Ph(c:aO)(e:Int)(ai:c.sz<=8388608):ar 12 [.agg c.e,.one (I e)] [.one (B (DH c e))]:=by
 have al:=aO.zI ai;have aw:=W4 e ai;have l:=er (P:=prog) (c:=(ap f12 0)) (cn 0) c.bn.length (fun i:Nat=>CC (c.bn.map bj.e) e i (tw (iy e) c.bn i) (c.au.nodes.map Node.e) c.au.aq c.au.cap (c.aq.map aK.e) (c.bn.map bj.e) (c.tokens.map bQ.e) (c.news.map bT.e)) (fun i hi=>by
  obtain⟨a,ah⟩:=c5 hi;have ao:=VM (sz:=iy e) ah;have h1:=VN (sz:=iy e) (xs:=c.bn) (i:=i+1);rw[ao,Int.natCast_add];exact alN ⟨bV hi,bx,bH hi,bA bj.e ah,aqK a e (aO.qD ai (cD ah)),⟨by omega,by omega⟩,c0 hi al,aa⟩) (alO ⟨dq,aa⟩)
 rw[VL,VK]at l;exact alP ⟨l,aqM c e ai,aa⟩
def eZ(key aq:Int):Int:=if aq<1 then 0 else if key.tmod aq<0 then key.tmod aq+aq else key.tmod aq
theorem Pj(a b:Int)(h:0<b):- b<a.tmod b:=by
 rcases Int.le_total 0 a with ah | ah
 ·have:=Int.tmod_nonneg b ah;omega
 have h1:(-a).tmod b<b:=Int.tmod_lt_of_pos _ h;rw[Int.neg_tmod]at h1;omega
theorem GJ(key aq:Int)(hw:aq<=9223372036854775807):ar 85 [.one (I key),.one (I aq)] [.one (I (eZ key aq))]:=by
 unfold eZ;split
 ·exact alQ ⟨by simpa using ‹aq<1›,aa⟩
 rename_i h;have h1:=Pj key aq (by omega);have U:key.tmod aq<aq:=Int.tmod_lt_of_pos _ (by omega);split
 ·rename_i aA;exact alR ⟨by simp only[kK];omega,by omega,by simpa using aA,⟨by omega,by omega⟩,aa⟩
 rename_i aA;exact alS ⟨by simp only[kK];omega,by omega,by simpa using aA,aa⟩
theorem W5(key aq:Int)(hw:aq<=9223372036854775807):ar 84 [.one (I key),.one (I aq)] [.one (I (eZ key aq))]:=by
 unfold eZ;split
 ·exact alT ⟨by simpa using ‹aq<1›,aa⟩
 rename_i h;have h1:=Pj key aq (by omega);have U:key.tmod aq<aq:=Int.tmod_lt_of_pos _ (by omega);split
 ·rename_i aA;exact alU ⟨by simp only[kK];omega,by omega,by simpa using aA,⟨by omega,by omega⟩,aa⟩
 rename_i aA;exact alV ⟨by simp only[kK];omega,by omega,by simpa using aA,aa⟩
def n3(w n:Int)(r:az):Bool:=eZ r.key n != w
theorem aqN(c:aO)(xs:List az)(w:Int)(hw:nH c)(al:xs.length<=8388608):ar 46 [.agg c.e,.one (.J 5 (xs.map az.e)),.one (I w)] [.one (B (!(xs.any (n3 w c.au.aq))))]:=by
 have aW:=hw.n;simp only[aL]at aW;have l:=gl (P:=prog) (c:=(ap f46 0)) xs (n3 w c.au.aq) (fun i=>xT (c.au.nodes.map Node.e) c.au.aq c.au.cap (c.aq.map aK.e) (c.bn.map bj.e) (c.tokens.map bQ.e) (c.news.map bT.e) (xs.map az.e) w i) (X:=fun _ _=>O0 false) eC (cn 0)
  (fun i a ah h=>ano ⟨bV (aY ah),bx,bH (aY ah),bA az.e ah,GJ _ _ aW.2,h,c0 (aY ah) al,aa⟩)
  (fun i a ah h=>alW ⟨bV (aY ah),bx,bH (aY ah),bA az.e ah,GJ _ _ aW.2,h,aa⟩)
  (anp ⟨dq,aa⟩)
 rcases l with⟨_,_,h1,U⟩ | ⟨i,a,_,_,_,_,h1,U⟩
 ·rw[h1];exact anr ⟨U,aa⟩
 rw[h1];exact anq ⟨U,aa⟩
theorem aqO(xs:List az)(w n:Int)(aW:n<=9223372036854775807)(al:xs.length<=8388608):ar 45 [.one (.J 5 (xs.map az.e)),.one (I w),.one (I n)] [.one (B (!(xs.any (n3 w n))))]:=
 ant ⟨V8 xs (n3 w n) _ _ al (by kernel_rfl) (fun x _=>anu ⟨W5 _ _ aW,aa⟩),aa⟩
def tI(n:Int)(i:Nat)(w:aK):Bool:=w.queue.any (n3 i n)||w.bM.any (n3 i n)
def pe(n:Int)(i:Nat)(l:bj):Bool:=decide (n<1)||l.queue.any (n3 ((i:Int).tmod n) n)
def uC(c:aO):Bool:=!(anyI (tI c.au.aq) 0 c.aq)&&!(anyI (pe c.au.aq) 0 c.bn)
theorem aK.tt{w:aK}(h:w.sz<=8388608):w.queue.length<=8388608:=by grind[aK.sz]
theorem aK.sU{w:aK}(h:w.sz<=8388608):w.bM.length<=8388608:=by grind[aK.sz]
theorem xX(c:aO)(xs:List az)(w:Int)(r:Bool)(h:xs.any (n3 w c.au.aq)=r)(hw:nH c)(al:xs.length<=8388608):ar 46 [.agg c.e,.one (.J 5 (xs.map az.e)),.one (I w)] [.one (B (!r))]:=h▸aqN c xs w hw al
theorem xY{xs:List az}{w n:Int}(r:Bool)(h:xs.any (n3 w n)=r)(aW:n<=9223372036854775807)(al:xs.length<=8388608):ar 45 [.one (.J 5 (xs.map az.e)),.one (I w),.one (I n)] [.one (B (!r))]:=h▸aqO xs w n aW al
theorem W6(c:aO)(ai:c.sz<=8388608)(hw:nH c):ar 17 [.agg c.e] [.one (B (uC c))]:=by
 have dn:=qQ (P:=prog) (c:=(ap f17 0)) c.aq (tI c.au.aq) (fun i=>uW (c.au.nodes.map Node.e) c.au.aq c.au.cap (c.aq.map aK.e) (c.bn.map bj.e) (c.tokens.map bQ.e) (c.news.map bT.e) i) (X:=G8 false) eC (cn 0)
  (fun i a ah h=>by
   simp only[tI,fC]at h;have ao:=aO.oY ai (cD ah);exact anx ⟨bV (aY ah),bx,bH (aY ah),bA aK.e ah,xX c _ _ false h.1 hw (aK.tt ao),rfl,bx,bH (aY ah),bA aK.e ah,xX c _ _ false h.2 hw (aK.sU ao),rfl,c0 (aY ah) (aO.nA ai),aa⟩)
  (fun i a ah h=>by
   have ao:=aO.oY ai (cD ah);by_cases h1:a.queue.any (n3 i c.au.aq)=true
   ·exact anv ⟨bV (aY ah),bx,bH (aY ah),bA aK.e ah,xX c _ _ true h1 hw (aK.tt ao),rfl,aa⟩
   have xf:=wW.2 h1;simp only[tI,xf,hn]at h;exact anw ⟨bV (aY ah),bx,bH (aY ah),bA aK.e ah,xX c _ _ false xf hw (aK.tt ao),rfl,bx,bH (aY ah),bA aK.e ah,xX c _ _ true h hw (aK.sU ao),rfl,aa⟩)
  (anz ⟨dq,aa⟩)
 have eX:=qQ (P:=prog) (c:=(ap f17 1)) c.bn (pe c.au.aq) (fun i=>wL (c.au.nodes.map Node.e) c.au.aq c.au.cap (c.aq.map aK.e) (c.bn.map bj.e) (c.tokens.map bQ.e) (c.news.map bT.e) i) (X:=G9 false) eC (cn 2)
  (fun i a ah h=>by
   simp only[pe,fC,kK]at h;have ao:a.queue.length<=8388608:=aO.qD ai (cD ah);exact anD ⟨bV (aY ah),by grind,bx,bH (aY ah),bA bj.e ah,by omega,xX c _ _ false h.2 hw ao,rfl,c0 (aY ah) (aO.zI ai),aa⟩)
  (fun i a ah h=>by
   have ao:a.queue.length<=8388608:=aO.qD ai (cD ah);by_cases h1:c.au.aq<1
   ·exact anB ⟨bV (aY ah),by grind,aa⟩
   have U:a.queue.any (n3 ((i:Int).tmod c.au.aq) c.au.aq)=true:=by grind[pe]
   exact anC ⟨bV (aY ah),by grind,bx,bH (aY ah),bA bj.e ah,by omega,xX c _ _ true U hw ao,rfl,aa⟩)
  (anE ⟨dq,aa⟩)
 unfold uC;rcases dn with⟨bE,dn⟩ | ⟨bE,dn⟩
 ·rcases eX with⟨e1,eX⟩ | ⟨e1,eX⟩
  ·rw[bE,e1];exact anG ⟨dn,eX,aa⟩
  rw[bE,e1];exact anF ⟨dn,eX,aa⟩
 rw[bE];exact anA ⟨dn,aa⟩
theorem W7(c:aO)(ai:c.sz<=8388608)(hw:nH c):ar 16 [.agg c.e] [.one (B (uC c))]:=by
 have aW:=hw.n;simp only[aL]at aW;have aW:=aW.2;have dn:=qQ (P:=prog) (c:=(ap f16 0)) c.aq (tI c.au.aq) (fun i=>r4 c.au.aq (c.aq.map aK.e) i (c.au.nodes.map Node.e) c.au.aq c.au.cap (c.aq.map aK.e) (c.bn.map bj.e) (c.tokens.map bQ.e) (c.news.map bT.e)) (X:=CD false) eC (cn 0)
  (fun i a ah h=>by
   simp only[tI,fC]at h;have ao:=aO.oY ai (cD ah);exact anK ⟨bV (aY ah),bx,bH (aY ah),bA aK.e ah,xY false h.1 aW (aK.tt ao),rfl,xY false h.2 aW (aK.sU ao),rfl,c0 (aY ah) (aO.nA ai),aa⟩)
  (fun i a ah h=>by
   have ao:=aO.oY ai (cD ah);by_cases h1:a.queue.any (n3 i c.au.aq)=true
   ·exact anI ⟨bV (aY ah),bx,bH (aY ah),bA aK.e ah,xY true h1 aW (aK.tt ao),rfl,aa⟩
   have xf:=wW.2 h1;simp only[tI,xf,hn]at h;exact anJ ⟨bV (aY ah),bx,bH (aY ah),bA aK.e ah,xY false xf aW (aK.tt ao),rfl,xY true h aW (aK.sU ao),rfl,aa⟩)
  (anL ⟨dq,aa⟩)
 unfold uC;by_cases bJ:c.bn=[]
 ·
  have jn:(c.bn.map bj.e)=[]:=by rw[bJ];rfl
  have eX:c8 prog (ap f16 1) (uX c.au.aq (c.bn.map bj.e) 0) (.exit 2) Ha:=
   .last (cn 2) (XH ⟨by rw[jn];rfl,aa⟩)
  have e1:anyI (pe c.au.aq) 0 c.bn=false:=by rw[bJ];rfl
  have bb:decide ((↑(c.bn.map bj.e).length:Int)>0)=false:=by rw[jn];rfl
  rw[e1];rcases dn with⟨bE,dn⟩ | ⟨bE,dn⟩
  ·rw[bE];exact amZ ⟨bb,dn,eX,aa⟩
  rw[bE];exact amY ⟨bb,dn,aa⟩
 have qu:0<c.bn.length:=List.length_pos_iff.2 bJ;have bb:decide ((↑(c.bn.map bj.e).length:Int)>0)=true:=by grind
 by_cases h1:c.au.aq<1
 ·have e1:anyI (pe c.au.aq) 0 c.bn=true:=by
   cases e:anyI (pe c.au.aq) 0 c.bn with
   | true=>rfl
   | false=>
    obtain⟨a,ah⟩:=c5 qu;grind[AO,pe]
  rw[e1,hy,Bool.and_false];exact anH ⟨bb,by grind,aa⟩
 have eX:=qQ (P:=prog) (c:=(ap f16 1)) c.bn (pe c.au.aq) (fun i=>uX c.au.aq (c.bn.map bj.e) i) (X:=O2 false) eC (cn 2)
  (fun i a ah h=>by
   simp only[pe,fC,kK]at h;have ao:a.queue.length<=8388608:=aO.qD ai (cD ah);exact anO ⟨bV (aY ah),bx,bH (aY ah),bA bj.e ah,by omega,xY false h.2 aW ao,rfl,c0 (aY ah) (aO.zI ai),aa⟩)
  (fun i a ah h=>by
   have ao:a.queue.length<=8388608:=aO.qD ai (cD ah);have U:a.queue.any (n3 ((i:Int).tmod c.au.aq) c.au.aq)=true:=by grind[pe]
   exact anN ⟨bV (aY ah),bx,bH (aY ah),bA bj.e ah,by omega,xY true U aW ao,rfl,aa⟩)
  (XH ⟨dq,aa⟩)
 have um:decide (c.au.aq<1)=false:=by grind
 rcases dn with⟨bE,dn⟩ | ⟨bE,dn⟩
 ·rcases eX with⟨e1,eX⟩ | ⟨e1,eX⟩
  ·rw[bE,e1];exact amX ⟨bb,um,dn,eX,aa⟩
  rw[bE,e1];exact anP ⟨bb,um,dn,eX,aa⟩
 rw[bE];exact anM ⟨bb,um,dn,aa⟩
end Go.Proofs.YthfnndblgbjniaaGreat
namespace Go.Proofs.YthfnndblgbjniaaGreat
open Go.Sx Go.RowKit Go.Proofs.Tryz
def du(g:bX)(cs:List Cell)(r:az):List Cell×List az×Bool:=match fZ g r.op with | some x=>dV g cs r x | none=>(cs,[],false)
theorem W8(g:bX)(cs:List Cell)(r:az)(ay:g.sz<=8388608)(al:cs.length<=8388608):ar 180 [.agg g.e,.one (.J 4 (cs.map Cell.e)),.agg r.e] [.one (.J 4 ((du g cs r).1.map Cell.e)),.one (.J 5 ((du g cs r).2.1.map az.e)),.one (B (du g cs r).2.2)]:=by
 unfold du;cases h:fZ g r.op with
 | some x=>exact aq6 g cs r x ay al h
 | none=>exact aqk ⟨by simp<;>omega,by simp<;>omega,dt _ Cell.flat _,G6 g r.op (⟨0,0,0,[]⟩,false) (by unfold wG;rw[h]) ay,rfl,aa⟩
theorem aqP(g:bX)(cs:List Cell)(r:az)(ay:g.sz<=8388608)(al:cs.length<=8388608):ar 171 [.agg g.e,.one (.J 4 (cs.map Cell.e)),.agg r.e] [.one (.J 4 ((du g cs r).1.map Cell.e)),.one (.J 5 ((du g cs r).2.1.map az.e)),.one (B (du g cs r).2.2)]:=by
 unfold du;cases h:fZ g r.op with
 | some x=>exact aq7 g cs r x ay al h
 | none=>
  have c1:=Ac g ay;have c2:=wI r;have cP:=z' g r.op false (by rw[h];rfl) ay;have cF:=wF cs al;generalize ej g=e7 at*;generalize eO r=fT at*;cases e7 with
  | false=>exact Xf ⟨c1,rfl,cF,aa⟩
  | true=>
   cases fT with
   | false=>exact Xg ⟨c1,rfl,c2,rfl,cF,aa⟩
   | true=>exact arD ⟨c1,rfl,c2,rfl,cP,rfl,cF,aa⟩
def k5(g:bX)(r:az)(x:Node):Bool:=ej g&&eO r&&x.kind==7&&decide (0<x.outs.length)&&!(fg r.bl).2
def cr(g:bX)(r:az):Bool:=match fZ g r.op with | some x=>k5 g r x | none=>false
theorem aqQ(g:bX)(r:az)(x:Node)(ay:g.sz<=8388608)(aW:fZ g r.op=some x):ar 181 [.agg g.e,.agg r.e] [.one (B (k5 g r x))]:=by
 have c1:=G6 g r.op (x,true) (by unfold wG;rw[aW]) ay;have c2:=Aa r.bl;have cP:=Ab g ay;rcases cU (ej g) with aJ | aJ
 ·skip
  have hc:=uT r;rcases cU (eO r) with bw | bw
  ·skip
   rcases cU (x.kind==7) with b1 | b1
   ·skip
    rcases cU (decide ((↑(x.outs.map bd).length:Int)>0)) with dA | dA
    ·skip
     rw[show k5 g r x=(!((fg r.bl).2)) from by grind[k5]];exact aqe ⟨c1,c2,rfl,cP,aJ,hc,bw,b1,dA,aa⟩
    skip
    rw[show k5 g r x=false from by grind[k5]];exact aqf ⟨c1,c2,rfl,cP,aJ,hc,bw,b1,dA,aa⟩
   skip
   rw[show k5 g r x=false from by grind[k5]];exact aqg ⟨c1,c2,rfl,cP,aJ,hc,bw,b1,aa⟩
  skip
  rw[show k5 g r x=false from by grind[k5]];exact aqh ⟨c1,c2,rfl,cP,aJ,hc,bw,aa⟩
 skip
 rw[show k5 g r x=false from by grind[k5]];exact aqi ⟨c1,c2,rfl,cP,aJ,aa⟩
theorem W9(g:bX)(r:az)(ay:g.sz<=8388608):ar 181 [.agg g.e,.agg r.e] [.one (B (cr g r))]:=by
 unfold cr;cases h:fZ g r.op with
 | some x=>exact aqQ g r x ay h
 | none=>exact aqj ⟨G6 g r.op (⟨0,0,0,[]⟩,false) (by unfold wG;rw[h]) ay,Aa r.bl,rfl,aa⟩
theorem Pk{g:bX}(h:ej g=true){op:Int}{x:Node}(aW:fZ g op=some x):aU x=true:=by
 simp only[ej,cu,gp]at h;unfold fZ at aW;split at aW
 ·have:=AO h.2 op.toNat x aW;simp only[jR,fC,jC]at this;exact this.1.1
 cases aW
theorem ap1{x:Node}(h:aU x=true):x.outs.length<=2:=by
 simp only[aU,cu,cj]at h;exact h.1.1.1.2
theorem ap2(kind:Int)(cs:List Cell)(x:Cell):(cB kind cs x).1.length<=cs.length+1:=by
 have h1:=Wc cs x;have U:=Wc (cs.filter fun a=>!eY x a) x;have aA:=o2 (fun a=>!eY x a) cs;unfold cB;split
 ·split<;>simp<;>omega
 split
 ·unfold ih;split<;>simp<;>omega
 simp
theorem ap3{g:bX}(ay:ej g=true)(cs:List Cell)(r:az):(du g cs r).1.length<=cs.length+1/\(du g cs r).2.1.length<=2:=by
 unfold du;cases h:fZ g r.op with
 | none=>exact⟨by simp,by simp⟩
 | some x=>
  have ag:=ap1 (Pk ay h);have aC:=ap2 x.kind cs ⟨r.op,r.bl.ba,r.key,r.val⟩;have ao:∀s k v,(fu x s k v).length<=2:=fun s k v=>by simpa[fu]using ag
  simp only[dV];split
  ·split
   ·exact⟨by simp,by simp⟩
   split
   ·exact⟨aC,by simp⟩
   split
   ·refine⟨aC,?_⟩;cases (fg r.bl).2 with
    | true=>exact ao _ _ _
    | false=>simp
   exact⟨aC,ao _ _ _⟩
  exact⟨by simp,by simp⟩
end Go.Proofs.YthfnndblgbjniaaGreat
namespace Go.Proofs.YthfnndblgbjniaaGreat
open Go.Sx Go.RowKit Go.Proofs.Tryz
def HV(p:Cell×Cell):Bool:=decide (i' p.1 p.2>=0)
def k6(xs:List Cell):Bool:=!((xs.zip (xs.drop 1)).any HV)
variable{xs:List Cell}
theorem DI{i:Nat}{p:Cell×Cell}(h:(xs.zip (xs.drop 1))[i]?=some p):xs[i]?=some p.1/\xs[i+1]?=some p.2:=by
 rw[List.getElem?_zip_eq_some]at h;obtain⟨h1,U⟩:=h;rw[lx,Nat.add_comm]at U;exact⟨h1,U⟩
theorem ap4(xs:List Cell)(al:xs.length<=8388608):ar 118 [.one (.J 4 (xs.map Cell.e))] [.one (B (k6 xs))]:=by
 have bE:∀i:Nat,(((i:Int)+1)-1).toNat=i:=fun i=>by omega
 have e1:∀i:Nat,(((i:Int)+1)).toNat=i+1:=fun i=>by omega
 have bb:(xs.zip (xs.drop 1)).length=xs.length-1:=by simp
 have l:=gl (P:=prog) (c:=(ap f118 0)) (xs.zip (xs.drop 1)) HV (fun i=>wM (xs.map Cell.e) ((i:Int)+1)) (X:=fun _ _=>O3 false) eC (cn 0)
  (fun i a ah h=>by
   obtain⟨h1,U⟩:=DI ah;have hi:=aY U;refine oX (wM (xs.map Cell.e)) (am1 ⟨dh (by simp only[b'];omega),⟨by omega,by omega⟩,by omega,by simp only[b'];omega,by rw[bE,dI,h1];rfl,by omega,by simp only[b'];omega,by rw[e1,dI,U];rfl,G2 a.1 a.2,h,⟨by omega,by omega⟩,aa⟩) (by omega))
  (fun i a ah h=>by
   obtain⟨h1,U⟩:=DI ah;have hi:=aY U;exact am0 ⟨dh (by simp only[b'];omega),⟨by omega,by omega⟩,by omega,by simp only[b'];omega,by rw[bE,dI,h1];rfl,by omega,by simp only[b'];omega,by rw[e1,dI,U];rfl,G2 a.1 a.2,h,aa⟩)
  (am2 ⟨ea (by rw[bb];simp only[b'];omega),aa⟩)
 unfold k6;rcases l with⟨_,_,h1,U⟩ | ⟨i,a,_,_,_,_,h1,U⟩
 ·rw[h1];exact am4 ⟨U,aa⟩
 rw[h1];exact am3 ⟨U,aa⟩
theorem W'{r:Bool}(h:k6 xs=r)(al:xs.length<=8388608):ar 118 [.one (.J 4 (xs.map Cell.e))] [.one (B r)]:=h▸ap4 xs al
theorem ap5(xs:List Cell)(al:xs.length<=8388608):ar 114 [.one (.J 4 (xs.map Cell.e))] [.one (B (k6 xs))]:=by
 have bE:∀i:Nat,(((i:Int)+1)-1).toNat=i:=fun i=>by omega
 have e1:∀i:Nat,(((i:Int)+1)).toNat=i+1:=fun i=>by omega
 have bb:(xs.zip (xs.drop 1)).length=xs.length-1:=by simp
 have l:=gl (P:=prog) (c:=(ap f114 0)) (xs.zip (xs.drop 1)) HV (fun i=>wN (xs.map Cell.e) ((i:Int)+1)) (X:=fun _ _=>O4 false) eC (cn 0)
  (fun i a ah h=>by
   obtain⟨h1,U⟩:=DI ah;have hi:=aY U;refine oX (wN (xs.map Cell.e)) (am6 ⟨dh (by simp only[b'];omega),⟨by omega,by omega⟩,by omega,by simp only[b'];omega,by rw[bE,dI,h1];rfl,by omega,by simp only[b'];omega,by rw[e1,dI,U];rfl,G1 a.1 a.2,h,⟨by omega,by omega⟩,aa⟩) (by omega))
  (fun i a ah h=>by
   obtain⟨h1,U⟩:=DI ah;have hi:=aY U;exact am5 ⟨dh (by simp only[b'];omega),⟨by omega,by omega⟩,by omega,by simp only[b'];omega,by rw[bE,dI,h1];rfl,by omega,by simp only[b'];omega,by rw[e1,dI,U];rfl,G1 a.1 a.2,h,aa⟩)
  (am7 ⟨ea (by rw[bb];simp only[b'];omega),aa⟩)
 unfold k6;rcases l with⟨_,_,h1,U⟩ | ⟨i,a,_,_,_,_,h1,U⟩
 ·rw[h1];exact am9 ⟨U,aa⟩
 rw[h1];exact am8 ⟨U,aa⟩
theorem Xa{r:Bool}(h:k6 xs=r)(al:xs.length<=8388608):ar 114 [.one (.J 4 (xs.map Cell.e))] [.one (B r)]:=h▸ap5 xs al
def kl(g:bX)(r:az):Bool:=!eO r||decide (r.op>=(g.nodes.length:Int))
def gJ(g:bX)(xs:List az):Bool:=!(xs.any (kl g))
theorem ap6{r:az}(h:eO r=true):0<=r.op:=by
 simp only[eO,cu,ax,cj]at h;omega
theorem ap7(g:bX)(xs:List az)(al:xs.length<=8388608):ar 75 [.agg g.e,.one (.J 5 (xs.map az.e))] [.one (B (gJ g xs))]:=by
 have l:=gl (P:=prog) (c:=(ap f75 0)) xs (kl g) (fun i=>wO (g.nodes.map Node.e) g.aq g.cap (xs.map az.e) i) (X:=fun _ _=>Hb false) eC (cn 0)
  (fun i a ah h=>by
   simp only[kl,fC,jC]at h;have c:=uT a;rw[h.1]at c;exact anc ⟨bV (aY ah),bx,bH (aY ah),bA az.e ah,c,rfl,bx,bH (aY ah),bA az.e ah,by rw[b'];exact h.2,c0 (aY ah) al,aa⟩)
  (fun i a ah h=>by
   have c:=uT a;cases aC:eO a with
   | false=>
    rw[aC]at c;exact ana ⟨bV (aY ah),bx,bH (aY ah),bA az.e ah,c,rfl,aa⟩
   | true=>
    rw[aC]at c;simp only[kl,aC,hy,hn]at h;exact anb ⟨bV (aY ah),bx,bH (aY ah),bA az.e ah,c,rfl,bx,bH (aY ah),bA az.e ah,by rw[b'];exact h,aa⟩)
  (ane ⟨dq,aa⟩)
 unfold gJ;rcases l with⟨_,_,h1,U⟩ | ⟨i,a,_,_,_,_,h1,U⟩
 ·rw[h1];exact ang ⟨U,aa⟩
 rw[h1];exact anf ⟨U,aa⟩
theorem Xb{g:bX}{r:az}(h:eO r=true):(fZ g r.op).isSome=!(decide (r.op>=(g.nodes.length:Int))):=by
 have bJ:=ap6 h;unfold fZ;rw[bq bJ];by_cases ai:r.op>=(g.nodes.length:Int)
 ·rw[dh ai,List.getElem?_eq_none (by omega)];rfl
 rw[ea ai,gU (by omega)];rfl
theorem ap8(g:bX)(xs:List az)(ay:g.sz<=8388608)(al:xs.length<=8388608):ar 72 [.agg g.e,.one (.J 5 (xs.map az.e))] [.one (B (gJ g xs))]:=by
 have l:=gl (P:=prog) (c:=(ap f72 0)) xs (kl g) (fun i=>vP (xs.map az.e) i (g.nodes.map Node.e) g.aq g.cap) (X:=fun _ _=>Hc false) eC (cn 0)
  (fun i a ah h=>by
   simp only[kl,fC,jC]at h;have c:=wI a;rw[h.1]at c;exact anj ⟨bV (aY ah),bx,bH (aY ah),bA az.e ah,c,rfl,z' g a.op true (by rw[Xb h.1,h.2];rfl) ay,rfl,c0 (aY ah) al,aa⟩)
  (fun i a ah h=>by
   have c:=wI a;cases aC:eO a with
   | false=>
    rw[aC]at c;exact anh ⟨bV (aY ah),bx,bH (aY ah),bA az.e ah,c,rfl,aa⟩
   | true=>
    rw[aC]at c;simp only[kl,aC,hy,hn]at h;exact ani ⟨bV (aY ah),bx,bH (aY ah),bA az.e ah,c,rfl,z' g a.op false (by rw[Xb aC,h];rfl) ay,rfl,aa⟩)
  (ank ⟨dq,aa⟩)
 unfold gJ;rcases l with⟨_,_,h1,U⟩ | ⟨i,a,_,_,_,_,h1,U⟩
 ·rw[h1];exact anm ⟨U,aa⟩
 rw[h1];exact anl ⟨U,aa⟩
theorem xZ(g:bX)(xs:List az)(r:Bool)(h:gJ g xs=r)(_:g.sz<=8388608)(al:xs.length<=8388608):ar 75 [.agg g.e,.one (.J 5 (xs.map az.e))] [.one (B r)]:=h▸ap7 g xs al
theorem x0(g:bX)(xs:List az)(r:Bool)(h:gJ g xs=r)(ay:g.sz<=8388608)(al:xs.length<=8388608):ar 72 [.agg g.e,.one (.J 5 (xs.map az.e))] [.one (B r)]:=h▸ap8 g xs ay al
def jt(l:bj):Bool:=
 ax l.cap 1 4&&ax l.eb 0 l.cap&&ax l.back 0 l.cap&&(l.eb+l.back+l.queue.length==l.cap)&&ax l.ek 0 1000000000&&decide (0<=l.db)&&(l.db==l.ek-l.queue.length)&&!(l.queue.any fun r=>!eO r)
theorem ap9(xs:List az)(al:xs.length<=8388608):ar 115 [.one (.J 5 (xs.map az.e))] [.one (B (!(xs.any fun r=>!eO r)))]:=by
 have l:=gl (P:=prog) (c:=(ap f115 0)) xs (fun r=>!eO r) (fun i=>xU (xs.map az.e) i) (X:=fun _ _=>Pd false) eC (cn 0)
  (fun i a ah h=>anY ⟨bV (aY ah),bx,bH (aY ah),bA az.e ah,wI a,h,c0 (aY ah) al,aa⟩)
  (fun i a ah h=>anX ⟨bV (aY ah),bx,bH (aY ah),bA az.e ah,wI a,h,aa⟩)
  (anZ ⟨dq,aa⟩)
 rcases l with⟨_,_,h1,U⟩ | ⟨i,a,_,_,_,_,h1,U⟩
 ·rw[h1];exact aps ⟨U,aa⟩
 rw[h1];exact apr ⟨U,aa⟩
theorem HW(l:bj)(al:l.sz<=8388608)(vA:l.db<=9223372036854775807):ar 71 [.agg l.e] [.one (B (jt l))]:=by
 have aH:l.queue.length<=8388608:=al;have c1:=lO l.cap 1 4;have c2:=lO l.eb 0 l.cap;have cP:=lO l.back 0 l.cap;have eI:=lO l.ek 0 1000000000;have hc:=ap9 l.queue aH;unfold jt;cases h1:ax l.cap 1 4 with
 | false=>rw[h1]at c1;exact aop ⟨c1,rfl,aa⟩
 | true=>
 cases U:ax l.eb 0 l.cap with
 | false=>rw[h1]at c1;rw[U]at c2;exact anQ ⟨c1,rfl,c2,rfl,aa⟩
 | true=>
 cases aA:ax l.back 0 l.cap with
 | false=>rw[h1]at c1;rw[U]at c2;rw[aA]at cP;exact anR ⟨c1,rfl,c2,rfl,cP,rfl,aa⟩
 | true=>
 have cA:=h1;have bm:=U;have eK:=aA;simp only[ax,cj]at cA bm eK;rw[h1]at c1;rw[U]at c2;rw[aA]at cP;have gD:aL .i64 (l.eb+l.back):=⟨by omega,by omega⟩
 have ko:aL .i64 (l.eb+l.back+(↑(l.queue.map az.e).length:Int)):=⟨by simp only[b'];omega,by simp only[b'];omega⟩
 cases aJ:(l.eb+l.back+(l.queue.length:Int)==l.cap) with
 | false=>exact anS ⟨c1,rfl,c2,rfl,cP,rfl,gD,ko,by rw[b'];simpa using aJ,aa⟩
 | true=>
 have v4:(l.eb+l.back+(↑(l.queue.map az.e).length:Int) != l.cap)=false:=by rw[b'];simpa using aJ
 cases a7:ax l.ek 0 1000000000 with
 | false=>rw[a7]at eI;exact anT ⟨c1,rfl,c2,rfl,cP,rfl,gD,ko,v4,eI,rfl,aa⟩
 | true=>
 have ke:=a7;simp only[ax,cj]at ke;rw[a7]at eI;by_cases bw:l.db<0
 ·rw[ea (show ¬0<=l.db by omega)];exact anU ⟨c1,rfl,c2,rfl,cP,rfl,gD,ko,v4,eI,rfl,dh bw,aa⟩
 rw[dh (show 0<=l.db by omega)];have u6:aL .i64 (l.ek-l.db):=⟨by omega,by omega⟩
 ·by_cases b1:l.db=l.ek-(l.queue.length:Int)
  ·rw[show (l.db==l.ek-(l.queue.length:Int))=true from by simpa using b1];exact anW ⟨c1,rfl,c2,rfl,cP,rfl,gD,ko,v4,eI,rfl,ea bw,u6,by rw[b'];simp;omega,hc,aa⟩
  rw[show (l.db==l.ek-(l.queue.length:Int))=false from by simpa using b1];exact anV ⟨c1,rfl,c2,rfl,cP,rfl,gD,ko,v4,eI,rfl,ea bw,u6,by rw[b'];simp;omega,aa⟩
theorem HX(l:bj)(al:l.sz<=8388608):ar 74 [.agg l.e] [.one (B (jt l))]:=by
 have aH:l.queue.length<=8388608:=al;have aQ:=gl (P:=prog) (c:=(ap f74 0)) l.queue (fun r=>!eO r) (fun i=>xz l.cap (l.queue.map az.e) l.eb l.back l.ek l.db i) (X:=fun _ _=>Pc false) eC (cn 0)
  (fun i a ah h=>aof ⟨bV (aY ah),bx,bH (aY ah),bA az.e ah,uT a,h,c0 (aY ah) aH,aa⟩)
  (fun i a ah h=>aoe ⟨bV (aY ah),bx,bH (aY ah),bA az.e ah,uT a,h,aa⟩)
  (aog ⟨dq,aa⟩)
 unfold jt;rcases aQ with⟨_,_,bJ,aQ⟩ | ⟨i,a,_,_,_,_,bJ,aQ⟩
 case inr=>
  rw[bJ,hy,Bool.and_false];exact aoh ⟨aQ,aa⟩
 rw[bJ,o3,va];have c1:=js l.cap 1 4;have c2:=js l.eb 0 l.cap;have cP:=js l.back 0 l.cap;have eI:=js l.ek 0 1000000000;cases h1:ax l.cap 1 4 with
 | false=>rw[h1]at c1;exact aoo ⟨aQ,c1,rfl,aa⟩
 | true=>
 cases U:ax l.eb 0 l.cap with
 | false=>rw[h1]at c1;rw[U]at c2;exact aon ⟨aQ,c1,rfl,c2,rfl,aa⟩
 | true=>
 cases aA:ax l.back 0 l.cap with
 | false=>rw[h1]at c1;rw[U]at c2;rw[aA]at cP;exact aom ⟨aQ,c1,rfl,c2,rfl,cP,rfl,aa⟩
 | true=>
 have cA:=h1;have bm:=U;have eK:=aA;simp only[ax,cj]at cA bm eK;rw[h1]at c1;rw[U]at c2;rw[aA]at cP;have gD:aL .i64 (l.eb+l.back):=⟨by omega,by omega⟩
 have ko:aL .i64 (l.eb+l.back+(↑(l.queue.map az.e).length:Int)):=⟨by simp only[b'];omega,by simp only[b'];omega⟩
 cases aJ:(l.eb+l.back+(l.queue.length:Int)==l.cap) with
 | false=>exact aol ⟨aQ,c1,rfl,c2,rfl,cP,rfl,gD,ko,by rw[b'];exact aJ,aa⟩
 | true=>
 have v4:(l.eb+l.back+(↑(l.queue.map az.e).length:Int)==l.cap)=true:=by rw[b'];exact aJ
 cases a7:ax l.ek 0 1000000000 with
 | false=>rw[a7]at eI;exact aok ⟨aQ,c1,rfl,c2,rfl,cP,rfl,gD,ko,v4,eI,rfl,aa⟩
 | true=>
 have ke:=a7;simp only[ax,cj]at ke;rw[a7]at eI;have u6:aL .i64 (l.ek-(↑(l.queue.map az.e).length:Int)):=⟨by simp only[b'];omega,by simp only[b'];omega⟩
 cases b1:(l.db==l.ek-(l.queue.length:Int)) with
 | false=>
  rw[Bool.and_false];exact aoj ⟨aQ,c1,rfl,c2,rfl,cP,rfl,gD,ko,v4,eI,rfl,u6,by rw[b'];exact b1,aa⟩
 | true=>
  rw[va];exact aoi ⟨aQ,c1,rfl,c2,rfl,cP,rfl,gD,ko,v4,eI,rfl,u6,by rw[b'];exact b1,aa⟩
end Go.Proofs.YthfnndblgbjniaaGreat
namespace Go.Proofs.YthfnndblgbjniaaGreat
open Go.Sx Go.RowKit Go.Proofs.Tryz
def my(xs:List az)(i:Nat)(r:az):Bool:=
 r.op != 0||r.bl.dc != 0||(match i with | 0=>false | j+1=>match xs[j]? with | some q=>decide (q.bl.ba>r.bl.ba) | none=>false)
theorem Xc{xs:List az}{i:Nat}{a:az}(ah:xs[i]?=some a)(h:my xs i a=true):
  (a.op != 0)=true\/((a.op != 0)=false/\(a.bl.dc != 0)=true)\/((a.op != 0)=false/\(a.bl.dc != 0)=false/\∃j b,i=j+1/\xs[j]?=some b/\decide (b.bl.ba>a.bl.ba)=true):=by
 unfold my at h;cases h1:(a.op != 0) with
 | true=>exact .inl rfl
 | false=>
 cases U:(a.bl.dc != 0) with
 | true=>exact .inr (.inl ⟨rfl,rfl⟩)
 | false=>
 rw[h1,U,hn,hn]at h;cases i with
 | zero=>cases h
 | succ j=>
  have bf:j<xs.length:=by have:=aY ah;omega
  obtain⟨b,aw⟩:=c5 bf;simp only[aw]at h;exact .inr (.inr ⟨rfl,rfl,j,b,rfl,aw,h⟩)
theorem Xd{xs:List az}{i:Nat}{a:az}(ah:xs[i]?=some a)(h:my xs i a=false):
  (a.op != 0)=false/\(a.bl.dc != 0)=false/\(i=0\/∃j b,i=j+1/\xs[j]?=some b/\decide (b.bl.ba>a.bl.ba)=false):=by
 unfold my at h;rw[fC,fC]at h;obtain⟨⟨h1,U⟩,h⟩:=h;refine⟨h1,U,?_⟩;cases i with
 | zero=>exact .inl rfl
 | succ j=>
  have bf:j<xs.length:=by have:=aY ah;omega
  obtain⟨b,aw⟩:=c5 bf;simp only[aw]at h;exact .inr ⟨j,b,rfl,aw,h⟩
theorem HY{α:Type}(f:α->List D){xs:List α}{j:Nat}{b:α}(h:xs[j]?=some b):(xs.map f)[(((j+1:Nat):Int)-1).toNat]?=some (f b):=by
 rw[show (((j+1:Nat):Int)-1)=(j:Int) by omega];exact bA f h
theorem HZ{α β:Type}{f:α->β}{xs:List α}{j:Nat}{b:α}(h:xs[j]?=some b):(((j+1:Nat):Int)-1)<(↑(xs.map f).length:Int):=by
 have:=aY h;rw[b'];omega
def oN(n:Int):Bool:=!ax n (-1000000) 1000000
def nr(xs:List cS)(i:Nat)(d:cS):Bool:=!ax d.ba 0 3||(xs.take i).any (fun q=>q.ba==d.ba)
theorem gB{α β:Type}{f:α->β}{xs:List α}(h:(xs.length==4)=true):((↑(xs.map f).length:Int) != 4)=false:=by
 rw[b',eq_of_beq h];rfl
theorem vH{α β:Type}{f:α->β}{xs:List α}(h:(xs.length==4)=false):((↑(xs.map f).length:Int) != 4)=true:=by
 rw[b'];have:=ne_of_beq_false h;simp only[bne_iff_ne,lZ];omega
def fb(g:bX)(w:aK):Bool:=
 gJ g w.queue&&(gJ g w.b9&&(gJ g w.bM&&(k6 w.cells&&((w.bB.length==4)&&((w.bN.length==4)&&((w.bk.length==4)&&(!anyI (my w.bM) 0 w.bM&&(!(w.bB.any oN)&&!anyI (nr w.b0) 0 w.b0))))))))
variable{w:aK}
theorem aK.It(h:w.sz<=8388608):w.b9.length<=8388608:=by simp only[aK.sz]at h;omega
theorem aK.Fb(h:w.sz<=8388608):w.cells.length<=8388608:=by simp only[aK.sz]at h;omega
theorem aK.aaI(h:w.sz<=8388608):w.bB.length<=8388608:=by simp only[aK.sz]at h;omega
theorem aK.RT(h:w.sz<=8388608):w.b0.length<=8388608:=by simp only[aK.sz]at h;omega
theorem aqa(w:aK)(al:w.bM.length<=8388608):
  (anyI (my w.bM) 0 w.bM=false/\c8 prog (ap f73 0) (p1 (w.queue.map az.e) (w.b9.map az.e) (w.bM.map az.e) (w.cells.map Cell.e) (w.bB.map bd) (w.bN.map cG) (w.bk.map cG) (w.b0.map cS.e) 0) (.exit 0) (LX (w.queue.map az.e) (w.b9.map az.e) (w.bM.map az.e) (w.cells.map Cell.e) (w.bB.map bd) (w.bN.map cG) (w.bk.map cG) (w.b0.map cS.e)))\/
  (anyI (my w.bM) 0 w.bM=true/\c8 prog (ap f73 0) (p1 (w.queue.map az.e) (w.b9.map az.e) (w.bM.map az.e) (w.cells.map Cell.e) (w.bB.map bd) (w.bN.map cG) (w.bk.map cG) (w.b0.map cS.e) 0) .ret (CE false)):=
 qQ (P:=prog) (c:=(ap f73 0)) w.bM (my w.bM) (fun i=>p1 (w.queue.map az.e) (w.b9.map az.e) (w.bM.map az.e) (w.cells.map Cell.e) (w.bB.map bd) (w.bN.map cG) (w.bk.map cG) (w.b0.map cS.e) i) eC (cn 0)
  (fun i a ah h=>by
   have hi:=aY ah;obtain⟨h1,U,rfl | ⟨j,b,rfl,aw,aA⟩⟩:=Xd ah h
   ·exact aoq ⟨bV (aY ah),bx,bH (aY ah),bA az.e ah,h1,bx,bH (aY ah),bA az.e ah,U,ea (by omega),c0 (aY ah) al,aa⟩
   exact amW ⟨bV (aY ah),bx,bH (aY ah),bA az.e ah,h1,bx,bH (aY ah),bA az.e ah,U,dh (by omega),⟨by omega,by omega⟩,by omega,HZ aw,HY az.e aw,bx,bH (aY ah),bA az.e ah,aA,c0 (aY ah) al,aa⟩)
  (fun i a ah h=>by
   have hi:=aY ah;rcases Xc ah h with h1 | ⟨h1,U⟩ | ⟨h1,U,j,b,rfl,aw,aA⟩
   ·exact amT ⟨bV (aY ah),bx,bH (aY ah),bA az.e ah,h1,aa⟩
   ·exact amU ⟨bV (aY ah),bx,bH (aY ah),bA az.e ah,h1,bx,bH (aY ah),bA az.e ah,U,aa⟩
   exact amV ⟨bV (aY ah),bx,bH (aY ah),bA az.e ah,h1,bx,bH (aY ah),bA az.e ah,U,dh (by omega),⟨by omega,by omega⟩,by omega,HZ aw,HY az.e aw,bx,bH (aY ah),bA az.e ah,aA,aa⟩)
  (aor ⟨dq,aa⟩)
theorem aqb(w:aK)(al:w.b0.length<=8388608):
  (anyI (nr w.b0) 0 w.b0=false/\c8 prog (ap f73 2) (s0 (w.queue.map az.e) (w.b9.map az.e) (w.bM.map az.e) (w.cells.map Cell.e) (w.bB.map bd) (w.bN.map cG) (w.bk.map cG) (w.b0.map cS.e) 0) (.exit 4) O8)\/
  (anyI (nr w.b0) 0 w.b0=true/\c8 prog (ap f73 2) (s0 (w.queue.map az.e) (w.b9.map az.e) (w.bM.map az.e) (w.cells.map Cell.e) (w.bB.map bd) (w.bN.map cG) (w.bk.map cG) (w.b0.map cS.e) 0) .ret (Gx false)):=by
 have inner:∀(i:Nat) (a:cS),w.b0[i]?=some a->
   (((w.b0.take i).any (fun q=>q.ba==a.ba))=false/\c8 prog (ap f73 3) (uB (w.queue.map az.e) (w.b9.map az.e) (w.bM.map az.e) (w.cells.map Cell.e) (w.bB.map bd) (w.bN.map cG) (w.bk.map cG) (w.b0.map cS.e) i 0) (.exit 6) (O7 (w.queue.map az.e) (w.b9.map az.e) (w.bM.map az.e) (w.cells.map Cell.e) (w.bB.map bd) (w.bN.map cG) (w.bk.map cG) (w.b0.map cS.e) i))\/
   (((w.b0.take i).any (fun q=>q.ba==a.ba))=true/\c8 prog (ap f73 3) (uB (w.queue.map az.e) (w.b9.map az.e) (w.bM.map az.e) (w.cells.map Cell.e) (w.bB.map bd) (w.bN.map cG) (w.bk.map cG) (w.b0.map cS.e) i 0) .ret (Gy false)):=by
  intro i a ah;have hi:=aY ah;have hlen:(w.b0.take i).length=i:=by rw[nC];omega
  have hG:∀{k:Nat} {b:cS},(w.b0.take i)[k]?=some b->k<i/\w.b0[k]?=some b:=fun {k b} h=>by
   have hk:=aY h;rw[hlen]at hk;rw[jZ,bq hk]at h;exact⟨hk,h⟩
  have l:=gl (P:=prog) (c:=(ap f73 3)) (w.b0.take i) (fun q=>q.ba==a.ba) (fun k=>uB (w.queue.map az.e) (w.b9.map az.e) (w.bM.map az.e) (w.cells.map Cell.e) (w.bB.map bd) (w.bN.map cG) (w.bk.map cG) (w.b0.map cS.e) i k) (X:=fun _ _=>Gy false) eC (cn 6)
   (fun k b aw h=>by
    obtain⟨hk,aw⟩:=hG aw;exact aoz ⟨dh (by omega),bx,bH (aY aw),bA cS.e aw,bx,bH (aY ah),bA cS.e ah,h,c0 (aY aw) al,aa⟩)
   (fun k b aw h=>by
    obtain⟨hk,aw⟩:=hG aw;exact aoy ⟨dh (by omega),bx,bH (aY aw),bA cS.e aw,bx,bH (aY ah),bA cS.e ah,h,aa⟩)
   (aoA ⟨ea (by rw[hlen];omega),aa⟩)
  rcases l with⟨_,_,h1,U⟩ | ⟨_,_,_,_,_,_,h1,U⟩
  ·exact .inl ⟨h1,U⟩
  exact .inr ⟨h1,U⟩
 exact qQ (P:=prog) (c:=(ap f73 2)) w.b0 (nr w.b0) (fun i=>s0 (w.queue.map az.e) (w.b9.map az.e) (w.bM.map az.e) (w.cells.map Cell.e) (w.bB.map bd) (w.bN.map cG) (w.bk.map cG) (w.b0.map cS.e) i) eC (cn 4)
  (fun i a ah h=>by
   simp only[nr,fC,jC]at h;rcases inner i a ah with⟨e,l⟩ | ⟨e,l⟩
   ·exact aoC ⟨bV (aY ah),bx,bH (aY ah),bA cS.e ah,fm _ _ _ true h.1,rfl,l,c0 (aY ah) al,aa⟩
   rw[h.2]at e;cases e)
  (fun i a ah h=>by
   cases h1:ax a.ba 0 3 with
   | false=>exact aox ⟨bV (aY ah),bx,bH (aY ah),bA cS.e ah,fm _ _ _ false h1,rfl,aa⟩
   | true=>
    simp only[nr,h1,hy,hn]at h;rcases inner i a ah with⟨e,l⟩ | ⟨e,l⟩
    ·rw[h]at e;cases e
    exact aoB ⟨bV (aY ah),bx,bH (aY ah),bA cS.e ah,fm _ _ _ true h1,rfl,l,aa⟩)
  (aoD ⟨dq,aa⟩)
theorem H0(g:bX)(w:aK)(ay:g.sz<=8388608)(hw:w.sz<=8388608):ar 73 [.agg g.e,.agg w.e] [.one (B (fb g w))]:=by
 unfold fb;cases h1:gJ g w.queue with
 | false=>exact ann ⟨xZ g _ _ h1 ay (aK.tt hw),rfl,aa⟩
 | true=>
 have c1:=xZ g _ _ h1 ay (aK.tt hw);cases U:gJ g w.b9 with
 | false=>exact amN ⟨c1,rfl,xZ g _ _ U ay (aK.It hw),rfl,aa⟩
 | true=>
 have c2:=xZ g _ _ U ay (aK.It hw);cases aA:gJ g w.bM with
 | false=>exact amO ⟨c1,rfl,c2,rfl,xZ g _ _ aA ay (aK.sU hw),rfl,aa⟩
 | true=>
 have cP:=xZ g _ _ aA ay (aK.sU hw);cases aJ:k6 w.cells with
 | false=>exact amP ⟨c1,rfl,c2,rfl,cP,rfl,W' aJ (aK.Fb hw),rfl,aa⟩
 | true=>
 have eI:=W' aJ (aK.Fb hw);cases a7:(w.bB.length==4) with
 | false=>exact amQ ⟨c1,rfl,c2,rfl,cP,rfl,eI,rfl,vH a7,aa⟩
 | true=>
 cases bw:(w.bN.length==4) with
 | false=>exact amR ⟨c1,rfl,c2,rfl,cP,rfl,eI,rfl,gB a7,vH bw,aa⟩
 | true=>
 cases b1:(w.bk.length==4) with
 | false=>exact amS ⟨c1,rfl,c2,rfl,cP,rfl,eI,rfl,gB a7,gB bw,vH b1,aa⟩
 | true=>
 have rG:w.bB.length=4:=eq_of_beq a7;rcases aqa w (aK.sU hw) with⟨dA,kB⟩ | ⟨dA,kB⟩
 case inr=>rw[dA];exact aos ⟨c1,rfl,c2,rfl,cP,rfl,eI,rfl,gB a7,gB bw,gB b1,kB,aa⟩
 have pI:=gl (P:=prog) (c:=(ap f73 1)) w.bB oN (fun i=>vQ (w.queue.map az.e) (w.b9.map az.e) (w.bM.map az.e) (w.cells.map Cell.e) (w.bB.map bd) (w.bN.map cG) (w.bk.map cG) (w.b0.map cS.e) i) (X:=fun _ _=>O5 false) eC (cn 2)
  (fun i a ah h=>aou ⟨dh (by have:=aY ah;omega),bx,bH (aY ah),bA bd ah,fm _ _ _ true (by simpa[oN]using h),rfl,c0 (aY ah) (aK.aaI hw),aa⟩)
  (fun i a ah h=>aot ⟨dh (by have:=aY ah;omega),bx,bH (aY ah),bA bd ah,fm _ _ _ false (by simpa[oN]using h),rfl,aa⟩)
  (aov ⟨ea (by omega),aa⟩)
 rw[dA];rcases pI with⟨_,_,ez,pI⟩ | ⟨_,_,_,_,_,_,ez,pI⟩
 case inr=>rw[ez];exact aow ⟨c1,rfl,c2,rfl,cP,rfl,eI,rfl,gB a7,gB bw,gB b1,kB,pI,aa⟩
 rw[ez];rcases aqb w (aK.RT hw) with⟨dZ,xv⟩ | ⟨dZ,xv⟩
 ·rw[dZ];exact aoF ⟨c1,rfl,c2,rfl,cP,rfl,eI,rfl,gB a7,gB bw,gB b1,kB,pI,xv,aa⟩
 rw[dZ];exact aoE ⟨c1,rfl,c2,rfl,cP,rfl,eI,rfl,gB a7,gB bw,gB b1,kB,pI,xv,aa⟩
end Go.Proofs.YthfnndblgbjniaaGreat
namespace Go.Proofs.YthfnndblgbjniaaGreat
open Go.Sx Go.RowKit Go.Proofs.Tryz
theorem aqc(w:aK)(al:w.bM.length<=8388608):
  (anyI (my w.bM) 0 w.bM=false/\c8 prog (ap f70 0) (pN (w.bM.map az.e) 0 (w.queue.map az.e) (w.b9.map az.e) (w.bM.map az.e) (w.cells.map Cell.e) (w.bB.map bd) (w.bN.map cG) (w.bk.map cG) (w.b0.map cS.e)) (.exit 0) (LU (w.queue.map az.e) (w.b9.map az.e) (w.bM.map az.e) (w.cells.map Cell.e) (w.bB.map bd) (w.bN.map cG) (w.bk.map cG) (w.b0.map cS.e)))\/
  (anyI (my w.bM) 0 w.bM=true/\c8 prog (ap f70 0) (pN (w.bM.map az.e) 0 (w.queue.map az.e) (w.b9.map az.e) (w.bM.map az.e) (w.cells.map Cell.e) (w.bB.map bd) (w.bN.map cG) (w.bk.map cG) (w.b0.map cS.e)) .ret (CF false)):=
 qQ (P:=prog) (c:=(ap f70 0)) w.bM (my w.bM) (fun i=>pN (w.bM.map az.e) i (w.queue.map az.e) (w.b9.map az.e) (w.bM.map az.e) (w.cells.map Cell.e) (w.bB.map bd) (w.bN.map cG) (w.bk.map cG) (w.b0.map cS.e)) eC (cn 0)
  (fun i a ah h=>by
   have hi:=aY ah;obtain⟨h1,U,rfl | ⟨j,b,rfl,aw,aA⟩⟩:=Xd ah h
   ·exact aoO ⟨bV (aY ah),bx,bH (aY ah),bA az.e ah,h1,U,ea (by omega),c0 (aY ah) al,aa⟩
   exact aoN ⟨bV (aY ah),bx,bH (aY ah),bA az.e ah,h1,U,dh (by omega),⟨by omega,by omega⟩,by omega,HZ aw,HY az.e aw,aA,c0 (aY ah) al,aa⟩)
  (fun i a ah h=>by
   have hi:=aY ah;rcases Xc ah h with h1 | ⟨h1,U⟩ | ⟨h1,U,j,b,rfl,aw,aA⟩
   ·exact aoK ⟨bV (aY ah),bx,bH (aY ah),bA az.e ah,h1,aa⟩
   ·exact aoL ⟨bV (aY ah),bx,bH (aY ah),bA az.e ah,h1,U,aa⟩
   exact aoM ⟨bV (aY ah),bx,bH (aY ah),bA az.e ah,h1,U,dh (by omega),⟨by omega,by omega⟩,by omega,HZ aw,HY az.e aw,aA,aa⟩)
  (aoP ⟨dq,aa⟩)
theorem Xe(xs:List cS)(i:Nat)(e:Int)(r:Bool)(h:(xs.take i).any (fun q=>q.ba==e)=r)(al:xs.length<=8388608):ar 77 [.one (.J 2 ((xs.map cS.e).take i)),.one (I e)] [.one (B r)]:=by
 have c:=Xv (xs.take i) e (by rw[nC];omega);rw[q3,h]at c;exact c
theorem aqd(w:aK)(al:w.b0.length<=8388608):
  (anyI (nr w.b0) 0 w.b0=false/\c8 prog (ap f70 2) (s3 (w.b0.map cS.e) 0 (w.queue.map az.e) (w.b9.map az.e) (w.bM.map az.e) (w.cells.map Cell.e) (w.bB.map bd) (w.bN.map cG) (w.bk.map cG) (w.b0.map cS.e)) (.exit 4) Pb)\/
  (anyI (nr w.b0) 0 w.b0=true/\c8 prog (ap f70 2) (s3 (w.b0.map cS.e) 0 (w.queue.map az.e) (w.b9.map az.e) (w.bM.map az.e) (w.cells.map Cell.e) (w.bB.map bd) (w.bN.map cG) (w.bk.map cG) (w.b0.map cS.e)) .ret (Gz false)):=
 qQ (P:=prog) (c:=(ap f70 2)) w.b0 (nr w.b0) (fun i=>s3 (w.b0.map cS.e) i (w.queue.map az.e) (w.b9.map az.e) (w.bM.map az.e) (w.cells.map Cell.e) (w.bB.map bd) (w.bN.map cG) (w.bk.map cG) (w.b0.map cS.e)) eC (cn 4)
  (fun i a ah h=>by
   have hi:=aY ah;simp only[nr,fC,jC]at h;exact aoa ⟨bV (aY ah),bx,bH (aY ah),bA cS.e ah,fY true h.1,rfl,Int.le_refl 0,(bx:(0:Int)<=(i:Int)),(show (i:Int)<=_ by rw[b'];omega),Xe w.b0 i a.ba false h.2 al,rfl,c0 (aY ah) al,aa⟩)
  (fun i a ah h=>by
   have hi:=aY ah;cases h1:ax a.ba 0 3 with
   | false=>exact an8 ⟨bV (aY ah),bx,bH (aY ah),bA cS.e ah,fY false h1,rfl,aa⟩
   | true=>
    simp only[nr,h1,hy,hn]at h;exact an9 ⟨bV (aY ah),bx,bH (aY ah),bA cS.e ah,fY true h1,rfl,Int.le_refl 0,(bx:(0:Int)<=(i:Int)),(show (i:Int)<=_ by rw[b'];omega),Xe w.b0 i a.ba true h al,rfl,aa⟩)
  (aob ⟨dq,aa⟩)
theorem H2(g:bX)(w:aK)(ay:g.sz<=8388608)(hw:w.sz<=8388608):ar 70 [.agg g.e,.agg w.e] [.one (B (fb g w))]:=by
 unfold fb;cases h1:gJ g w.queue with
 | false=>exact aoG ⟨x0 g _ _ h1 ay (aK.tt hw),rfl,aa⟩
 | true=>
 have c1:=x0 g _ _ h1 ay (aK.tt hw);cases U:gJ g w.b9 with
 | false=>exact aoH ⟨c1,rfl,x0 g _ _ U ay (aK.It hw),rfl,aa⟩
 | true=>
 have c2:=x0 g _ _ U ay (aK.It hw);cases aA:gJ g w.bM with
 | false=>exact aoI ⟨c1,rfl,c2,rfl,x0 g _ _ aA ay (aK.sU hw),rfl,aa⟩
 | true=>
 have cP:=x0 g _ _ aA ay (aK.sU hw);cases aJ:k6 w.cells with
 | false=>exact aoJ ⟨c1,rfl,c2,rfl,cP,rfl,Xa aJ (aK.Fb hw),rfl,aa⟩
 | true=>
 have eI:=Xa aJ (aK.Fb hw);rcases aqc w (aK.sU hw) with⟨dA,kB⟩ | ⟨dA,kB⟩
 case inr=>
  rw[dA];simp only[hy,Bool.false_and,Bool.and_false];exact an0 ⟨c1,rfl,c2,rfl,cP,rfl,eI,rfl,kB,aa⟩
 cases a7:(w.bB.length==4) with
 | false=>exact an1 ⟨c1,rfl,c2,rfl,cP,rfl,eI,rfl,kB,vH a7,aa⟩
 | true=>
 cases bw:(w.bN.length==4) with
 | false=>exact an2 ⟨c1,rfl,c2,rfl,cP,rfl,eI,rfl,kB,gB a7,vH bw,aa⟩
 | true=>
 cases b1:(w.bk.length==4) with
 | false=>exact an3 ⟨c1,rfl,c2,rfl,cP,rfl,eI,rfl,kB,gB a7,gB bw,vH b1,aa⟩
 | true=>
 have pI:=gl (P:=prog) (c:=(ap f70 1)) w.bB oN (fun i=>vR (w.queue.map az.e) (w.b9.map az.e) (w.bM.map az.e) (w.cells.map Cell.e) (w.bB.map bd) (w.bN.map cG) (w.bk.map cG) (w.b0.map cS.e) i) (X:=fun _ _=>O9 false) eC (cn 2)
  (fun i a ah h=>an5 ⟨bV (aY ah),bx,bH (aY ah),bA bd ah,fY true (by simpa[oN]using h),rfl,c0 (aY ah) (aK.aaI hw),aa⟩)
  (fun i a ah h=>an4 ⟨bV (aY ah),bx,bH (aY ah),bA bd ah,fY false (by simpa[oN]using h),rfl,aa⟩)
  (an6 ⟨dq,aa⟩)
 rw[dA];rcases pI with⟨_,_,ez,pI⟩ | ⟨_,_,_,_,_,_,ez,pI⟩
 case inr=>rw[ez];exact an7 ⟨c1,rfl,c2,rfl,cP,rfl,eI,rfl,kB,gB a7,gB bw,gB b1,pI,aa⟩
 rw[ez];rcases aqd w (aK.RT hw) with⟨dZ,xv⟩ | ⟨dZ,xv⟩
 ·rw[dZ];exact aod ⟨c1,rfl,c2,rfl,cP,rfl,eI,rfl,kB,gB a7,gB bw,gB b1,pI,xv,aa⟩
 rw[dZ];exact aoc ⟨c1,rfl,c2,rfl,cP,rfl,eI,rfl,kB,gB a7,gB bw,gB b1,pI,xv,aa⟩
