import Derived.Test.YthfnndblgbjniaaGreatDoorG4
import Derived.Test.YthfnndblgbjniaaGreatDoorP108
set_option linter.unusedVariables false
set_option linter.unusedSimpArgs false
namespace Go.Proofs.YthfnndblgbjniaaGreatDoor
open Go.Sx Go.RowKit Go.Proofs.Tryz
theorem anu(w:aR)(r:aD)(hw:w.sz<=8388608):al 202 [.agg w.e,.agg r.e] [.agg (kept w r).e]:=by
 have aL:w.queue.length<=8388608:=by simp only[aR.sz]at hw;omega
 rw[Ab];exact anf ⟨xV w hw,tR aL,tS aL,fA (aD.flat r),ad⟩
theorem anv(w:aR)(r:aD)(hw:w.sz<=8388608)(aJ:w.bJ.length=4)(ay:w.bV.length=4)(he:0<=r.bw.bh/\r.bw.bh<=3)(ak:-1000000<=w.bJ.getD r.bw.bh.toNat 0/\w.bJ.getD r.bw.bh.toNat 0<=1000000):
  al 172 [.agg w.e,.agg r.e] [.agg (im w r).e]:=by
 have k:=anu w r hw;rw[Ab]at k;rw[Ue];obtain⟨s1,s2⟩:=xt aJ he;obtain⟨e0,fQ⟩:=qU ay he;have zm:(↑(w.bJ.map bb).length:Int)-1=3:=by rw[cr,aJ];rfl
 exact ang ⟨k,⟨by rw[zm];omega,by rw[zm];omega⟩,fM _ _ _ true (by rw[zm];simp only[av,c3];omega),rfl,dm e0,he.1,s1,s2,⟨by omega,by omega⟩,he.1,s1,s2,he.1,e0,fQ,ad⟩
theorem anw(w:aR)(r:aD)(t:List aD)(hw:w.sz<=8388608)(h:w.ck=r::t):al 174 [.agg w.e] [.agg (il w t).e,.agg r.e,.one (B true)]:=by
 have ar:w.ck.length<=8388608:=by simp only[aR.sz]at hw;omega
 have e:(il w t).e=[.J 5 (w.queue.map aD.e),.J 5 ([]++((w.ck.map aD.e).drop 1).take ((w.ck.map aD.e).length-1)),.J 5 (w.cb.map aD.e),.J 4 (w.cells.map Cell.e),.J 1 (w.bJ.map bb),.J 1 (w.bV.map cp),.J 1 (w.bt.map cp),.J 2 (w.bX.map cz.e)]:=by rw[sO h];rfl
 rw[e];exact ane ⟨xV w hw,kP h,by decide,lF h,l3 h,mm,mn h,mo,rE h ar,rF h ar,rG h,ad⟩
theorem anx(w:aR)(hw:w.sz<=8388608)(h:w.ck=[]):al 174 [.agg w.e] [.agg w.e,.agg (⟨0,⟨0,0⟩,0,0⟩:aD).e,.one (B false)]:=
 anc ⟨xV w hw,qc h,ad⟩
theorem amG(g:b5)(w:aR)(ax:g.sz<=8388608)(hw:w.sz<=8388608):al 175 [.agg g.e,.agg w.e] [.agg (eI g w).1.e,.one (B (eI g w).2)]:=by
 have cx:=xV w hw;have k:=xJ g ax;have kw:=Ey g w ax hw;have pW:w.cells.length<=8388608:=by simp only[aR.sz]at hw;omega
 have lY:w.queue.length<=8388608:=by simp only[aR.sz]at hw;omega
 cases U:ev g with
 | false=>
  rw[U]at k;rw[show eI g w=(w,false) by unfold eI;simp[U]];exact ann ⟨cx,k,rfl,ad⟩
 | true=>
 rw[U]at k;cases aa:eT g w with
 | false=>
  rw[aa]at kw;rw[show eI g w=(w,false) by unfold eI;simp[aa]];exact ano ⟨cx,k,rfl,kw,rfl,ad⟩
 | true=>
 rw[aa]at kw;have hu:eI g w=match w.ck,w.queue with
  | [],r::q=>(⟨q,(dO g w.cells r).2.1,w.cb,(dO g w.cells r).1,w.bJ,w.bV,(if dx g r then w.bt.set r.bw.bh.toNat true else w.bt),w.bX⟩,true)
  | _,_=>(w,false):=by unfold eI;rw[U,aa];rfl
 cases aB:w.ck with
 | cons r q=>
  rw[show eI g w=(w,false) by rw[hu,aB]];exact anp ⟨cx,k,rfl,kw,rfl,sG aB,ad⟩
 | nil=>
 cases aJ:w.queue with
 | nil=>
  rw[show eI g w=(w,false) by rw[hu,aB,aJ]];exact anq ⟨cx,k,rfl,kw,rfl,iQ aB,qc aJ,ad⟩
 | cons r q=>
  have st:=R7 g w.cells r ax pW;have mV:=R8 g r ax;obtain⟨c7,_,_,_,_,_,kt,_⟩:=jy.1 aa;rw[aJ,sL]at c7;have he:=qB c7.1;obtain⟨bK,ct⟩:=qU kt he;cases a6:dx g r with
  | true=>
   rw[a6]at mV;rw[show eI g w=(⟨q,(dO g w.cells r).2.1,w.cb,(dO g w.cells r).1,w.bJ,w.bV,w.bt.set r.bw.bh.toNat true,w.bX⟩,true) by rw[hu,aB,aJ];simp only[a6,gy]];have e:aR.e ⟨q,(dO g w.cells r).2.1,w.cb,(dO g w.cells r).1,w.bJ,w.bV,w.bt.set r.bw.bh.toNat true,w.bX⟩=[.J 5 ([]++((w.queue.map aD.e).drop 1).take ((w.queue.map aD.e).length-1)),.J 5 ((dO g w.cells r).2.1.map aD.e),.J 5 (w.cb.map aD.e),.J 4 ((dO g w.cells r).1.map Cell.e),.J 1 (w.bJ.map bb),.J 1 (w.bV.map cp),.J 1 ((w.bt.map cp).set r.bw.bh.toNat [B true]),.J 2 (w.bX.map cz.e)]:=by
    rw[sO aJ];simp only[aR.e,ib];rfl
   dsimp only;rw[e];exact anr ⟨cx,k,rfl,kw,rfl,iQ aB,kP aJ,by decide,lF aJ,l3 aJ,st,mm,mn aJ,mo,rE aJ lY,rF aJ lY,rG aJ,mV,rfl,he.1,bK,ct,ad⟩
  | false=>
   rw[a6]at mV;rw[show eI g w=(⟨q,(dO g w.cells r).2.1,w.cb,(dO g w.cells r).1,w.bJ,w.bV,w.bt,w.bX⟩,true) by rw[hu,aB,aJ];simp only[a6];rfl];have e:aR.e ⟨q,(dO g w.cells r).2.1,w.cb,(dO g w.cells r).1,w.bJ,w.bV,w.bt,w.bX⟩=[.J 5 ([]++((w.queue.map aD.e).drop 1).take ((w.queue.map aD.e).length-1)),.J 5 ((dO g w.cells r).2.1.map aD.e),.J 5 (w.cb.map aD.e),.J 4 ((dO g w.cells r).1.map Cell.e),.J 1 (w.bJ.map bb),.J 1 (w.bV.map cp),.J 1 (w.bt.map cp),.J 2 (w.bX.map cz.e)]:=by
    rw[sO aJ];rfl
   dsimp only;rw[e];exact ant ⟨cx,k,rfl,kw,rfl,iQ aB,kP aJ,by decide,lF aJ,l3 aJ,st,mm,mn aJ,mo,rE aJ lY,rF aJ lY,rG aJ,mV,rfl,ad⟩
theorem amH(g:b5)(w:aR)(ax:g.sz<=8388608)(hw:w.sz<=8388608):al 171 [.agg g.e,.agg w.e] [.agg (eJ g w).1.e,.one (B (eJ g w).2)]:=by
 have cx:=xV w hw;have k:=xJ g ax;have kw:=Ey g w ax hw;have aL:w.queue.length<=8388608:=by simp only[aR.sz]at hw;omega
 have jL:w.cb.length<=8388608:=by simp only[aR.sz]at hw;omega
 cases U:ev g with
 | false=>
  rw[U]at k;rw[show eJ g w=(w,false) by unfold eJ;simp[U]];exact anh ⟨cx,k,rfl,ad⟩
 | true=>
 rw[U]at k;cases aa:eT g w with
 | false=>
  rw[aa]at kw;rw[show eJ g w=(w,false) by unfold eJ;simp[aa]];exact ani ⟨cx,k,rfl,kw,rfl,ad⟩
 | true=>
 rw[aa]at kw;have hu:eJ g w=match w.ck,w.queue,w.cb with
  | [],[],r::t=>(⟨[r],[],t,w.cells,w.bJ,w.bV,w.bt,w.bX⟩,true)
  | _,_,_=>(w,false):=by unfold eJ;rw[U,aa];rfl
 cases aB:w.ck with
 | cons r q=>
  rw[show eJ g w=(w,false) by rw[hu,aB]];exact anj ⟨cx,k,rfl,kw,rfl,sG aB,ad⟩
 | nil=>
 cases aJ:w.queue with
 | cons r q=>
  rw[show eJ g w=(w,false) by rw[hu,aB,aJ]];exact ank ⟨cx,k,rfl,kw,rfl,iQ aB,sG aJ,ad⟩
 | nil=>
 cases a6:w.cb with
 | nil=>
  rw[show eJ g w=(w,false) by rw[hu,aB,aJ,a6]];exact anl ⟨cx,k,rfl,kw,rfl,iQ aB,iQ aJ,qc a6,ad⟩
 | cons r t=>
  rw[show eJ g w=(⟨[r],[],t,w.cells,w.bJ,w.bV,w.bt,w.bX⟩,true) by rw[hu,aB,aJ,a6]];have e:aR.e ⟨[r],[],t,w.cells,w.bJ,w.bV,w.bt,w.bX⟩=[.J 5 (w.queue.map aD.e++[r.e]),.J 5 (w.ck.map aD.e),.J 5 ([]++((w.cb.map aD.e).drop 1).take ((w.cb.map aD.e).length-1)),.J 4 (w.cells.map Cell.e),.J 1 (w.bJ.map bb),.J 1 (w.bV.map cp),.J 1 (w.bt.map cp),.J 2 (w.bX.map cz.e)]:=by
   rw[sO a6,aJ,aB];rfl
  dsimp only;rw[e];exact anm ⟨cx,k,rfl,kw,rfl,iQ aB,iQ aJ,kP a6,by decide,lF a6,l3 a6,tR aL,tS aL,fA (aD.flat r),mm,mn a6,mo,rE a6 jL,rF a6 jL,rG a6,ad⟩
end Go.Proofs.YthfnndblgbjniaaGreatDoor
namespace Go.Proofs.YthfnndblgbjniaaGreatDoor
open Go.Sx Go.RowKit Go.Proofs.Tryz
inductive Step (c:bi) (p:cf):bi->Prop
 | work (x:aR) (r:aD) (q:List aD) (ba:p.kind=1) (aq:dh c p.a=some x) (ak:x.ck=[]) (aL:x.queue=r::q):
   Step c p (setW c p.a ⟨q,(dO c.aA x.cells r).2.1,x.cb,(dO c.aA x.cells r).1,x.bJ,x.bV,(if dx c.aA r then x.bt.set r.bw.bh.toNat true else x.bt),x.bX⟩)
 | input (x:aR) (r:aD) (t:List aD) (ba:p.kind=2) (aq:dh c p.a=some x) (ak:x.ck=[]) (aL:x.queue=[]) (hi:x.cb=r::t):
   Step c p (setW c p.a ⟨[r],[],t,x.cells,x.bJ,x.bV,x.bt,x.bX⟩)
 | fF (x:aR) (r:aD) (t:List aD) (ba:p.kind=3) (aq:dh c p.a=some x) (ak:x.ck=r::t) (bc:jx r.key c.aA.az=p.a):
   Step c p (setW c p.a (kept (il x t) r))
 | send (x:aR) (r:aD) (t:List aD) (l:br) (ba:p.kind=3) (aq:dh c p.a=some x) (ak:x.ck=r::t) (bc:jx r.key c.aA.az≠p.a)
   (ar:hd c (fg c.aA p.a (jx r.key c.aA.az))=some l) (h:(et l r).2=true):
   Step c p (setW (ea c (fg c.aA p.a (jx r.key c.aA.az)) (et l r).1) p.a (mG (il x t) r.bw.bh))
 | take (l:br) (x:aR) (ba:p.kind=4) (fD:p.a≠p.b) (ar:hd c (fg c.aA p.a p.b)=some l) (aq:dh c p.b=some x) (h:(d' l).2.2=true):
   Step c p (setW (ea c (fg c.aA p.a p.b) (d' l).1) p.b (im x (d' l).2.1))
 | GF (l:br) (ba:p.kind=5) (fD:p.a≠p.b) (ar:hd c (fg c.aA p.a p.b)=some l) (h:(fB l).2=true):
   Step c p (ea c (fg c.aA p.a p.b) (fB l).1)
 | token (t:bW) (x e9:aR) (ba:p.kind=6) (he:av p.a 0 3=true) (b4:dh c 0=some e9) (aI:h5 e9 p.a=false) (bZ:jX c p.a=some t) (aq:dh c t.place=some x) (h:(eA c p.a t x).2=true):
   Step c p (eA c p.a t x).1
 | Hl (k:Nat) (n:bR) (x:aR) (ba:p.kind=7) (a':c.news[k]?=some n) (aI:n.dest=p.a) (aq:dh c p.a=some x):
   Step c p (iu (setW c p.a (hb x n)) (cutAt c.news k))
theorem amI{l:br}{r:aD}(h:(et l r).2=true):ik l=true/\l.eH≠0/\l.e7<1000000000/\(et l r).1=⟨l.cap,l.queue++[r],l.eH-1,l.back,l.e7+1,l.de⟩:=by
 unfold et at h ⊢;grind
theorem amJ{l:br}(h:(d' l).2.2=true):ik l=true/\∃r q,l.queue=r::q/\(d' l).2.1=r/\(d' l).1=⟨l.cap,q,l.eH,l.back+1,l.e7,l.de+1⟩:=by
 unfold d' at h ⊢;grind
theorem T3(l:br):((fB l).2=false/\(fB l).1=l)\/((fB l).2=true/\ik l=true/\l.back≠0/\(fB l).1=⟨l.cap,l.queue,l.eH+1,l.back-1,l.e7,l.de⟩):=by
 unfold fB;grind
theorem Ek (c : bi) (e : Int) (t : bW) (x : aR) : ((eA c e t x).2 = false /\ (eA c e t x).1 = c) \/ ((eA c e t x).2 = true /\ kh x e = true /\
    ((t.going = false /\ (eA c e t x).1 = setW (dV c e ⟨true, (c.az.length : Int) - 1, 0, false, x.bt.getD e.toNat false⟩) t.place (gr x e)) \/
     (t.going = true /\ 0 < t.place /\ (eA c e t x).1 = setW (dV c e ⟨true, t.place - 1, t.sum + x.bJ.getD e.toNat 0, t.bV || x.bV.getD e.toNat false, t.dx || x.bt.getD e.toNat false⟩) t.place (gr x e)) \/
     (t.going = true /\ ¬ 0 < t.place /\ (t.bV = false /\ x.bV.getD e.toNat false = false /\ t.sum + x.bJ.getD e.toNat 0 = 0) /\
       (eA c e t x).1 = iu (setW (dV c e ⟨false, t.place, t.sum, t.bV, t.dx⟩) 0 (told x e (t.dx || x.bt.getD e.toNat false))) (c.news ++ hh (c.az.length - 1) e (t.dx || x.bt.getD e.toNat false))) \/
     (t.going = true /\ ¬ 0 < t.place /\ ¬ (t.bV = false /\ x.bV.getD e.toNat false = false /\ t.sum + x.bJ.getD e.toNat 0 = 0) /\ (eA c e t x).1 = dV c e ⟨false, t.place, t.sum, t.bV, t.dx⟩))) := by
  unfold eA;split
  case isFalse => grind
  rename_i hp;cases ax : t.going with
  | false => grind
  | true =>
    rw [bH (by simp)];split
    · grind
    grind
theorem T4(c:bi)(p:cf):((dC c p).2=false/\(dC c p).1=c)\/(cP c=true/\(dC c p).2=true/\Step c p (dC c p).1):=by
 unfold dC;split
 ·rename_i ba;unfold iS;split
  case isFalse=>grind
  rename_i cN;cases aq:dh c p.a with
  | none=>grind
  | some x=>
   rcases TI c.aA x with⟨U,aa⟩ | ⟨U,r,q,ak,aL,aa⟩
   ·grind[sK]
   refine .inr ⟨cN,U,?_⟩;dsimp only;rw[aa];exact .work x r q ba aq ak aL
 split
 ·rename_i ba;unfold iT;split
  case isFalse=>grind
  rename_i cN;cases aq:dh c p.a with
  | none=>grind
  | some x=>
   rcases TJ c.aA x with⟨U,aa⟩ | ⟨U,r,t,ak,aL,hi,aa⟩
   ·grind[sK]
   refine .inr ⟨cN,U,?_⟩;dsimp only;rw[aa];exact .input x r t ba aq ak aL hi
 split
 ·rename_i ba;unfold iU;split
  case isFalse=>grind
  rename_i cN;cases aq:dh c p.a with
  | none=>grind
  | some x=>
   dsimp only;cases ak:x.ck with
   | nil=>grind
   | cons r t=>
    dsimp only;unfold uC;split
    ·rename_i bc;exact .inr ⟨cN,rfl,.fF x r t ba aq ak bc⟩
    rename_i bc;cases ar:hd c (fg c.aA p.a (jx r.key c.aA.az)) with
    | none=>grind
    | some l=>
     dsimp only;split
     ·rename_i h;exact .inr ⟨cN,rfl,.send x r t l ba aq ak bc ar h⟩
     grind
 split
 ·rename_i ba;unfold jU;split
  case isFalse=>grind
  rename_i ao;simp only[cH,bne_iff_ne,nQ]at ao;cases ar:hd c (fg c.aA p.a p.b) with
  | none=>grind
  | some l=>
   cases aq:dh c p.b with
   | none=>grind
   | some x=>
    dsimp only;split
    ·rename_i h;exact .inr ⟨ao.1,rfl,.take l x ba ao.2 ar aq h⟩
    grind
 split
 ·rename_i ba;unfold iV;split
  case isFalse=>grind
  rename_i ao;simp only[cH,bne_iff_ne,nQ]at ao;cases ar:hd c (fg c.aA p.a p.b) with
  | none=>grind
  | some l=>
   rcases T3 l with⟨U,aa⟩ | ⟨U,_⟩
   ·grind[ahm]
   exact .inr ⟨ao.1,U,.GF l ba ao.2 ar U⟩
 split
 ·rename_i ba;unfold h9;split
  case isFalse=>grind
  rename_i ao;simp only[cH]at ao;cases b4:dh c 0 with
  | none=>grind
  | some e9=>
   cases bZ:jX c p.a with
   | none=>grind
   | some t=>
    dsimp only;cases aI:h5 e9 p.a with
    | true=>grind
    | false=>
     rw[bH (by simp)];cases aq:dh c t.place with
     | none=>grind
     | some x=>
      dsimp only;rcases Ek c p.a t x with U | ⟨U,_⟩
      ·exact .inl U
      exact .inr ⟨ao.1,U,.token t x e9 ba ao.2 b4 aI bZ aq U⟩
 split
 ·rename_i ba;unfold jV;cases b8:c.news.findIdx? (fun n=>n.dest==p.a) with
  | none=>grind
  | some k=>
   dsimp only;split
   case isFalse=>grind
   rename_i cN;cases a':c.news[k]? with
   | none=>grind
   | some n=>
    cases aq:dh c p.a with
    | none=>grind
    | some x=>
     dsimp only;have aI:n.dest=p.a:=by
      have:=tg.1 b8;grind
     exact .inr ⟨cN,rfl,.Hl k n x ba a' aI aq⟩
 grind
end Go.Proofs.YthfnndblgbjniaaGreatDoor
namespace Go.Proofs.YthfnndblgbjniaaGreatDoor
open Go.Sx Go.RowKit Go.Sort Go.Proofs.Tryz
def Fq{α:Type}(f:α->Nat)(xs:List α):Nat:=(xs.map f).sum
theorem amK{α:Type}{f:α->Nat}{y:α}(x:α){xs:List α}{i:Nat}(h:xs[i]?=some y):Fq f (xs.set i x)+f y=Fq f xs+f x:=by
 have:=vF (sz:=f) x h;simp only[fr,hr]at this;unfold Fq;omega
end Go.Proofs.YthfnndblgbjniaaGreatDoor
namespace Go.Proofs.YthfnndblgbjniaaGreatDoor
open Go.Sx Go.RowKit Go.Proofs.Tryz
def gV(e:Int)(x:aR):Int:=x.bJ.getD e.toNat 0
def kK(e:Int)(x:aR):Bool:=x.bV.getD e.toNat false
def oU(e:Int)(x:aR):Bool:=x.bt.getD e.toNat false
def ke(e:Int)(c:bi)(k:Nat):Int:=((c.az.take k).map (gV e)).sum
def jP(e:Int)(c:bi):Nat:=Fq (qz e) c.bU
def quiet(e:Int)(c:bi):Prop:=(∀x∈c.az,kh x e=true)/\jP e c=0
def Good(e:Int)(c:bi)(t:bW):Prop:=
 ((∀(i:Nat) x,t.place<i->c.az[i]?=some x->kh x e=true/\(oU e x=true->t.dx=true))/\ke e c (t.place+1).toNat+t.sum=jP e c)\/
 0<ke e c (t.place+1).toNat+t.sum\/(∃(i:Nat) (x:aR),(i:Int)<=t.place/\c.az[i]?=some x/\kK e x=true)\/t.bV=true
structure Inv (e:Int) (c:bi):Prop where
 total:ke e c c.az.length=jP e c
 token:∀t,jX c e=some t->t.going=true->Good e c t
 Bs:(yw c e||rO c e)=true->quiet e c
theorem A8{α:Type}(f:α->Int){y:α}(x:α):∀{xs:List α} {i k:Nat},xs[i]?=some y->(((xs.set i x).take k).map f).sum=((xs.take k).map f).sum+(if i<k then f x-f y else 0)
 | [],_,_,h=>by simp at h
 | a::xs,0,0,h=>by simp
 | a::xs,0,k+1,h=>by
  grind
 | a::xs,i+1,0,h=>by simp
 | a::xs,i+1,k+1,h=>by
  have eO:=A8 f x (xs:=xs) (i:=i) (k:=k) (by simpa using h);grind
variable{i j:Nat}
theorem T5{α:Type}{xs:List α}{y z:α}(h:(xs.set i y)[j]?=some z):(j=i/\z=y)\/(j≠i/\xs[j]?=some z):=by
 grind
theorem T6{α:Type}{xs:List α}{x y:α}(h:xs[i]?=some x):(xs.set i y)[i]?=some y:=by
 grind
theorem amL{α:Type}{xs:List α}{y z:α}(h:xs[j]?=some z)(bm:j≠i):(xs.set i y)[j]?=some z:=by
 grind
theorem T7{α:Type}{xs:List α}{x:α}(h:xs[i]?=some x):xs.set i x=xs:=by
 grind[a7,gd,List.set_getElem_self]
variable{e:Int}{c:bi}{x:aR}
theorem Inv.worker{i:Int}{d:bi}{y:aR}(h:Inv e c)(aq:dh c i=some x)(hw:d.az=c.az.set i.toNat y)(bZ:jX d e=jX c e)
  (ZC:(yw d e||rO d e)=true->(yw c e||rO c e)=true)
  (ao:(gV e y=gV e x/\(kK e x=true->kK e y=true)/\jP e d=jP e c/\(kh x e=true->kh y e=true/\oU e y=oU e x))\/
   (kh x e=false/\gV e y=gV e x+1/\(kK e x=true->kK e y=true)/\jP e d=jP e c+1)\/
   (jP e c=jP e d+1/\gV e y=gV e x-1/\kK e y=true)):Inv e d:=by
 obtain⟨i0,i1,i2⟩:=kR aq;have hlen:d.az.length=c.az.length:=by grind
 have xj:∀k,ke e d k=ke e c k+(if i.toNat<k then gV e y-gV e x else 0):=fun k=>by
  grind[ke,A8,gV]
 have q6:x∈c.az:=eQ i2;refine⟨?_,fun t lU ax=>?_,fun lU=>?_⟩
 ·rw[xj,hlen,bL i1,h.total];grind
 ·have gQ:=h.token t (bZ▸lU) ax;unfold Good at gQ ⊢;rw[xj];have axM:(kK e x=true->kK e y=true)->(∃(j:Nat) (z:aR),(j:Int)<=t.place/\c.az[j]?=some z/\kK e z=true)->∃(j:Nat) (z:aR),(j:Int)<=t.place/\d.az[j]?=some z/\kK e z=true:=by
   rintro ay ⟨j,z,g1,g2,g3⟩;by_cases bm:j=i.toNat
   ·grind[T6]
   exact⟨j,z,g1,by grind,g3⟩
  rcases ao with⟨U,aa,aB,aJ⟩ | ⟨U,aa,aB,aJ⟩ | ⟨U,aa,aB⟩
  ·rcases gQ with⟨eY,CH⟩ | g | g | g
   ·refine .inl ⟨fun j z bm bp=>?_,?_⟩
    ·grind[T5]
    grind
   ·grind
   ·grind
   grind
  ·rcases gQ with⟨eY,CH⟩ | g | g | g
   ·have hle:¬t.place<i.toNat:=fun bO=>by
     grind
    omega
   ·grind
   ·grind
   grind
  by_cases hle:(i.toNat:Int)<=t.place
  ·grind[T6]
  rw[bH (by omega)];rcases gQ with⟨_,CH⟩ | g | ⟨j,z,g1,g2,g3⟩ | g
  ·grind
  ·grind
  ·exact .inr (.inr (.inl ⟨j,z,g1,by grind,g3⟩))
  grind
 obtain⟨q1,iR⟩:=h.Bs (ZC lU);have hp:=q1 x q6;rcases ao with⟨_,_,aB,aJ⟩ | ⟨U,_⟩ | ⟨U,_⟩
 ·refine⟨fun z bp=>?_,by omega⟩;grind
 ·grind
 omega
theorem qF:kh x e=true<->(∀r∈x.cb,e<r.bw.bh)/\(∀r∈x.queue,r.bw.bh≠e)/\∀r∈x.ck,r.bw.bh≠e:=by
 simp only[kh,vD,TH,l8,cH,i',hW,c3,kE];simp_all
theorem amM(g:b5)(cs:List Cell)(r:aD):∀q∈(dO g cs r).2.1,q.bw.bh=r.bw.bh:=by
 grind[dO,dS,gY,iq,e5]
theorem El{α:Type}{xs:List α}{a d:α}(h:i≠j):(xs.set i a).getD j d=xs.getD j d:=by
 grind
theorem T8{α:Type}{xs:List α}{a d:α}(h:i<xs.length):(xs.set i a).getD i d=a:=by
 grind
theorem Mn{i e:Int}{l m:br}(h:hd c i=some l):jP e (ea c i m)+qz e l=jP e c+qz e m:=by
 unfold jP;exact amK m (qA h).2.2
theorem amN(e cap:Int)(q:List aD)(r:aD)(a b s g:Int)(l:br)(ar:l.queue=q):qz e ⟨cap,q++[r],a,b,s,g⟩=qz e l+(if r.bw.bh=e then 1 else 0):=by
 simp only[qz,l8,List.filter_append,lL,ar,List.filter_cons,List.filter_nil,kE];split<;>rfl
theorem amO(e:Int)(r:aD)(q:List aD)(l:br)(ar:l.queue=r::q)(cap a b s g:Int):qz e l=qz e ⟨cap,q,a,b,s,g⟩+(if r.bw.bh=e then 1 else 0):=by
 simp only[qz,l8,ar,List.filter_cons,kE];grind
theorem qk{c d:bi}{i:Int}{y:aR}(aq:dh c i=some x)(aI:d.az=c.az.set i.toNat y)(h:h5 y e=true->h5 x e=true\/rO c e=true)(a':rO d e=true->rO c e=true):
  (yw d e||rO d e)=true->(yw c e||rO c e)=true:=by
 simp only[qQ];rintro (hw | hw)
 ·unfold yw at hw ⊢;rw[aI,rU]at hw;obtain⟨z,bp,Yz⟩:=hw;rcases qP bp with bp | rfl
  ·grind
  rcases h Yz with U | U
  ·exact .inl (rU.2 ⟨x,eQ (kR aq).2.2,U⟩)
  grind
 grind
theorem Fc{a b:Int}(aj:0<=a)(ay:0<=b)(h:a≠b):a.toNat≠b.toNat:=by omega
variable{f:Int}
theorem T9{d:Int}(he:0<=e/\e<=3)(b8:0<=f/\f<=3){xs:List Int}(ar:xs.length=4):(mx xs f d).getD e.toNat 0=xs.getD e.toNat 0+(if f=e then d else 0):=by
 unfold mx;grind
theorem LS{g:b5}{w:aR}(h:eT g w=true):w.bJ.length=4/\w.bV.length=4/\w.bt.length=4:=by
 obtain⟨_,_,_,_,a6,bF,bY,_⟩:=jy.1 h;grind
theorem Va{g:b5}{xs:List aD}(h:gb g xs=true){r:aD}(aH:r∈xs):0<=r.bw.bh/\r.bw.bh<=3:=by
 simp only[gb,i',hW]at h;exact qB (g:=g) (by grind)
theorem Vb{b:Bool}:h5 (told x f b) e=(h5 x e||f==e):=by
 simp[h5,told]
theorem amP{n:bR}:h5 (hb x n) e=(h5 x e||n.bh==e):=by
 unfold hb;split
 ·grind
 exact Vb
theorem amQ{n:bR}:kh (hb x n) e=kh x e:=by
 unfold hb;split<;>rfl
theorem amR{x:aR}{n:bR}{e:Int}:gV e (hb x n)=gV e x/\kK e (hb x n)=kK e x/\oU e (hb x n)=oU e x:=by
 unfold hb;split<;>exact⟨rfl,rfl,rfl⟩
theorem Vc{k:Nat}(h:c.az[k]?=some x):ke e c (k+1)=ke e c k+gV e x:=by
 simp[ke,wL,h]
variable{t:bW}
theorem Fe(he:0<=e)(b8:0<=f)(h:f≠e):(if 0<=e then (c.tokens.set f.toNat t)[e.toNat]? else none)=jX c e:=by
 simp_all[jX,bH,Fc]
theorem amS{n:Nat}{b:Bool}(h:f≠e):((c.news++hh n f b).any fun x=>x.bh==e)=rO c e:=by
 rw[List.any_append];have:((hh n f b).any fun x=>x.bh==e)=false:=by
  grind[hW,hh]
 rw[this,Bool.or_false];rfl
theorem Inv.awG(h:Inv e c)(he:0<=e)(b8:0<=f)(db:f≠e)(aq:dh c t.place=some x):Inv e (eA c f t x).1:=by
 have VS:kK e (gr x f)=kK e x:=by
  grind[kK,gr,El,Fc]
 rcases Ek c f t x with⟨_,aa⟩ | ⟨_,_,U⟩
 ·grind
 rcases U with⟨_,aa⟩ | ⟨_,_,aa⟩ | ⟨_,b4,_,aa⟩ | ⟨_,_,_,aa⟩
 ·rw[aa];exact h.worker aq rfl (Fe he b8 db) (qk aq rfl (fun k=>.inl k) id) (.inl ⟨rfl,fun k=>VS.trans k,rfl,fun k=>⟨k,rfl⟩⟩)
 ·rw[aa];exact h.worker aq rfl (Fe he b8 db) (qk aq rfl (fun k=>.inl k) id) (.inl ⟨rfl,fun k=>VS.trans k,rfl,fun k=>⟨k,rfl⟩⟩)
 ·rw[aa];have bp:t.place=0:=by have:=(kR aq).1;omega
  rw[bp]at aq;refine h.worker aq rfl (Fe he b8 db) (qk aq rfl (fun k=>?_) (fun k=>(amS db).symm.trans k)) (.inl ⟨rfl,id,rfl,fun k=>⟨k,rfl⟩⟩);simp_all[Vb,false,Bool.or_false]
 rw[aa];exact h.worker (y:=x) aq (T7 (kR aq).2.2).symm (Fe he b8 db) (qk aq (T7 (kR aq).2.2).symm (fun k=>.inl k) id) (.inl ⟨rfl,id,rfl,fun k=>⟨k,rfl⟩⟩)
theorem amT{n:Int}(h:0<=n):(n+1).toNat=n.toNat+1:=by omega
theorem amU{n:Int}:(n-1+1).toNat=n.toNat:=by grind
theorem amV{u:bW}(h:jX c e=some t):(if 0<=e then (c.tokens.set e.toNat u)[e.toNat]? else none)=some u:=by
 obtain⟨b4,_,aa⟩:=EC h;grind
theorem Inv.over(h:Inv e c)(bZ:jX c e=some t)(ax:t.going=true)(b4:¬0<t.place)(aq:dh c t.place=some x)(hp:kh x e=true)
  (ay:t.bV=false/\x.bV.getD e.toNat false=false/\t.sum+x.bJ.getD e.toNat 0=0):quiet e c/\((t.dx||oU e x)=false->∀z∈c.az,oU e z=false):=by
 have bp:t.place=0:=by have:=(kR aq).1;omega
 obtain⟨_,_,jB⟩:=kR aq;rw[bp]at jB;have ak:ke e c 1=gV e x:=by rw[Vc (k:=0) jB];simp[ke]
 have gQ:=h.token t bZ ax;unfold Good at gQ;rw[bp]at gQ;change ((_/\ke e c 1+t.sum=_)\/0<ke e c 1+t.sum\/_) at gQ;rw[ak]at gQ;have CN:t.sum+gV e x=0:=ay.2.2;rcases gQ with⟨eY,CH⟩ | g | ⟨i,z,g1,g2,g3⟩ | g
 ·have key:∀z∈c.az,kh z e=true/\(oU e z=true->(t.dx||oU e x)=true):=by
   intro z bp;obtain⟨i,hi⟩:=List.getElem?_of_mem bp;grind
  refine⟨⟨fun z bp=>(key z bp).1,by omega⟩,fun gE z bp=>?_⟩;grind
 ·omega
 ·simp_all[some,kK,false]
 grind
theorem Inv.awH(h:Inv e c)(cN:cP c=true)(bZ:jX c e=some t)(aq:dh c t.place=some x):Inv e (eA c e t x).1:=by
 obtain⟨i0,i1,i2⟩:=kR aq;obtain⟨_,_,OO,_⟩:=xY.1 (K5 cN bZ);rcases Ek c e t x with⟨_,aa⟩ | ⟨_,hp,U⟩
 ·grind
 have whole:∀u:bW,(u.going=true->Good e (setW (dV c e u) t.place (gr x e)) u)->Inv e (setW (dV c e u) t.place (gr x e)):=by
  intro u hu;have xj:∀k,ke e (setW (dV c e u) t.place (gr x e)) k=ke e c k:=fun k=>by
   have:=A8 (gV e) (gr x e) (k:=k) i2;rw[show gV e (gr x e)=gV e x from rfl,Int.sub_self,ite_self,Int.add_zero]at this;exact this
  refine⟨?_,fun dn lU ax=>?_,fun lU=>?_⟩
  ·rw[xj,show (setW (dV c e u) t.place (gr x e)).az.length=c.az.length from hr];exact h.total
  ·rw[show jX (setW (dV c e u) t.place (gr x e)) e=some u from amV bZ]at lU;grind
  obtain⟨q1,iR⟩:=h.Bs (qk (c:=c) (d:=setW (dV c e u) t.place (gr x e)) aq rfl (fun k=>.inl k) id lU);refine⟨fun z bp=>?_,iR⟩;rcases qP bp with bp | rfl
  ·exact q1 z bp
  exact hp
 have Dr:∀(u:bW) k,ke e (setW (dV c e u) t.place (gr x e)) k=ke e c k:=fun u k=>by
  have:=A8 (gV e) (gr x e) (k:=k) i2;rw[show gV e (gr x e)=gV e x from rfl,Int.sub_self,ite_self,Int.add_zero]at this;exact this
 rcases U with⟨ax,aa⟩ | ⟨ax,b4,aa⟩ | ⟨ax,b4,ay,aa⟩ | ⟨ax,b4,ay,aa⟩
 ·rw[aa];refine whole _ fun _=>.inl ⟨fun j z bm bp=>?_,?_⟩
  ·have:=a7 bp;rw[show (setW (dV c e _) t.place (gr x e)).az.length=c.az.length from hr]at this;grind
  rw[Dr];change ke e c ((c.az.length:Int)-1+1).toNat+0=jP e c;rw[show ((c.az.length:Int)-1+1).toNat=c.az.length by omega,Int.add_zero];exact h.total
 ·rw[aa];have gQ:=h.token t bZ ax;refine whole _ fun _=>?_
  unfold Good at gQ ⊢;rw[Dr];change ((∀(i:Nat) z,t.place-1<i->_->_)/\ke e c (t.place-1+1).toNat+(t.sum+gV e x)=jP e c)\/0<ke e c (t.place-1+1).toNat+(t.sum+gV e x)\/(∃(i:Nat) (z:aR),(i:Int)<=t.place-1/\_)\/(t.bV||kK e x)=true;rw[amT i0,Vc i2]at gQ;rw[amU];rcases gQ with⟨eY,CH⟩ | g | ⟨i,z,g1,g2,g3⟩ | g
  ·refine .inl ⟨fun j z bm bp=>?_,by omega⟩;change (c.az.set t.place.toNat (gr x e))[j]?=some z at bp;rcases T5 bp with⟨rfl,rfl⟩ | ⟨db,bp⟩
   ·exact⟨hp,fun k=>by change (t.dx||oU e x)=true;rw[show oU e x=true from k,Bool.or_true]⟩
   grind
  ·grind
  ·by_cases hi:i=t.place.toNat
   ·grind
   exact .inr (.inr (.inl ⟨i,z,by omega,amL g2 hi,g3⟩))
  grind
 ·rw[aa];obtain⟨⟨q1,iR⟩,_⟩:=h.over bZ ax b4 aq hp ay;have bp:t.place=0:=by omega
  rw[bp]at i2 i1;have xj:∀k,((((c.az.set 0 (told x e (t.dx||x.bt.getD e.toNat false))).take k).map (gV e)).sum)=ke e c k:=fun k=>by
   have:=A8 (gV e) (told x e (t.dx||x.bt.getD e.toNat false)) (k:=k) i2;rw[show gV e (told x e (t.dx||x.bt.getD e.toNat false))=gV e x from rfl,Int.sub_self,ite_self,Int.add_zero]at this;exact this
  refine⟨?_,fun dn lU YG=>?_,fun _=>⟨fun z bp=>?_,iR⟩⟩
  ·refine (xj _).trans ?_;rw[show (iu (setW (dV c e ⟨false,t.place,t.sum,t.bV,t.dx⟩) 0 (told x e (t.dx||x.bt.getD e.toNat false))) (c.news++hh (c.az.length-1) e (t.dx||x.bt.getD e.toNat false))).az.length=c.az.length from hr];exact h.total
  ·change (if 0<=e then (c.tokens.set e.toNat _)[e.toNat]? else none)=some dn at lU;grind
  rcases qP bp with bp | rfl
  ·exact q1 z bp
  exact hp
 rw[aa];refine⟨h.total,fun dn lU YG=>?_,h.Bs⟩;change (if 0<=e then (c.tokens.set e.toNat _)[e.toNat]? else none)=some dn at lU;grind
theorem Inv.step{d:bi}{p:cf}(h:Inv e c)(he:0<=e/\e<=3)(cN:cP c=true)(st:Step c p d):Inv e d:=by
 cases st with
 | work x r q ba aq ak aL=>
  have aX:=l1 cN aq;obtain⟨_,_,ar⟩:=LS aX;refine h.worker aq rfl rfl (qk aq rfl (fun k=>.inl k) id) (.inl ⟨rfl,id,rfl,fun k=>?_⟩);obtain⟨c7,bQ,fW⟩:=qF.1 k;rw[aL]at bQ;have fX:=bQ r (kG ..);refine⟨qF.2 ⟨c7,fun a aj=>bQ a (iA _ aj),fun a aj=>?_⟩,?_⟩
  ·grind[amM]
  have aH:=Va (jy.1 aX).1 (r:=r) (by grind);grind[oU,El,Fc]
 | input x r t ba aq ak aL hi=>
  refine h.worker aq rfl rfl (qk aq rfl (fun k=>.inl k) id) (.inl ⟨rfl,id,rfl,fun k=>⟨?_,rfl⟩⟩);obtain⟨c7,bQ,fW⟩:=qF.1 k;rw[hi]at c7;refine qF.2 ⟨fun a aj=>c7 a (iA _ aj),fun a aj=>?_,fun a aj=>by cases aj⟩;grind
 | fF x r t ba aq ak bc=>
  refine h.worker aq rfl rfl (qk aq rfl (fun k=>.inl k) id) (.inl ⟨rfl,id,rfl,fun k=>⟨?_,rfl⟩⟩);obtain⟨c7,bQ,fW⟩:=qF.1 k;rw[ak]at fW;refine qF.2 ⟨c7,fun a aj=>?_,fun a aj=>fW a (iA _ aj)⟩;rcases lM.1 aj with aj | aj
  ·exact bQ a aj
  grind
 | send x r t l ba aq ak bc ar hsend=>
  obtain⟨_,_,_,e1⟩:=amI hsend;have aX:=l1 cN aq;obtain⟨tJ,_,_⟩:=LS aX;have aH:=Va (jy.1 aX).2.1 (r:=r) (by grind);have b8:=Mn (e:=e) (m:=(et l r).1) ar;have p9:gV e (mG (il x t) r.bw.bh)=gV e x+(if r.bw.bh=e then 1 else 0):=T9 he aH tJ;rw[e1,amN e _ _ r _ _ _ _ l rfl]at b8;refine h.worker aq (d:=setW (ea c _ (et l r).1) p.a _) rfl rfl (qk aq rfl (fun k=>.inl k) id) ?_;have tH:jP e (setW (ea c (fg c.aA p.a (jx r.key c.aA.az)) (et l r).1) p.a (mG (il x t) r.bw.bh))=jP e c+(if r.bw.bh=e then 1 else 0):=by
   rw[e1];change jP e (ea c _ _)=_;omega
  by_cases zv:r.bw.bh=e
  ·rw[bL zv]at p9 tH;refine .inr (.inl ⟨?_,p9,id,tH⟩);rw[NG];intro k;obtain⟨_,_,fW⟩:=qF.1 k;grind
  rw[bH zv]at p9 tH;refine .inl ⟨by omega,id,by omega,fun k=>⟨?_,rfl⟩⟩;obtain⟨c7,bQ,fW⟩:=qF.1 k;rw[ak]at fW;exact qF.2 ⟨c7,bQ,fun a aj=>fW a (iA _ aj)⟩
 | take l x ba fD ar aq bZ=>
  obtain⟨_,r,q,aL,e2,e1⟩:=amJ bZ;have aX:=l1 cN aq;obtain⟨tJ,vd,_⟩:=LS aX;have aH:=qB (EH (xP cN ar) bZ).2;rw[e2]at aH;have b8:=Mn (e:=e) (m:=(d' l).1) ar;have p9:gV e (im x r)=gV e x+(if r.bw.bh=e then -1 else 0):=T9 he aH tJ;rw[e1,amO e r q l aL l.cap l.eH (l.back+1) l.e7 (l.de+1)]at b8;rw[e2];refine h.worker aq (d:=setW (ea c _ (d' l).1) p.b _) rfl rfl (qk aq rfl (fun k=>.inl k) id) ?_;have tH:jP e (setW (ea c (fg c.aA p.a p.b) (d' l).1) p.b (im x r))+(if r.bw.bh=e then 1 else 0)=jP e c:=by
   rw[e1];change jP e (ea c _ _)+_=_;omega
  by_cases zv:r.bw.bh=e
  ·rw[bL zv]at p9 tH;grind[kK,im,T8]
  rw[bH zv]at p9 tH;refine .inl ⟨by omega,fun k=>?_,by omega,fun k=>⟨?_,rfl⟩⟩
  ·grind[kK,im,El,Fc]
  obtain⟨c7,bQ,fW⟩:=qF.1 k;refine qF.2 ⟨c7,fun a aj=>?_,fW⟩;rcases lM.1 aj with aj | aj
  ·exact bQ a aj
  grind
 | GF l ba fD ar ao=>
  rcases T3 l with⟨k,_⟩ | ⟨_,_,_,e1⟩
  ·grind
  have b8:=Mn (e:=e) (m:=(fB l).1) ar;have aa:qz e (fB l).1=qz e l:=by rw[e1];rfl
  have aB:jP e (ea c (fg c.aA p.a p.b) (fB l).1)=jP e c:=by omega
  refine⟨by rw[aB];exact h.total,fun t lU ax=>?_,fun lU=>⟨(h.Bs lU).1,by rw[aB];exact (h.Bs lU).2⟩⟩;have gQ:=h.token t lU ax;unfold Good at gQ ⊢;rw[aB];exact gQ
 | token t x e9 ba n8 b4 aI bZ aq Yx=>
  simp only[av,c3]at n8;by_cases OI:p.a=e
  ·subst OI;exact h.awH cN bZ aq
  exact h.awG he.1 n8.1 OI aq
 | Hl k n x ba a' aI aq=>
  obtain⟨c7,bQ,fW⟩:=amR (x:=x) (n:=n) (e:=e);refine h.worker aq rfl rfl (qk aq rfl (fun q=>?_) (fun q=>?_)) (.inl ⟨c7,fun q=>bQ.trans q,rfl,fun q=>⟨amQ.trans q,fW⟩⟩)
  ·rw[amP,qQ]at q;rcases q with q | q
   ·exact .inl q
   exact .inr (rU.2 ⟨n,eQ a',q⟩)
  unfold rO at q ⊢;rw[rU]at q ⊢;obtain⟨m,hm,q⟩:=q;refine⟨m,?_,q⟩;change m∈cutAt c.news k at hm;grind[cutAt,uU,wM]
end Go.Proofs.YthfnndblgbjniaaGreatDoor
namespace Go.Proofs.YthfnndblgbjniaaGreatDoor
open Go.Sx Go.RowKit Go.Proofs.Tryz
theorem amW(c:bi)(l:List cf)(ao:c.sz+4*l.length<=8388608):
  c6 prog (ap f119 0) (x0 (l.map cf.e) 0 [] (c.aA.nodes.map Node.e) c.aA.az c.aA.cap (c.az.map aR.e) (c.bU.map br.e) (c.tokens.map bW.e) (c.news.map bR.e) (cP c) 0 0) (.exit 0)
   (L9 ((cY c l).2.map cp) ((cY c l).1.aA.nodes.map Node.e) (cY c l).1.aA.az (cY c l).1.aA.cap ((cY c l).1.az.map aR.e) ((cY c l).1.bU.map br.e) ((cY c l).1.tokens.map bW.e) ((cY c l).1.news.map bR.e) (cP (cY c l).1) 0 0):=by
 have ar:l.length<=8388608:=by omega
 have k:=er (P:=prog) (c:=(ap f119 0)) (cy 0) l.length (fun i:Nat=>x0 (l.map cf.e) i ((cY c (l.take i)).2.map cp) ((cY c (l.take i)).1.aA.nodes.map Node.e) (cY c (l.take i)).1.aA.az (cY c (l.take i)).1.aA.cap ((cY c (l.take i)).1.az.map aR.e) ((cY c (l.take i)).1.bU.map br.e) ((cY c (l.take i)).1.tokens.map bW.e) ((cY c (l.take i)).1.news.map bR.e) (cP (cY c (l.take i)).1) 0 0) (fun i hi=>by
  obtain⟨p,hp⟩:=c2 hi;have a':=Ad (l.take i) c;have ak:=Ej c l i;rw[Ei c hp];dsimp only;rw[Eh];generalize cY c (l.take i)=o at*;exact akz ⟨cc hi,bB,bI hi,bC cf.e hp,Mg o.1 p (by omega),by grind,by grind,wY [(dC o.1 p).2],dc hi ar,ad⟩) (akA ⟨dG,ad⟩)
 rw[kX]at k;exact k
theorem amX(c:bi)(l:List cf)(ao:c.sz+4*l.length<=8388608)(hw:fs c):al 119 [.agg c.e,.one (.J 3 (l.map cf.e))] [.agg (cY c l).1.e,.one (.J 1 ((cY c l).2.map cp))]:=
 akB ⟨EL c (by omega) hw,amW c l ao,ad⟩
theorem amY(c:bi)(l:List cf)(ao:c.sz+4*l.length<=8388608)(hw:fs c):al 28 [.agg c.e,.one (.J 3 (l.map cf.e))] [.agg (cY c l).1.e,.one (.J 1 ((cY c l).2.map cp))]:=by
 have ar:l.length<=8388608:=by omega
 have k:=er (P:=prog) (c:=(ap f28 0)) (cy 0) l.length (fun i:Nat=>Aa (l.map cf.e) i ((cY c (l.take i)).2.map cp) ((cY c (l.take i)).1.aA.nodes.map Node.e) (cY c (l.take i)).1.aA.az (cY c (l.take i)).1.aA.cap ((cY c (l.take i)).1.az.map aR.e) ((cY c (l.take i)).1.bU.map br.e) ((cY c (l.take i)).1.tokens.map bW.e) ((cY c (l.take i)).1.news.map bR.e) 0 0) (fun i hi=>by
  obtain⟨p,hp⟩:=c2 hi;have a':=Ad (l.take i) c;have ak:=Ej c l i;have ax:=(Af (l.take i) c).de hw;rw[Ei c hp];dsimp only;rw[Eh];generalize cY c (l.take i)=o at*;exact alg ⟨cc hi,bB,bI hi,bC cf.e hp,Us o.1 p (by omega) ax,by grind,by grind,wY [(dC o.1 p).2],dc hi ar,ad⟩) (alh ⟨dG,ad⟩)
 rw[kX]at k;exact ali ⟨sM c (by omega),k,ad⟩
def mH(c:bi):bi×Nat:=((cY c (l4 c)).1,tu (cY c (l4 c)).2)
theorem amZ{c d:bi}(h:d.aA=c.aA):l4 d=l4 c:=by grind[l4]
theorem LU(c:bi):nS c (mH c).1:=Af _ _
theorem Vd(c:bi):(mH c).1.sz<=c.sz+400:=by
 grind[Ae,l4,Ml,mH]
theorem am0(c:bi)(l:List cf)(ao:c.sz+4*l.length<=8388608):b3 prog 73 [.ref (fC c) (fC (cY c l).1),.ro (.one (.J 3 (l.map cf.e)))] (.vals [.one (I (tu (cY c l).2))]):=by
 have ar:l.length<=8388608:=by omega
 have k:=er (P:=prog) (c:=(ap f73 0)) (cy 0) l.length (fun i:Nat=>vG (l.map cf.e) i (tu (cY c (l.take i)).2) ((cY c (l.take i)).1.aA.nodes.map Node.e) (cY c (l.take i)).1.aA.az (cY c (l.take i)).1.aA.cap ((cY c (l.take i)).1.az.map aR.e) ((cY c (l.take i)).1.bU.map br.e) ((cY c (l.take i)).1.tokens.map bW.e) ((cY c (l.take i)).1.news.map bR.e) (cP (cY c (l.take i)).1)) (fun i hi=>by
  obtain⟨p,hp⟩:=c2 hi;have a':=Ad (l.take i) c;have aI:=am9 (cY c (l.take i)).2;have ak:=Ej c l i;have bZ:=Mh i l;rw[Ei c hp];dsimp only;rw[ana];generalize cY c (l.take i)=o at*;have st:=Mg o.1 p (by omega);cases ay:(dC o.1 p).2 with
  | true=>
   rw[ay]at st;exact alS ⟨cc hi,bB,bI hi,bC cf.e hp,st,rfl,⟨by omega,by omega⟩,dc hi ar,ad⟩
  | false=>
   rw[ay]at st;exact alT ⟨cc hi,bB,bI hi,bC cf.e hp,st,rfl,dc hi ar,ad⟩) (alU ⟨dG,ad⟩)
 rw[kX]at k;exact alV ⟨k,ad⟩
def gS:Nat->bi->Nat->bi×Nat
 | 0,c,k=>(c,k)
 | n+1,c,k=>if (mH c).2=0 then ((mH c).1,k+1) else gS n (mH c).1 (k+1)
def rH(c:bi)(vt:Int):bi×Nat:=gS (hJ vt 0 3000).toNat c 0
theorem Ve:∀(n:Nat) (c:bi) (k:Nat),(gS n c k).1.sz<=c.sz+n*400
 | 0,c,k=>gw _
 | n+1,c,k=>by
  have U:=Vd c;have aa:=Ve n (mH c).1 (k+1);unfold gS;split
  ·dsimp only;omega
  omega
theorem Vf:∀(n:Nat) (c:bi) (k:Nat),nS c (gS n c k).1
 | 0,c,k=>.rfl
 | n+1,c,k=>by
  unfold gS;split
  ·exact LU c
  exact (LU c).trans (Vf n _ _)
theorem am1{n:Nat}{c:bi}{k:Nat}(b4:¬(mH c).2=0):gS (n+1) c k=gS n (mH c).1 (k+1):=by
 simp_all[gS,bH]
theorem am2(n:Int):∃k:Nat,hJ n 0 3000=k/\k<=3000:=by
 refine⟨(hJ n 0 3000).toNat,?_,?_⟩<;>(unfold hJ;grind)
theorem Vg(m:Nat)(hm:m<=3000)(l:List cf):∀(n:Nat) (c:bi) (k:Nat),k+n=m->l4 c=l->c.sz+n*400<=8388608->
  c6 prog (ap f35 0) (uJ (l.map cf.e) m ((k:Int)+1) (c.aA.nodes.map Node.e) c.aA.az c.aA.cap (c.az.map aR.e) (c.bU.map br.e) (c.tokens.map bW.e) (c.news.map bR.e) (cP c) 0 0) .ret
    (L7 (gS n c k).2 ((gS n c k).1.aA.nodes.map Node.e) (gS n c k).1.aA.az (gS n c k).1.aA.cap ((gS n c k).1.az.map aR.e) ((gS n c k).1.bU.map br.e) ((gS n c k).1.tokens.map bW.e) ((gS n c k).1.news.map bR.e))\/
  (gS n c k).2=m/\c6 prog (ap f35 0) (uJ (l.map cf.e) m ((k:Int)+1) (c.aA.nodes.map Node.e) c.aA.az c.aA.cap (c.az.map aR.e) (c.bU.map br.e) (c.tokens.map bW.e) (c.news.map bR.e) (cP c) 0 0) (.exit 0)
    (L8 m ((gS n c k).1.aA.nodes.map Node.e) (gS n c k).1.aA.az (gS n c k).1.aA.cap ((gS n c k).1.az.map aR.e) ((gS n c k).1.bU.map br.e) ((gS n c k).1.tokens.map bW.e) ((gS n c k).1.news.map bR.e) (cP (gS n c k).1) 0 0)
 | 0,c,k,ba,_,_=>.inr ⟨by grind[gS],.last (cy 0) (akv ⟨dX (by omega),ad⟩)⟩
 | n+1,c,k,ba,ar,ao=>by
  have r:=am0 c l (by grind[Ml]);have ak:=Vd c;have ax:=(LU c).aA;have e1:mH c=((cY c l).1,tu (cY c l).2):=by grind[mH]
  by_cases b4:(mH c).2=0
  ·rw[show gS (n+1) c k=((mH c).1,k+1) by simp_all[gS,bL]];rw[e1]at b4 ⊢;exact .inl (.last ff (aku ⟨dm (by omega),r,by grind,ad⟩))
  rw[am1 b4];have eO:=Vg m hm l n (mH c).1 (k+1) (by omega) ((amZ ax).trans ar) (by omega);rw[e1]at b4 eO ⊢;rcases eO with eO | ⟨ZW,eO⟩
  ·exact .inl (.more (UN ⟨dm (by omega),r,by grind,⟨by omega,by omega⟩,ad⟩) eO)
  exact .inr ⟨ZW,.more (UN ⟨dm (by omega),r,by grind,⟨by omega,by omega⟩,ad⟩) eO⟩
theorem am3(c:bi)(vt:Int)(ao:c.sz+1200000<=8388608)(hw:fs c):al 35 [.agg c.e,.one (I vt)] [.agg (rH c vt).1.e,.one (I (rH c vt).2)]:=by
 have b:=E0 vt 0 3000;obtain⟨m,hm,ay⟩:=am2 vt;unfold rH;rw[hm]at b ⊢;rw[pA];rcases Vg m (by omega) (l4 c) m c 0 (by omega) rfl (by omega) with k | ⟨c7,k⟩
 ·exact akw ⟨EL c (by omega) hw,Mm c,b,k,ad⟩
 rw[c7];exact akx ⟨EL c (by omega) hw,Mm c,b,k,ad⟩
end Go.Proofs.YthfnndblgbjniaaGreatDoor
namespace Go.Proofs.YthfnndblgbjniaaGreatDoor
open Go.Sx Go.RowKit Go.Proofs.Tryz
theorem Vh(l:br)(r:aD):(et l r).1.cap=l.cap:=by grind[et]
theorem Vi(l:br):(d' l).1.cap=l.cap:=by
 grind[d']
theorem Vj(l:br):(fB l).1.cap=l.cap:=by grind[fB]
structure iF (c:bi):Prop where
 tok:c.tokens.length=4
 zN:1<=c.bU.length
 cap:∀l∈c.bU,1<=l.cap/\l.cap<=4
variable{c:bi}{i:Int}
theorem iF.ea{l m:br}(h:iF c)(ar:hd c i=some l)(hm:m.cap=l.cap):iF (ea c i m):=by
 refine⟨h.tok,by change 1<=(c.bU.set i.toNat m).length;rw[hr];exact h.zN,fun x aq=>?_⟩;rcases qP aq with aq | rfl
 ·exact h.cap x aq
 rw[hm];exact h.cap l (eQ (qA ar).2.2)
theorem iF.setW{x:aR}(h:iF c):iF (setW c i x):=⟨h.tok,h.zN,h.cap⟩
theorem iF.iu{n:List bR}(h:iF c):iF (iu c n):=⟨h.tok,h.zN,h.cap⟩
theorem iF.dV{t:bW}(h:iF c):iF (dV c i t):=⟨by change (c.tokens.set i.toNat t).length=4;rw[hr];exact h.tok,h.zN,h.cap⟩
theorem Step.Bo{d:bi}{p:cf}(st:Step c p d)(h:iF c):iF d:=by
 cases st with
 | work x r q ba aq ak aL=>exact h.setW
 | input x r t ba aq ak aL hi=>exact h.setW
 | fF x r t ba aq ak bc=>exact h.setW
 | send x r t l ba aq ak bc ar hsend=>exact (h.ea ar (Vh l r)).setW
 | take l x ba fD ar aq bZ=>exact (h.ea ar (Vi l)).setW
 | GF l ba fD ar ao=>exact h.ea ar (Vj l)
 | token t x e9 ba ax7 b4 aI bZ aq Yx=>
  rcases Ek c p.a t x with⟨_,k⟩ | ⟨_,_,⟨_,k⟩ | ⟨_,_,k⟩ | ⟨_,_,_,k⟩ | ⟨_,_,_,k⟩⟩<;>rw[k]
  ·exact h
  ·exact h.dV.setW
  ·exact h.dV.setW
  ·exact h.dV.setW.iu
  exact h.dV
 | Hl k n x ba a' aI aq=>exact h.setW.iu
theorem am4(h:iF c)(p:cf):iF (dC c p).1:=by
 rcases T4 c p with⟨_,k⟩ | ⟨_,_,st⟩
 ·grind
 exact st.Bo h
theorem LV:∀(l:List cf) {c:bi},iF c->iF (cY c l).1
 | [],_,h=>h
 | p::l,_,h=>LV l (am4 h p)
theorem Vk:∀(n:Nat) {c:bi} (k:Nat),iF c->iF (gS n c k).1
 | 0,_,_,h=>h
 | n+1,c,k,h=>by
  have U:iF (mH c).1:=LV (l4 c) h;unfold gS;split
  ·exact U
  exact Vk n (k+1) U
theorem Vl(n:Int):1<=hJ n 1 4/\hJ n 1 4<=4:=by
 grind[hJ]
theorem am5{g:b5}{xs:List aD}(h:pi g xs=true):iF (nC g xs):=by
 have a':=mc (Ko.1 h).1;refine⟨by simp[nC],?_,fun l ar=>?_⟩
 ·unfold nC;rw[List.length_replicate];exact Nat.mul_pos (by omega) (by omega)
 rw[List.eq_of_mem_replicate ar];exact Vl g.cap
structure XI (x:bi):Prop where
 aA:mh x.aA
 Bo:iF x
 de:fs x
 sz:x.sz<=8000
 wG:x.az.length=x.aA.az.toNat
theorem amw(b:List Int)(c:dQ)(ao:c.ok b):∃(d:dQ) (x:bi),d.ok b/\XI x/\b3 prog 69 [.cur (c.e b) (d.e b)] (.vals [.agg x.e]):=by
 obtain⟨d1,g,cC,ax,bE⟩:=Ro b c ao;obtain⟨d2,xs,cg,ix,jB,b0⟩:=Rh b d1 cC;obtain⟨d3,b7,cE,IU,_,ch⟩:=Rr b d2 40 (by omega) cg;obtain⟨d4,f,fG,eB⟩:=EX b d3 4 cE (by omega);have a':=asm ax (by omega) jB;have ak:=ax.size;have bp:=asj a';have nw:=asi g xs (by omega);rw[Rn a']at nw;have de:=asl g xs;have hU:=amX (nC g xs) b7 (by omega) de;have rb:=Ae b7 (nC g xs);have IC:=Af b7 (nC g xs);have VK:=LV b7 (am5 a');have zF:(nC g xs).az.length=g.az.toNat:=Kl g xs _;have YH:(nC g xs).aA=g:=rfl;have c7:=IC.aA;have bQ:=IC.de de;have fW:=IC.wG;rw[YH]at c7;rw[zF]at fW;generalize cY (nC g xs) b7=o at*;cases f with
 | false=>exact⟨d4,o.1,fG,⟨by grind,VK,bQ,by omega,by grind⟩,ajK ⟨bE,b0,nw,S6 ⟨ch,hU,ad⟩,eB,rfl,ad⟩⟩
 | true=>
  obtain⟨d5,n,sD,ayj,ki⟩:=dZ b d4 12 fG (by omega);have cT:=am3 o.1 n (by omega) bQ;have ay:(hJ n 0 3000).toNat<=11:=by
   grind[hJ]
  have ZP:=Ve (hJ n 0 3000).toNat o.1 0;have IA:=Vf (hJ n 0 3000).toNat o.1 0;have f1:(rH o.1 n).1.aA=g:=IA.aA.trans c7;have f2:fs (rH o.1 n).1:=IA.de bQ;have f3:(rH o.1 n).1.az.length=g.az.toNat:=IA.wG.trans fW;have f4:(rH o.1 n).1.sz<=8000:=by grind[rH]
  have f5:iF (rH o.1 n).1:=Vk _ 0 VK;exact⟨d5,(rH o.1 n).1,sD,⟨by grind,f5,f2,f4,by grind⟩,ajJ ⟨bE,b0,nw,S6 ⟨ch,hU,ad⟩,eB,rfl,ajI ⟨ki,cT,ad⟩,ad⟩⟩
structure Cj (n:Nat) (l:br):Prop where
 sz:l.sz<=n
 cap:1<=l.cap/\l.cap<=4
 de:l.de<=9223372036854775807
theorem Ff(b:List Int):∀(n i:Nat) (l:br) (c:dQ),i+n=8->c.ok b->Cj i l->
  ∃(m:br) (d:dQ),d.ok b/\Cj 8 m/\c6 prog (ap f123 0) (sN (b.map hF) i l.cap (l.queue.map aD.e) l.eH l.back l.e7 l.de 0 0 0 0 0 c.i c.h) (.exit 0) (Lm (b.map hF) m.cap (m.queue.map aD.e) m.eH m.back m.e7 m.de 0 0 0 0 0 d.i d.h)
 | n,i,l,c,n8,ao,ar=>by
  obtain⟨d1,m,cC,ay,bE⟩:=dZ b c 9 ao (by omega);have bp:=ar.sz;by_cases h:(i:Int)<m
  ·match n with
   | 0=>omega
   | n+1=>
    obtain⟨d2,k,cg,ba,b0⟩:=dZ b d1 4 cC (by omega);by_cases bz:k=0
    ·have z:=To l;obtain⟨jn,d,o,eD,eX⟩:=Ff b n (i+1) (d' l).1 d2 (by omega) cg ⟨by omega,by rw[Vi];exact ar.cap,Uw l ar.de⟩;exact⟨jn,d,o,eD,.more (aix ⟨bE,kF h,b0,by simp[bz],UZ l (by omega),⟨by omega,by omega⟩,ad⟩) eX⟩
    by_cases e1:k=1
    ·have z:=Tp l;obtain⟨jn,d,o,eD,eX⟩:=Ff b n (i+1) (fB l).1 d2 (by omega) cg ⟨by omega,by rw[Vj];exact ar.cap,Uv l ar.de⟩;exact⟨jn,d,o,eD,.more (aiy ⟨bE,kF h,b0,by simp[bz],by simp[e1],T' l (by omega),⟨by omega,by omega⟩,ad⟩) eX⟩
    obtain⟨d3,r,cE,aH,ch⟩:=EY b d2 cg;have z:=Tn l r;obtain⟨jn,d,o,eD,eX⟩:=Ff b n (i+1) (et l r).1 d3 (by omega) cE ⟨by omega,by rw[Vh];exact ar.cap,Uu l r ar.de⟩;exact⟨jn,d,o,eD,.more (aiA ⟨bE,kF h,b0,by simp[bz],by simp[e1],aiz ⟨ch,UY l r (by omega),ad⟩,⟨by omega,by omega⟩,ad⟩) eX⟩
  exact⟨l,d1,cC,⟨by omega,ar.cap,ar.de⟩,.last (cy 0) (aiB ⟨bE,mg h,ad⟩)⟩
theorem amx(b:List Int)(c:dQ)(ao:c.ok b):∃(d:dQ) (l:br),d.ok b/\Cj 8 l/\b3 prog 123 [.cur (c.e b) (d.e b)] (.vals [.agg l.e]):=by
 obtain⟨d1,n,cC,a',bE⟩:=dZ b c 4 ao (by omega);obtain⟨l,d,o,eD,eX⟩:=Ff b 8 0 (qw (1+n)) d1 rfl cC ⟨by simp[qw,br.sz],Vl _,by simp[qw]⟩;exact⟨d,l,o,eD,aiC ⟨bE,⟨by omega,by omega⟩,Rl (1+n),eX,ad⟩⟩
theorem amy(b:List Int)(c:dQ)(ao:c.ok b):∃(d:dQ) (l:br),d.ok b/\Cj 9 l/\b3 prog 71 [.cur (c.e b) (d.e b)] (.vals [.agg l.e]):=by
 obtain⟨d1,l,cC,⟨bp,gE,tI⟩,bE⟩:=amx b c ao;obtain⟨d2,k,cg,ba,b0⟩:=dZ b d1 14 cC (by omega);have lY:l.queue.length<=8:=bp;by_cases bz:k=0
 ·obtain⟨d3,v,cE,bx,ch⟩:=dZ b d2 6 cg (by omega);exact⟨d3,⟨l.cap,l.queue,v-1,l.back,l.e7,l.de⟩,cE,⟨Nat.le_succ_of_le bp,gE,tI⟩,aiD ⟨bE,b0,by simp[bz],ch,⟨by omega,by omega⟩,ad⟩⟩
 by_cases e1:k=1
 ·obtain⟨d3,v,cE,bx,ch⟩:=dZ b d2 6 cg (by omega);exact⟨d3,⟨l.cap,l.queue,l.eH,v-1,l.e7,l.de⟩,cE,⟨Nat.le_succ_of_le bp,gE,tI⟩,aj4 ⟨bE,b0,by simp[bz],by simp[e1],ch,⟨by omega,by omega⟩,ad⟩⟩
 by_cases e2:k=2
 ·obtain⟨d3,v,cE,bx,ch⟩:=k' b d2 [-1,0,1000000000,1000000001] cg (by simp);exact⟨d3,⟨l.cap,l.queue,l.eH,l.back,v,l.de⟩,cE,⟨Nat.le_succ_of_le bp,gE,tI⟩,aj5 ⟨bE,b0,by simp[bz],by simp[e1],by simp[e2],ch,ad⟩⟩
 by_cases cn:k=3
 ·obtain⟨d3,r,cE,aH,ch⟩:=Rt b d2 cg;have:=aj7 ⟨bE,b0,by simp[bz],by simp[e1],by simp[e2],by simp[cn],aj6 ⟨ch,by simp;omega,by simp;omega,GQ r,ad⟩,ad⟩;refine⟨d3,⟨l.cap,l.queue++[r],l.eH,l.back,l.e7,l.de⟩,cE,⟨by grind[br.sz],gE,tI⟩,?_⟩;unfold br.e;dsimp only;rw[gx];exact this
 by_cases ed:k=4
 ·have xh:((l.queue.map aD.e).length:Int)=l.queue.length:=by simp
  have:=aj8 ⟨bE,b0,by simp[bz],by simp[e1],by simp[e2],by simp[cn],by simp[ed],⟨by omega,by omega⟩,ad⟩;rw[xh]at this;exact⟨d2,⟨l.cap,l.queue,l.eH,l.back,1000000000,1000000000-(l.queue.length:Int)⟩,cg,⟨Nat.le_succ_of_le bp,gE,by grind⟩,this⟩
 exact⟨d2,l,cg,⟨by omega,gE,tI⟩,aj9 ⟨bE,b0,by simp[bz],by simp[e1],by simp[e2],by simp[cn],by simp[ed],ad⟩⟩
end Go.Proofs.YthfnndblgbjniaaGreatDoor
namespace Go.Proofs.YthfnndblgbjniaaGreatDoor
open Go.Sx Go.RowKit Go.Proofs.Tryz
theorem amz(b:List Int)(c:dQ)(g:b5)(ao:c.ok b)(ax:g.nodes.length<=1000):∃(d:dQ) (r:aD),d.ok b/\(0<=r.bw.bh/\r.bw.bh<=3)/\b3 prog 173 [.cur (c.e b) (d.e b),.ro (.agg g.e)] (.vals [.agg r.e]):=by
 obtain⟨d1,r,cC,⟨_,aa,_,_,_⟩,bE⟩:=EY b c ao;have xh:((g.nodes.map Node.e).length:Int)=g.nodes.length:=by simp
 by_cases b4:0<g.nodes.length
 ·have aI:decide (((g.nodes.map Node.e).length:Int)>0)=true:=dm (by omega);obtain⟨d2,k,cg,ba,b0⟩:=dZ b d1 (g.nodes.length:Int) cC (by omega);rw[<-xh]at b0;obtain⟨d3,x,cE,ch⟩:=EX b d2 4 cg (by omega);cases x with
  | true=>
   obtain⟨d4,t,fG,bZ,eB⟩:=dZ b d3 2 cE (by omega);exact⟨d4,⟨k,⟨r.bw.bh,5+t⟩,r.key,r.val⟩,fG,by grind,aka ⟨bE,aI,b0,ch,rfl,eB,⟨by omega,by omega⟩,ad⟩⟩
  | false=>exact⟨d3,⟨k,r.bw,r.key,r.val⟩,cE,by grind,akb ⟨bE,aI,b0,ch,rfl,ad⟩⟩
 have aI:decide (((g.nodes.map Node.e).length:Int)>0)=false:=dX (by omega);obtain⟨d3,x,cE,ch⟩:=EX b d1 4 cC (by omega);cases x with
 | true=>
  obtain⟨d4,t,fG,bZ,eB⟩:=dZ b d3 2 cE (by omega);exact⟨d4,⟨r.op,⟨r.bw.bh,5+t⟩,r.key,r.val⟩,fG,by grind,akc ⟨bE,aI,ch,rfl,eB,⟨by omega,by omega⟩,ad⟩⟩
 | false=>exact⟨d3,r,cE,by omega,akd ⟨bE,aI,ch,rfl,ad⟩⟩
structure rW (i:Nat) (w:aR):Prop where
 sz:w.sz<=40+2*i
 bJ:w.bJ.length=4
 bV:w.bV.length=4
 yU:∀k:Nat,-(i:Int)<=w.bJ.getD k 0/\w.bJ.getD k 0<=0
 bX:w.bX=[]
theorem rW.mono{i:Nat}{w v:aR}(h:rW i w)(ak:v.sz<=w.sz+2)(U:v.bJ=w.bJ)(aa:v.bV=w.bV)(aB:v.bX=w.bX):rW (i+1) v:=by
 refine⟨by have:=h.sz;omega,by rw[U];exact h.bJ,by rw[aa];exact h.bV,fun k=>?_,aB.trans h.bX⟩;rw[U];have:=h.yU k;omega
theorem rW.im{i:Nat}{w:aR}{r:aD}(h:rW i w)(he:0<=r.bw.bh/\r.bw.bh<=3):rW (i+1) (im w r):=by
 have aJ:=h.bJ;refine⟨?_,?_,?_,fun k=>?_,h.bX⟩
 ·have:=Tl w r;have:=h.sz;omega
 ·unfold Go.Proofs.YthfnndblgbjniaaGreatDoor.im mx;dsimp only;rw[hr];exact aJ
 ·unfold Go.Proofs.YthfnndblgbjniaaGreatDoor.im;dsimp only;rw[hr];exact h.bV
 unfold Go.Proofs.YthfnndblgbjniaaGreatDoor.im mx;dsimp only;by_cases ba:r.bw.bh.toNat=k
 ·subst ba;rw[T8 (by omega)];have:=h.yU r.bw.bh.toNat;omega
 rw[El ba];have:=h.yU k;omega
theorem amA(g:b5)(w:aR):(eI g w).1.bJ=w.bJ/\(eI g w).1.bV=w.bV/\(eI g w).1.bX=w.bX:=by
 grind[TI]
theorem amB(g:b5)(w:aR):(eJ g w).1.bJ=w.bJ/\(eJ g w).1.bV=w.bV/\(eJ g w).1.bX=w.bX:=by
 grind[TJ]
theorem xB(b:List Int)(g:b5)(ax:g.sz<=1000):∀(n i:Nat) (w:aR) (c:dQ),i+n=7->c.ok b->rW i w->
  ∃(v:aR) (d:dQ),d.ok b/\rW 7 v/\c6 prog (ap f120 0) (qD (b.map hF) i (w.queue.map aD.e) (w.ck.map aD.e) (w.cb.map aD.e) (w.cells.map Cell.e) (w.bJ.map bb) (w.bV.map cp) (w.bt.map cp) (w.bX.map cz.e) (g.nodes.map Node.e) g.az g.cap c.i c.h) (.exit 0)
   (KS (b.map hF) (v.queue.map aD.e) (v.ck.map aD.e) (v.cb.map aD.e) (v.cells.map Cell.e) (v.bJ.map bb) (v.bV.map cp) (v.bt.map cp) (v.bX.map cz.e) d.i d.h)
 | n,i,w,c,n8,ao,hw=>by
  obtain⟨d1,m,cC,ay,bE⟩:=dZ b c 8 ao (by omega);have bp:=hw.sz;have YL:g.nodes.length<=1000:=by have:=AY (sz:=Node.sz) (xs:=g.nodes) (m:=1000) ax;exact this
  by_cases h:(i:Int)<m
  ·match n with
   | 0=>omega
   | n+1=>
    obtain⟨d2,k,cg,ba,b0⟩:=dZ b d1 5 cC (by omega);by_cases bz:k=0
    ·have z:=Tk g w;obtain⟨q1,iR,tU⟩:=amB g w;obtain⟨jn,d,o,eD,eX⟩:=xB b g ax n (i+1) (eJ g w).1 d2 (by omega) cg (hw.mono (by omega) q1 iR tU);exact⟨jn,d,o,eD,.more (ake ⟨bE,kF h,b0,by simp[bz],amH g w (by omega) (by omega),⟨by omega,by omega⟩,ad⟩) eX⟩
    by_cases e1:k=1
    ·obtain⟨d3,r,cE,he,ch⟩:=amz b d2 g cg YL;obtain⟨jn,d,o,eD,eX⟩:=xB b g ax n (i+1) (im w r) d3 (by omega) cE (hw.im he);have axX:=hw.yU r.bw.bh.toNat;have aws:=anv w r (by omega) hw.bJ hw.bV he ⟨by omega,by omega⟩;exact⟨jn,d,o,eD,.more (akg ⟨bE,kF h,b0,by simp[bz],by simp[e1],akf ⟨ch,aws,ad⟩,⟨by omega,by omega⟩,ad⟩) eX⟩
    by_cases e2:k=2
    ·have o5:w.ck=[]\/∃r t,w.ck=r::t:=by
      cases w.ck with
      | nil=>grind
      | cons r t=>grind
     rcases o5 with fc | ⟨r,t0,fc⟩
     ·obtain⟨jn,d,o,eD,eX⟩:=xB b g ax n (i+1) w d2 (by omega) cg (hw.mono (by omega) rfl rfl rfl);have us:=anx w (by omega) fc;exact⟨jn,d,o,eD,.more (S4 ⟨bE,kF h,b0,by simp[bz],by simp[e1],by simp[e2],us,⟨by omega,by omega⟩,ad⟩) eX⟩
     have z:=Lb fc;obtain⟨jn,d,o,eD,eX⟩:=xB b g ax n (i+1) (il w t0) d2 (by omega) cg (hw.mono (by omega) rfl rfl rfl);have us:=anw w r t0 (by omega) fc;exact⟨jn,d,o,eD,.more (S4 ⟨bE,kF h,b0,by simp[bz],by simp[e1],by simp[e2],us,⟨by omega,by omega⟩,ad⟩) eX⟩
    have z:=Tj g w;obtain⟨q1,iR,tU⟩:=amA g w;obtain⟨jn,d,o,eD,eX⟩:=xB b g ax n (i+1) (eI g w).1 d2 (by omega) cg (hw.mono (by omega) q1 iR tU);exact⟨jn,d,o,eD,.more (akh ⟨bE,kF h,b0,by simp[bz],by simp[e1],by simp[e2],amG g w (by omega) (by omega),⟨by omega,by omega⟩,ad⟩) eX⟩
  refine⟨w,d1,cC,⟨by omega,hw.bJ,hw.bV,fun k=>?_,hw.bX⟩,.last (cy 0) (aki ⟨bE,mg h,ad⟩)⟩;have:=hw.yU k;omega
theorem amC(b:List Int)(c:dQ)(g:b5)(ax:g.sz<=1000)(ao:c.ok b):∃(d:dQ) (w:aR),d.ok b/\rW 7 w/\b3 prog 120 [.cur (c.e b) (d.e b),.ro (.agg g.e)] (.vals [.agg w.e]):=by
 obtain⟨d1,xs,cC,ix,jB,bE⟩:=Rh b c ao;obtain⟨w,d,o,eD,eX⟩:=xB b g ax 7 0 (s3 xs) d1 rfl cC (by
  refine⟨by grind[s3,aR.sz],by simp[s3],by simp[s3],fun k=>?_,rfl⟩;grind[s3,List,Int])
 exact⟨d,w,o,eD,akj ⟨bE,Rm xs (by omega),eX,ad⟩⟩
theorem amD(v:Bool):Flat [[B v]]:=fA (by grind)
theorem amE(b:List Int)(c:dQ)(g:b5)(ax:g.sz<=1000)(ao:c.ok b):∃(d:dQ) (w:aR),d.ok b/\(w.sz<=100/\∀d∈w.bX,d.wf)/\b3 prog 70 [.cur (c.e b) (d.e b),.ro (.agg g.e)] (.vals [.agg w.e]):=by
 obtain⟨d1,w,cC,hw,bE⟩:=amC b c g ax ao;obtain⟨d2,k,cg,ba,b0⟩:=dZ b d1 16 cC (by omega);have bp:=hw.sz;have aJ:=hw.bJ;have CP:=hw.bX;have Iw:=bp;simp only[aR.sz]at Iw;have bk:∀d∈w.bX,d.wf:=by rw[CP];exact fun _ h=>(by cases h)
 have ayz:w.queue.length<=1000:=by omega
 by_cases bz:k=0
 ·obtain⟨d3,r,cE,aH,ch⟩:=Rt b d2 cg;have:=akl ⟨bE,b0,by simp[bz],akk ⟨ch,by simp;omega,by simp;omega,GQ r,ad⟩,ad⟩;refine⟨d3,⟨w.queue++[r],w.ck,w.cb,w.cells,w.bJ,w.bV,w.bt,w.bX⟩,cE,⟨by grind[aR.sz],bk⟩,?_⟩;unfold aR.e;dsimp only;rw[gx];exact this
 by_cases e1:k=1
 ·obtain⟨d3,r,cE,aH,ch⟩:=EY b d2 cg;have:=akn ⟨bE,b0,by simp[bz],by simp[e1],akm ⟨ch,by simp;omega,by simp;omega,GQ r,ad⟩,ad⟩;refine⟨d3,⟨w.queue,w.ck,w.cb++[r],w.cells,w.bJ,w.bV,w.bt,w.bX⟩,cE,⟨by grind[aR.sz],bk⟩,?_⟩;unfold aR.e;dsimp only;rw[gx];exact this
 by_cases e2:k=2
 ·obtain⟨d3,v,cE,bx,ch⟩:=dZ b d2 4 cg (by omega);have xh:((w.bJ.map bb).length:Int)=4:=by simp[aJ]
  have:=akp ⟨bE,b0,by simp[bz],by simp[e1],by simp[e2],ako ⟨ch,by decide,bx.1,by grind,ad⟩,ad⟩;refine⟨d3,⟨w.queue,w.ck,w.cb,w.cells,w.bJ.take v.toNat,w.bV,w.bt,w.bX⟩,cE,⟨by grind[aR.sz],bk⟩,?_⟩;unfold aR.e;dsimp only;rw[rV];exact this
 by_cases cn:k=3
 ·obtain⟨d3,v,cE,bx,ch⟩:=k' b d2 [1000000,1000001,-1000001] cg (by simp);obtain⟨y,bM⟩:=c2 (xs:=w.bJ) (i:=0) (by omega);have nq:(w.bJ.map bb)[0]?=some [I y]:=by rw[dP,bM];rfl
  have:=akr ⟨bE,b0,by simp[bz],by simp[e1],by simp[e2],by simp[cn],akq ⟨ch,by decide,by simp[aJ],nq,ad⟩,ad⟩;refine⟨d3,⟨w.queue,w.ck,w.cb,w.cells,w.bJ.set 0 v,w.bV,w.bt,w.bX⟩,cE,⟨by grind[aR.sz],bk⟩,?_⟩;unfold aR.e;dsimp only;rw[ib];exact this
 by_cases ed:k=4
 ·obtain⟨d3,v,cE,bx,ch⟩:=dZ b d2 6 cg (by omega);have:=akt ⟨bE,b0,by simp[bz],by simp[e1],by simp[e2],by simp[cn],by simp[ed],aks ⟨ch,⟨by omega,by omega⟩,by simp;omega,by simp;omega,fA (cz.flat ⟨v-1,false⟩),ad⟩,ad⟩;refine⟨d3,⟨w.queue,w.ck,w.cb,w.cells,w.bJ,w.bV,w.bt,w.bX++[⟨v-1,false⟩]⟩,cE,⟨by grind[aR.sz],fun d aI=>?_⟩,?_⟩
  ·rw[CP]at aI;obtain rfl:=List.mem_singleton.1 aI;exact⟨⟨by dsimp only;omega,by dsimp only;omega⟩⟩
  unfold aR.e;dsimp only;rw[gx];exact this
 by_cases hP:k=5
 ·obtain⟨d3,v,cE,bx,ch⟩:=dZ b d2 2 cg (by omega);have:=ajE ⟨bE,b0,by simp[bz],by simp[e1],by simp[e2],by simp[cn],by simp[ed],by simp[hP],ch,ad⟩;exact⟨d3,⟨w.queue,w.ck,w.cb,w.cells,w.bJ,w.bV,w.bt,[⟨1,false⟩,⟨v,true⟩]⟩,cE,⟨by grind[aR.sz],fun d aI=>by
   simp only[eK,nP,or_false]at aI;rcases aI with rfl | rfl
   ·exact⟨⟨by decide,by decide⟩⟩
   exact⟨⟨by dsimp only;omega,by dsimp only;omega⟩⟩⟩,this⟩
 by_cases mr:k=6
 ·have:=ajF ⟨bE,b0,by simp[bz],by simp[e1],by simp[e2],by simp[cn],by simp[ed],by simp[hP],by simp[mr],by simp;omega,by simp;omega,amD true,ad⟩;refine⟨d2,⟨w.queue,w.ck,w.cb,w.cells,w.bJ,w.bV++[true],w.bt,w.bX⟩,cg,⟨by grind[aR.sz],bk⟩,?_⟩;unfold aR.e;dsimp only;rw[gx];exact this
 by_cases oV:k=7
 ·have:=ajG ⟨bE,b0,by simp[bz],by simp[e1],by simp[e2],by simp[cn],by simp[ed],by simp[hP],by simp[mr],by simp[oV],by simp;omega,by simp;omega,fA (Cell.flat ⟨0,0,0,0⟩),ad⟩;refine⟨d2,⟨w.queue,w.ck,w.cb,w.cells++[⟨0,0,0,0⟩],w.bJ,w.bV,w.bt,w.bX⟩,cg,⟨by grind[aR.sz],bk⟩,?_⟩;unfold aR.e;dsimp only;rw[gx];exact this
 exact⟨d2,w,cg,⟨by omega,bk⟩,ajH ⟨bE,b0,by simp[bz],by simp[e1],by simp[e2],by simp[cn],by simp[ed],by simp[hP],by simp[mr],by simp[oV],ad⟩⟩
end Go.Proofs.YthfnndblgbjniaaGreatDoor
namespace Go.Proofs.YthfnndblgbjniaaGreatDoor
open Go.Sx Go.RowKit Go.Proofs.Tryz
theorem Vm{α:Type}{sz:α->Nat}{xs:List α}{i:Nat}{x y:α}(h:xs[i]?=some y):fr sz (xs.set i x)<=fr sz xs+sz x:=by
 have:=vF (sz:=sz) x h;omega
theorem Vn(b:List Int)(c:dQ)(ao:c.ok b):∃(d:dQ) (x:bi),d.ok b/\(yK x/\x.sz<=8400)/\b3 prog 33 [.cur (c.e b) (d.e b)] (.vals [.agg x.e]):=by
 obtain⟨d1,x,cC,sm,bE⟩:=amw b c ao;have bp:=sm.sz;have Iw:=bp;simp only[bi.sz]at Iw;have ax5:=sm.aA.size;have YM:=sm.aA.az;have zF:=sm.wG;have CY:=sm.Bo.zN;have zB:=sm.Bo.tok;have gE:=sm.Bo.cap;have tI:=sm.de;have nums:∀l∈x.bU,aK .i64 l.cap/\l.de<=9223372036854775807:=fun l ar=>⟨⟨by have:=gE l ar;omega,by have:=gE l ar;omega⟩,tI l ar⟩
 have u9:aK .i64 x.aA.az:=⟨by omega,by omega⟩
 have Y7:((x.az.map aR.e).length:Int)=x.az.length:=by simp
 have CX:((x.bU.map br.e).length:Int)=x.bU.length:=by simp
 have bO:((x.tokens.map bW.e).length:Int)=4:=by simp[zB]
 have ayd:x.bU.length<=8000:=by have:=AY (sz:=br.sz) (xs:=x.bU) (m:=8000) (by omega);exact this
 obtain⟨d2,k,cg,ba,b0⟩:=dZ b d1 (x.az.length:Int) cC (by omega);rw[<-Y7]at b0;obtain⟨d3,m,cE,hm,ch⟩:=dZ b d2 20 cg (by omega);by_cases bz:m=0
 ·obtain⟨d4,w,fG,⟨hw,_⟩,eB⟩:=amE b d3 x.aA (by omega) cE;obtain⟨y,bM⟩:=c2 (xs:=x.az) (i:=k.toNat) (by omega);have nq:(x.az.map aR.e)[k.toNat]?=some y.e:=by rw[dP,bM];rfl
  have:=ajM ⟨bE,b0,ch,by simp[bz],ajL ⟨eB,ba.1,by omega,nq,ad⟩,ad⟩;refine⟨d4,⟨x.aA,x.az.set k.toNat w,x.bU,x.tokens,x.news⟩,fG,⟨⟨u9,nums⟩,?_⟩,?_⟩
  ·have:=Vm (sz:=aR.sz) (x:=w) bM;simp only[bi.sz];omega
  unfold bi.e;dsimp only;rw[ib];exact this
 by_cases e1:m=1
 ·obtain⟨d4,i,fG,hi,eB⟩:=dZ b d3 (x.bU.length:Int) cE (by omega);rw[<-CX]at eB;obtain⟨d5,l,sD,ar,ki⟩:=amy b d4 fG;obtain⟨y,bM⟩:=c2 (xs:=x.bU) (i:=i.toNat) (by omega);have nq:(x.bU.map br.e)[i.toNat]?=some y.e:=by rw[dP,bM];rfl
  have:=ajO ⟨bE,b0,ch,by simp[bz],by simp[e1],ajN ⟨eB,ki,hi.1,by omega,nq,ad⟩,ad⟩;refine⟨d5,⟨x.aA,x.az,x.bU.set i.toNat l,x.tokens,x.news⟩,sD,⟨⟨u9,fun z bp=>?_⟩,?_⟩,?_⟩
  ·rcases qP bp with bp | rfl
   ·exact nums z bp
   exact⟨⟨by have:=ar.cap;omega,by have:=ar.cap;omega⟩,ar.de⟩
  ·have:=Vm (sz:=br.sz) (x:=l) bM;have:=ar.sz;simp only[bi.sz];omega
  unfold bi.e;dsimp only;rw[ib];exact this
 by_cases e2:m=2
 ·obtain⟨d4,i,fG,hi,eB⟩:=dZ b d3 4 cE (by omega);obtain⟨d5,v,sD,bx,ki⟩:=dZ b d4 6 fG (by omega);obtain⟨y,bM⟩:=c2 (xs:=x.tokens) (i:=i.toNat) (by omega);have nq:(x.tokens.map bW.e)[i.toNat]?=some y.e:=by rw[dP,bM];rfl
  have:=ajQ ⟨bE,b0,ch,by simp[bz],by simp[e1],by simp[e2],ajP ⟨eB,ki,⟨by omega,by omega⟩,hi.1,by omega,nq,ad⟩,ad⟩;refine⟨d5,⟨x.aA,x.az,x.bU,x.tokens.set i.toNat ⟨y.going,v-1,y.sum,y.bV,y.dx⟩,x.news⟩,sD,⟨⟨u9,nums⟩,?_⟩,?_⟩
  ·simp only[bi.sz,hr];omega
  unfold bi.e;dsimp only;rw[ib];exact this
 by_cases cn:m=3
 ·obtain⟨d4,v,fG,bx,eB⟩:=k' b d3 [1000000,1000001,-1000001,3] cE (by simp);obtain⟨y,bM⟩:=c2 (xs:=x.tokens) (i:=0) (by omega);have nq:(x.tokens.map bW.e)[0]?=some y.e:=by rw[dP,bM];rfl
  have:=ajS ⟨bE,b0,ch,by simp[bz],by simp[e1],by simp[e2],by simp[cn],ajR ⟨eB,by decide,by omega,nq,ad⟩,ad⟩;refine⟨d4,⟨x.aA,x.az,x.bU,x.tokens.set 0 ⟨y.going,y.place,v,y.bV,y.dx⟩,x.news⟩,fG,⟨⟨u9,nums⟩,?_⟩,?_⟩
  ·simp only[bi.sz,hr];omega
  unfold bi.e;dsimp only;rw[ib];exact this
 by_cases ed:m=4
 ·obtain⟨d4,u,fG,hu,eB⟩:=dZ b d3 6 cE (by omega);obtain⟨d5,v,sD,bx,ki⟩:=dZ b d4 6 fG (by omega);have vk:x.news.length<=8000:=by omega
  have:=ajU ⟨bE,b0,ch,by simp[bz],by simp[e1],by simp[e2],by simp[cn],by simp[ed],ajT ⟨eB,⟨by omega,by omega⟩,ki,⟨by omega,by omega⟩,by simp;omega,by simp;omega,fA (bR.flat ⟨u-1,v-1,false⟩),ad⟩,ad⟩;refine⟨d5,⟨x.aA,x.az,x.bU,x.tokens,x.news++[⟨u-1,v-1,false⟩]⟩,sD,⟨⟨u9,nums⟩,?_⟩,?_⟩
  ·simp only[bi.sz,lL,List.length_singleton];omega
  unfold bi.e;dsimp only;rw[gx];exact this
 by_cases hP:m=5
 ·obtain⟨d4,g,fG,ax,eB⟩:=ajy b d3 cE;have:=ajV ⟨bE,b0,ch,by simp[bz],by simp[e1],by simp[e2],by simp[cn],by simp[ed],by simp[hP],eB,ad⟩;refine⟨d4,⟨g,x.az,x.bU,x.tokens,x.news⟩,fG,⟨⟨⟨by dsimp only;omega,by dsimp only;omega⟩,nums⟩,?_⟩,this⟩;simp only[bi.sz];omega
 by_cases mr:m=6
 ·have:=ajW ⟨bE,b0,ch,by simp[bz],by simp[e1],by simp[e2],by simp[cn],by simp[ed],by simp[hP],by simp[mr],by decide,by change (0:Int)<=3;decide,by change (3:Int)<=_;omega,ad⟩;refine⟨d3,⟨x.aA,x.az,x.bU,x.tokens.take 3,x.news⟩,cE,⟨⟨u9,nums⟩,?_⟩,?_⟩
  ·simp only[bi.sz,uT];omega
  unfold bi.e;dsimp only;rw[rV];exact this
 exact⟨d3,x,cE,⟨⟨u9,nums⟩,by omega⟩,ajX ⟨bE,b0,ch,by simp[bz],by simp[e1],by simp[e2],by simp[cn],by simp[ed],by simp[hP],by simp[mr],ad⟩⟩
end Go.Proofs.YthfnndblgbjniaaGreatDoor
namespace Go.Proofs.YthfnndblgbjniaaGreatDoor
open Go.Sx Go.RowKit Go.Proofs.Tryz
theorem xE.wf{p:cf}(h:xE p):p.wf:=by
 obtain⟨U,aa,aB⟩:=h;exact⟨re (by omega) (by omega),re (by omega) (by omega),re (by omega) (by omega)⟩
theorem amF(b:List Int)(c:dQ)(ao:c.ok b):∃(d:dQ) (p:cf),d.ok b/\p.wf/\b3 prog 56 [.cur (c.e b) (d.e b)] (.vals [.agg p.e]):=by
 obtain⟨d1,p,cC,hp,bE⟩:=Rp b c ao;obtain⟨w1,fO,te⟩:=hp.wf;obtain⟨d2,k,cg,ba,b0⟩:=dZ b d1 10 cC (by omega);by_cases bz:k=0
 ·obtain⟨d3,v,cE,bx,ch⟩:=dZ b d2 10 cg (by omega);exact⟨d3,⟨v-1,p.a,p.b⟩,cE,⟨⟨by dsimp only;omega,by dsimp only;omega⟩,fO,te⟩,ajY ⟨bE,b0,by simp[bz],ch,⟨by omega,by omega⟩,ad⟩⟩
 by_cases e1:k=1
 ·obtain⟨d3,v,cE,bx,ch⟩:=k' b d2 [-1,3,4,9223372036854775807] cg (by simp);exact⟨d3,⟨p.kind,v,p.b⟩,cE,⟨w1,vK bx (by decide),te⟩,ajZ ⟨bE,b0,by simp[bz],by simp[e1],ch,ad⟩⟩
 by_cases e2:k=2
 ·obtain⟨d3,v,cE,bx,ch⟩:=k' b d2 [-1,0,3,-9223372036854775808] cg (by simp);exact⟨d3,⟨p.kind,p.a,v⟩,cE,⟨w1,fO,vK bx (by decide)⟩,aj0 ⟨bE,b0,by simp[bz],by simp[e1],by simp[e2],ch,ad⟩⟩
 exact⟨d2,p,cg,⟨w1,fO,te⟩,aj1 ⟨bE,b0,by simp[bz],by simp[e1],by simp[e2],ad⟩⟩
theorem an9(b:List Int)(ay:Bytes b):∃(x:bi) (p:cf),(yK x/\x.sz<=8400)/\p.wf/\al 22 [.one (.J 1 (b.map hF))] [.agg x.e,.agg p.e]:=by
 obtain⟨c,ao,hn⟩:=Rf b ay;obtain⟨d1,x,cC,aq,bE⟩:=Vn b c ao;obtain⟨d2,p,cg,hp,b0⟩:=amF b d1 cC;exact⟨x,p,aq,hp,aj2 ⟨hn,bE,b0,ad⟩⟩
theorem aoa(b:List Int)(ay:Bytes b):∃(x:bi) (b7:List cf),(yK x/\x.sz<=8400)/\b7.length<=13/\al 27 [.one (.J 1 (b.map hF))] [.agg x.e,.one (.J 3 (b7.map cf.e))]:=by
 obtain⟨c,ao,hn⟩:=Rf b ay;obtain⟨d1,x,cC,aq,bE⟩:=Vn b c ao;obtain⟨d2,b7,cg,ar,_,b0⟩:=Rr b d1 12 (by omega) cC;exact⟨x,b7,aq,ar,aj3 ⟨hn,bE,b0,ad⟩⟩
end Go.Proofs.YthfnndblgbjniaaGreatDoor
namespace Go.Proofs.YthfnndblgbjniaaGreatDoor
open Go.Sx Go.RowKit Go.Proofs.Tryz
end Go.Proofs.YthfnndblgbjniaaGreatDoor
namespace Go.Proofs.YthfnndblgbjniaaGreatDoor
open Go.Sx Go.RowKit Go.Proofs.Tryz
end Go.Proofs.YthfnndblgbjniaaGreatDoor
namespace Go.Proofs.YthfnndblgbjniaaGreatDoor
open Go.Sx Go.RowKit Go.Proofs.Tryz
theorem Vo:∀{l:List cf} {i:Nat} {p:cf} (c:bi),l[i]?=some p->(cY c l).2[i]?=some (dC (cY c (l.take i)).1 p).2
 | [],_,_,_,h=>by simp at h
 | q::l,0,p,c,h=>by
  simp only[lg,aW]at h;subst h;rfl
 | q::l,i+1,p,c,h=>by
  rw[mL]at h;have:=Vo (dC c q).1 h;simpa only[cY,List.take_succ_cons,mL]using this
