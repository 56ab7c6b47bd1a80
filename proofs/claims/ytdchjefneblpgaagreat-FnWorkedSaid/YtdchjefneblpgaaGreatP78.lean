import Derived.Test.YtdchjefneblpgaaGreatP61
import Derived.Test.YtdchjefneblpgaaGreatG4
set_option linter.unusedVariables false
set_option linter.unusedSimpArgs false
namespace Go.Proofs.YtdchjefneblpgaaGreat
open Go.Sx Go.RowKit
theorem aih(w:aR)(r:aB)(hw:w.sz<=8388608):ar 376 [.agg w.e,.agg r.e] [.agg (kept w r).e]:=by
 have aK:w.queue.length<=8388608:=by simp only[aR.sz]at hw;omega
 rw[Ki];exact ah0 ⟨wJ w hw,wq aK,wu aK,fV (aB.flat r),aa⟩
theorem aii(w:aR)(r:aB)(hw:w.sz<=8388608)(aJ:w.bF.length=4)(aw:w.bO.length=4)(he:0<=r.bp.bc/\r.bp.bc<=3)(ai:-1000000<=w.bF.getD r.bp.bc.toNat 0/\w.bF.getD r.bp.bc.toNat 0<=1000000):
  ar 349 [.agg w.e,.agg r.e] [.agg (h6 w r).e]:=by
 have k:=aih w r hw;rw[Ki]at k;rw[agR];obtain⟨s1,s2⟩:=G2 aJ he;obtain⟨gC,fQ⟩:=tV aw he;have FU:(↑(w.bF.map a6).length:Int)-1=3:=by rw[cm,aJ];rfl
 exact ah1 ⟨k,⟨by rw[FU];omega,by rw[FU];omega⟩,fk _ _ _ true (by rw[FU];simp only[aq,cW];omega),rfl,dM gC,he.1,s1,s2,⟨by omega,by omega⟩,he.1,s1,s2,he.1,gC,fQ,aa⟩
theorem aij(w:aR)(r:aB)(t:List aB)(hw:w.sz<=8388608)(h:w.cg=r::t):ar 351 [.agg w.e] [.agg (jH w t).e,.agg r.e,.one (B true)]:=by
 have ap:w.cg.length<=8388608:=by simp only[aR.sz]at hw;omega
 have e:(jH w t).e=[.J 5 (w.queue.map aB.e),.J 5 ([]++((w.cg.map aB.e).drop 1).take ((w.cg.map aB.e).length-1)),.J 5 (w.b3.map aB.e),.J 4 (w.cells.map Cell.e),.J 1 (w.bF.map a6),.J 1 (w.bO.map cq),.J 1 (w.br.map cq),.J 2 (w.bZ.map cw.e)]:=by rw[r2 h];rfl
 rw[e];exact ahZ ⟨wJ w hw,l4 h,by decide,ly h,mi h,mD,mE h,mF,qz h ap,qA h ap,qB h,aa⟩
theorem aik(w:aR)(hw:w.sz<=8388608)(h:w.cg=[]):ar 351 [.agg w.e] [.agg w.e,.agg (⟨0,⟨0,0⟩,0,0⟩:aB).e,.one (B false)]:=
 ahY ⟨wJ w hw,rB h,aa⟩
theorem SL(g:bR)(w:aR)(av:g.sz<=8388608)(hw:w.sz<=8388608):ar 48 [.agg g.e,.agg w.e] [.agg (ec g w).1.e,.one (B (ec g w).2)]:=by
 have dL:=wJ w hw;have k:=w7 g av;have kw:=Du g w av hw;have oU:w.cells.length<=8388608:=by simp only[aR.sz]at hw;omega
 have kU:w.queue.length<=8388608:=by simp only[aR.sz]at hw;omega
 cases h1:dY g with
 | false=>
  rw[h1]at k;rw[show ec g w=(w,false) by unfold ec;simp[h1]];exact ah8 ⟨dL,k,rfl,aa⟩
 | true=>
 rw[h1]at k;cases U:eu g w with
 | false=>
  rw[U]at kw;rw[show ec g w=(w,false) by unfold ec;simp[U]];exact ah9 ⟨dL,k,rfl,kw,rfl,aa⟩
 | true=>
 rw[U]at kw;have hu:ec g w=match w.cg,w.queue with
  | [],r::q=>(⟨q,(dv g w.cells r).2.1,w.b3,(dv g w.cells r).1,w.bF,w.bO,(if dm g r then w.br.set r.bp.bc.toNat true else w.br),w.bZ⟩,true)
  | _,_=>(w,false):=by unfold ec;rw[h1,U];rfl
 cases ax:w.cg with
 | cons r q=>
  rw[show ec g w=(w,false) by rw[hu,ax]];exact aia ⟨dL,k,rfl,kw,rfl,rG ax,aa⟩
 | nil=>
 cases aJ:w.queue with
 | nil=>
  rw[show ec g w=(w,false) by rw[hu,ax,aJ]];exact aib ⟨dL,k,rfl,kw,rfl,h3 ax,rB aJ,aa⟩
 | cons r q=>
  have st:=RY g w.cells r av oU;have lQ:=RZ g r av;obtain⟨c4,_,_,_,_,_,jB,_⟩:=iz.1 U;rw[aJ,rV]at c4;have he:=rW c4.1;obtain⟨c1,c2⟩:=tV jB he;cases aY:dm g r with
  | true=>
   rw[aY]at lQ;rw[show ec g w=(⟨q,(dv g w.cells r).2.1,w.b3,(dv g w.cells r).1,w.bF,w.bO,w.br.set r.bp.bc.toNat true,w.bZ⟩,true) by rw[hu,ax,aJ];simp only[aY,gO]];have e:aR.e ⟨q,(dv g w.cells r).2.1,w.b3,(dv g w.cells r).1,w.bF,w.bO,w.br.set r.bp.bc.toNat true,w.bZ⟩=[.J 5 ([]++((w.queue.map aB.e).drop 1).take ((w.queue.map aB.e).length-1)),.J 5 ((dv g w.cells r).2.1.map aB.e),.J 5 (w.b3.map aB.e),.J 4 ((dv g w.cells r).1.map Cell.e),.J 1 (w.bF.map a6),.J 1 (w.bO.map cq),.J 1 ((w.br.map cq).set r.bp.bc.toNat [B true]),.J 2 (w.bZ.map cw.e)]:=by
    rw[r2 aJ];simp only[aR.e,js];rfl
   dsimp only;rw[e];exact aic ⟨dL,k,rfl,kw,rfl,h3 ax,l4 aJ,by decide,ly aJ,mi aJ,st,mD,mE aJ,mF,qz aJ kU,qA aJ kU,qB aJ,lQ,rfl,he.1,c1,c2,aa⟩
  | false=>
   rw[aY]at lQ;rw[show ec g w=(⟨q,(dv g w.cells r).2.1,w.b3,(dv g w.cells r).1,w.bF,w.bO,w.br,w.bZ⟩,true) by rw[hu,ax,aJ];simp only[aY];rfl];have e:aR.e ⟨q,(dv g w.cells r).2.1,w.b3,(dv g w.cells r).1,w.bF,w.bO,w.br,w.bZ⟩=[.J 5 ([]++((w.queue.map aB.e).drop 1).take ((w.queue.map aB.e).length-1)),.J 5 ((dv g w.cells r).2.1.map aB.e),.J 5 (w.b3.map aB.e),.J 4 ((dv g w.cells r).1.map Cell.e),.J 1 (w.bF.map a6),.J 1 (w.bO.map cq),.J 1 (w.br.map cq),.J 2 (w.bZ.map cw.e)]:=by
    rw[r2 aJ];rfl
   dsimp only;rw[e];exact aid ⟨dL,k,rfl,kw,rfl,h3 ax,l4 aJ,by decide,ly aJ,mi aJ,st,mD,mE aJ,mF,qz aJ kU,qA aJ kU,qB aJ,lQ,rfl,aa⟩
theorem ail(g:bR)(w:aR)(av:g.sz<=8388608)(hw:w.sz<=8388608):ar 348 [.agg g.e,.agg w.e] [.agg (eo g w).1.e,.one (B (eo g w).2)]:=by
 have dL:=wJ w hw;have k:=w7 g av;have kw:=Du g w av hw;have aK:w.queue.length<=8388608:=by simp only[aR.sz]at hw;omega
 have iK:w.b3.length<=8388608:=by simp only[aR.sz]at hw;omega
 cases h1:dY g with
 | false=>
  rw[h1]at k;rw[show eo g w=(w,false) by unfold eo;simp[h1]];exact ah2 ⟨dL,k,rfl,aa⟩
 | true=>
 rw[h1]at k;cases U:eu g w with
 | false=>
  rw[U]at kw;rw[show eo g w=(w,false) by unfold eo;simp[U]];exact ah3 ⟨dL,k,rfl,kw,rfl,aa⟩
 | true=>
 rw[U]at kw;have hu:eo g w=match w.cg,w.queue,w.b3 with
  | [],[],r::t=>(⟨[r],[],t,w.cells,w.bF,w.bO,w.br,w.bZ⟩,true)
  | _,_,_=>(w,false):=by unfold eo;rw[h1,U];rfl
 cases ax:w.cg with
 | cons r q=>
  rw[show eo g w=(w,false) by rw[hu,ax]];exact ah4 ⟨dL,k,rfl,kw,rfl,rG ax,aa⟩
 | nil=>
 cases aJ:w.queue with
 | cons r q=>
  rw[show eo g w=(w,false) by rw[hu,ax,aJ]];exact ah5 ⟨dL,k,rfl,kw,rfl,h3 ax,rG aJ,aa⟩
 | nil=>
 cases aY:w.b3 with
 | nil=>
  rw[show eo g w=(w,false) by rw[hu,ax,aJ,aY]];exact ah6 ⟨dL,k,rfl,kw,rfl,h3 ax,h3 aJ,rB aY,aa⟩
 | cons r t=>
  rw[show eo g w=(⟨[r],[],t,w.cells,w.bF,w.bO,w.br,w.bZ⟩,true) by rw[hu,ax,aJ,aY]];have e:aR.e ⟨[r],[],t,w.cells,w.bF,w.bO,w.br,w.bZ⟩=[.J 5 (w.queue.map aB.e++[r.e]),.J 5 (w.cg.map aB.e),.J 5 ([]++((w.b3.map aB.e).drop 1).take ((w.b3.map aB.e).length-1)),.J 4 (w.cells.map Cell.e),.J 1 (w.bF.map a6),.J 1 (w.bO.map cq),.J 1 (w.br.map cq),.J 2 (w.bZ.map cw.e)]:=by
   rw[r2 aY,aJ,ax];rfl
  dsimp only;rw[e];exact ah7 ⟨dL,k,rfl,kw,rfl,h3 ax,h3 aJ,l4 aY,by decide,ly aY,mi aY,wq aK,wu aK,fV (aB.flat r),mD,mE aY,mF,qz aY iK,qA aY iK,qB aY,aa⟩
end Go.Proofs.YtdchjefneblpgaaGreat
namespace Go.Proofs.YtdchjefneblpgaaGreat
open Go.Sx Go.RowKit
inductive Step (c:bb) (p:c9):bb->Prop
 | work (x:aR) (r:aB) (q:List aB) (hk:p.kind=1) (ak:cZ c p.a=some x) (ai:x.cg=[]) (aK:x.queue=r::q):
   Step c p (setW c p.a ⟨q,(dv c.aC x.cells r).2.1,x.b3,(dv c.aC x.cells r).1,x.bF,x.bO,(if dm c.aC r then x.br.set r.bp.bc.toNat true else x.br),x.bZ⟩)
 | input (x:aR) (r:aB) (t:List aB) (hk:p.kind=2) (ak:cZ c p.a=some x) (ai:x.cg=[]) (aK:x.queue=[]) (hi:x.b3=r::t):
   Step c p (setW c p.a ⟨[r],[],t,x.cells,x.bF,x.bO,x.br,x.bZ⟩)
 | fe (x:aR) (r:aB) (t:List aB) (hk:p.kind=3) (ak:cZ c p.a=some x) (ai:x.cg=r::t) (aZ:jG r.key c.aC.ay=p.a):
   Step c p (setW c p.a (kept (jH x t) r))
 | send (x:aR) (r:aB) (t:List aB) (l:bu) (hk:p.kind=3) (ak:cZ c p.a=some x) (ai:x.cg=r::t) (aZ:jG r.key c.aC.ay≠p.a)
   (ap:gL c (e9 c.aC p.a (jG r.key c.aC.ay))=some l) (h:(e8 l r).2=true):
   Step c p (setW (dS c (e9 c.aC p.a (jG r.key c.aC.ay)) (e8 l r).1) p.a (mh (jH x t) r.bp.bc))
 | take (l:bu) (x:aR) (hk:p.kind=4) (hU:p.a≠p.b) (ap:gL c (e9 c.aC p.a p.b)=some l) (ak:cZ c p.b=some x) (h:(ek l).2.2=true):
   Step c p (setW (dS c (e9 c.aC p.a p.b) (ek l).1) p.b (h6 x (ek l).2.1))
 | E7 (l:bu) (hk:p.kind=5) (hU:p.a≠p.b) (ap:gL c (e9 c.aC p.a p.b)=some l) (h:(fX l).2=true):
   Step c p (dS c (e9 c.aC p.a p.b) (fX l).1)
 | token (t:bV) (x hc:aR) (hk:p.kind=6) (he:aq p.a 0 3=true) (b5:cZ c 0=some hc) (aG:iQ hc p.a=false) (bU:iV c p.a=some t) (ak:cZ c t.place=some x) (h:(fu c p.a t x).2=true):
   Step c p (fu c p.a t x).1
 | FK (k:Nat) (n:b7) (x:aR) (hk:p.kind=7) (a8:c.news[k]?=some n) (aG:n.dest=p.a) (ak:cZ c p.a=some x):
   Step c p (jq (setW c p.a (hV x n)) (cutAt c.news k))
theorem SM(g:bR)(w:aR):((ec g w).2=false/\(ec g w).1=w)\/
  ((ec g w).2=true/\∃r q,w.cg=[]/\w.queue=r::q/\(ec g w).1=⟨q,(dv g w.cells r).2.1,w.b3,(dv g w.cells r).1,w.bF,w.bO,(if dm g r then w.br.set r.bp.bc.toNat true else w.br),w.bZ⟩):=by
 grind[ec]
theorem SN(g:bR)(w:aR):((eo g w).2=false/\(eo g w).1=w)\/
  ((eo g w).2=true/\∃r t,w.cg=[]/\w.queue=[]/\w.b3=r::t/\(eo g w).1=⟨[r],[],t,w.cells,w.bF,w.bO,w.br,w.bZ⟩):=by
 grind[eo]
theorem aim{l:bu}{r:aB}(h:(e8 l r).2=true):iR l=true/\l.eO≠0/\l.fg<1000000000/\(e8 l r).1=⟨l.cap,l.queue++[r],l.eO-1,l.back,l.fg+1,l.dh⟩:=by
 unfold e8 at h ⊢;grind
theorem ahw{l:bu}(h:(ek l).2.2=true):iR l=true/\∃r q,l.queue=r::q/\(ek l).2.1=r/\(ek l).1=⟨l.cap,q,l.eO,l.back+1,l.fg,l.dh+1⟩:=by
 unfold ek at h ⊢;grind
theorem SO(l:bu):((fX l).2=false/\(fX l).1=l)\/((fX l).2=true/\iR l=true/\l.back≠0/\(fX l).1=⟨l.cap,l.queue,l.eO+1,l.back-1,l.fg,l.dh⟩):=by
 unfold fX;grind
theorem DI (c : bb) (e : Int) (t : bV) (x : aR) : ((fu c e t x).2 = false /\ (fu c e t x).1 = c) \/ ((fu c e t x).2 = true /\ kC x e = true /\
    ((t.going = false /\ (fu c e t x).1 = setW (ef c e ⟨true, (c.ay.length : Int) - 1, 0, false, x.br.getD e.toNat false⟩) t.place (gj x e)) \/
     (t.going = true /\ 0 < t.place /\ (fu c e t x).1 = setW (ef c e ⟨true, t.place - 1, t.sum + x.bF.getD e.toNat 0, t.bO || x.bO.getD e.toNat false, t.dm || x.br.getD e.toNat false⟩) t.place (gj x e)) \/
     (t.going = true /\ ¬ 0 < t.place /\ (t.bO = false /\ x.bO.getD e.toNat false = false /\ t.sum + x.bF.getD e.toNat 0 = 0) /\
       (fu c e t x).1 = jq (setW (ef c e ⟨false, t.place, t.sum, t.bO, t.dm⟩) 0 (told x e (t.dm || x.br.getD e.toNat false))) (c.news ++ jm (c.ay.length - 1) e (t.dm || x.br.getD e.toNat false))) \/
     (t.going = true /\ ¬ 0 < t.place /\ ¬ (t.bO = false /\ x.bO.getD e.toNat false = false /\ t.sum + x.bF.getD e.toNat 0 = 0) /\ (fu c e t x).1 = ef c e ⟨false, t.place, t.sum, t.bO, t.dm⟩))) := by
  unfold fu;split
  case isFalse => grind
  rename_i hp;cases av : t.going with
  | false => grind
  | true =>
    rw [bG (by simp)];split
    · grind
    grind
theorem SP(c:bb)(p:c9):((eB c p).2=false/\(eB c p).1=c)\/(cM c=true/\(eB c p).2=true/\Step c p (eB c p).1):=by
 unfold eB;split
 ·rename_i hk;unfold ft;split
  case isFalse=>grind
  rename_i cJ;cases ak:cZ c p.a with
  | none=>grind
  | some x=>
   rcases SM c.aC x with⟨h1,U⟩ | ⟨h1,r,q,ai,aK,U⟩
   ·grind[sR]
   refine .inr ⟨cJ,h1,?_⟩;dsimp only;rw[U];exact .work x r q hk ak ai aK
 split
 ·rename_i hk;unfold gU;split
  case isFalse=>grind
  rename_i cJ;cases ak:cZ c p.a with
  | none=>grind
  | some x=>
   rcases SN c.aC x with⟨h1,U⟩ | ⟨h1,r,t,ai,aK,hi,U⟩
   ·grind[sR]
   refine .inr ⟨cJ,h1,?_⟩;dsimp only;rw[U];exact .input x r t hk ak ai aK hi
 split
 ·rename_i hk;unfold lG;split
  case isFalse=>grind
  rename_i cJ;cases ak:cZ c p.a with
  | none=>grind
  | some x=>
   dsimp only;cases ai:x.cg with
   | nil=>grind
   | cons r t=>
    dsimp only;unfold sP;split
    ·rename_i aZ;exact .inr ⟨cJ,rfl,.fe x r t hk ak ai aZ⟩
    rename_i aZ;cases ap:gL c (e9 c.aC p.a (jG r.key c.aC.ay)) with
    | none=>grind
    | some l=>
     dsimp only;split
     ·rename_i h;exact .inr ⟨cJ,rfl,.send x r t l hk ak ai aZ ap h⟩
     grind
 split
 ·rename_i hk;unfold lu;split
  case isFalse=>grind
  rename_i al;simp only[cF,bne_iff_ne,mr]at al;cases ap:gL c (e9 c.aC p.a p.b) with
  | none=>grind
  | some l=>
   cases ak:cZ c p.b with
   | none=>grind
   | some x=>
    dsimp only;split
    ·rename_i h;exact .inr ⟨al.1,rfl,.take l x hk al.2 ap ak h⟩
    grind
 split
 ·rename_i hk;unfold kD;split
  case isFalse=>grind
  rename_i al;simp only[cF,bne_iff_ne,mr]at al;cases ap:gL c (e9 c.aC p.a p.b) with
  | none=>grind
  | some l=>
   rcases SO l with⟨h1,U⟩ | ⟨h1,_⟩
   ·grind[ac0]
   exact .inr ⟨al.1,h1,.E7 l hk al.2 ap h1⟩
 split
 ·rename_i hk;unfold kE;split
  case isFalse=>grind
  rename_i al;simp only[cF]at al;cases b5:cZ c 0 with
  | none=>grind
  | some hc=>
   cases bU:iV c p.a with
   | none=>grind
   | some t=>
    dsimp only;cases aG:iQ hc p.a with
    | true=>grind
    | false=>
     rw[bG (by simp)];cases ak:cZ c t.place with
     | none=>grind
     | some x=>
      dsimp only;rcases DI c p.a t x with h1 | ⟨h1,_⟩
      ·exact .inl h1
      exact .inr ⟨al.1,h1,.token t x hc hk al.2 b5 aG bU ak h1⟩
 split
 ·rename_i hk;unfold lv;cases b0:c.news.findIdx? (fun n=>n.dest==p.a) with
  | none=>grind
  | some k=>
   dsimp only;split
   case isFalse=>grind
   rename_i cJ;cases a8:c.news[k]? with
   | none=>grind
   | some n=>
    cases ak:cZ c p.a with
    | none=>grind
    | some x=>
     dsimp only;have aG:n.dest=p.a:=by
      have:=tE.1 b0;grind
     exact .inr ⟨cJ,rfl,.FK k n x hk a8 aG ak⟩
 grind
end Go.Proofs.YtdchjefneblpgaaGreat
namespace Go.Proofs.YtdchjefneblpgaaGreat
open Go.Sx Go.RowKit Go.Sort
def DV{α:Type}(f:α->Nat)(xs:List α):Nat:=(xs.map f).sum
theorem ahx{α:Type}{f:α->Nat}{y:α}(x:α){xs:List α}{i:Nat}(h:xs[i]?=some y):DV f (xs.set i x)+f y=DV f xs+f x:=by
 have:=uX (sz:=f) x h;simp only[eZ,gp]at this;unfold DV;omega
end Go.Proofs.YtdchjefneblpgaaGreat
namespace Go.Proofs.YtdchjefneblpgaaGreat
open Go.Sx Go.RowKit
def gl(e:Int)(x:aR):Int:=x.bF.getD e.toNat 0
def jP(e:Int)(x:aR):Bool:=x.bO.getD e.toNat false
def nJ(e:Int)(x:aR):Bool:=x.br.getD e.toNat false
def jj(e:Int)(c:bb)(k:Nat):Int:=((c.ay.take k).map (gl e)).sum
def iM(e:Int)(c:bb):Nat:=DV (pD e) c.bW
def quiet(e:Int)(c:bb):Prop:=(∀x∈c.ay,kC x e=true)/\iM e c=0
def Good(e:Int)(c:bb)(t:bV):Prop:=
 ((∀(i:Nat) x,t.place<i->c.ay[i]?=some x->kC x e=true/\(nJ e x=true->t.dm=true))/\jj e c (t.place+1).toNat+t.sum=iM e c)\/
 0<jj e c (t.place+1).toNat+t.sum\/(∃(i:Nat) (x:aR),(i:Int)<=t.place/\c.ay[i]?=some x/\jP e x=true)\/t.bO=true
structure Inv (e:Int) (c:bb):Prop where
 total:jj e c c.ay.length=iM e c
 token:∀t,iV c e=some t->t.going=true->Good e c t
 Ag:(xk c e||qH c e)=true->quiet e c
theorem zv{α:Type}(f:α->Int){y:α}(x:α):∀{xs:List α} {i k:Nat},xs[i]?=some y->(((xs.set i x).take k).map f).sum=((xs.take k).map f).sum+(if i<k then f x-f y else 0)
 | [],_,_,h=>by simp at h
 | a::xs,0,0,h=>by simp
 | a::xs,0,k+1,h=>by
  grind
 | a::xs,i+1,0,h=>by simp
 | a::xs,i+1,k+1,h=>by
  have eH:=zv f x (xs:=xs) (i:=i) (k:=k) (by simpa using h);grind
variable{i j:Nat}
theorem SQ{α:Type}{xs:List α}{y z:α}(h:(xs.set i y)[j]?=some z):(j=i/\z=y)\/(j≠i/\xs[j]?=some z):=by
 grind
theorem Ks{α:Type}{xs:List α}{x y:α}(h:xs[i]?=some x):(xs.set i y)[i]?=some y:=by
 grind
theorem ahy{α:Type}{xs:List α}{y z:α}(h:xs[j]?=some z)(bg:j≠i):(xs.set i y)[j]?=some z:=by
 grind
theorem SR{α:Type}{xs:List α}{x:α}(h:xs[i]?=some x):xs.set i x=xs:=by
 grind[a1,gP,List.set_getElem_self]
variable{e:Int}{c:bb}{x:aR}
theorem Inv.worker{i:Int}{d:bb}{y:aR}(h:Inv e c)(ak:cZ c i=some x)(hw:d.ay=c.ay.set i.toNat y)(bU:iV d e=iV c e)
  (XC:(xk d e||qH d e)=true->(xk c e||qH c e)=true)
  (al:(gl e y=gl e x/\(jP e x=true->jP e y=true)/\iM e d=iM e c/\(kC x e=true->kC y e=true/\nJ e y=nJ e x))\/
   (kC x e=false/\gl e y=gl e x+1/\(jP e x=true->jP e y=true)/\iM e d=iM e c+1)\/
   (iM e c=iM e d+1/\gl e y=gl e x-1/\jP e y=true)):Inv e d:=by
 obtain⟨i0,i1,i2⟩:=jI ak;have hlen:d.ay.length=c.ay.length:=by grind
 have v':∀k,jj e d k=jj e c k+(if i.toNat<k then gl e y-gl e x else 0):=fun k=>by
  grind[jj,zv,gl]
 have p4:x∈c.ay:=eA i2;refine⟨?_,fun t kP av=>?_,fun kP=>?_⟩
 ·rw[v',hlen,bM i1,h.total];grind
 ·have gg:=h.token t (bU▸kP) av;unfold Good at gg ⊢;rw[v'];have atB:(jP e x=true->jP e y=true)->(∃(j:Nat) (z:aR),(j:Int)<=t.place/\c.ay[j]?=some z/\jP e z=true)->∃(j:Nat) (z:aR),(j:Int)<=t.place/\d.ay[j]?=some z/\jP e z=true:=by
   rintro aw ⟨j,z,g1,g2,g3⟩;by_cases bg:j=i.toNat
   ·grind[Ks]
   exact⟨j,z,g1,by grind,g3⟩
  rcases al with⟨h1,U,ax,aJ⟩ | ⟨h1,U,ax,aJ⟩ | ⟨h1,U,ax⟩
  ·rcases gg with⟨eF,Bw⟩ | g | g | g
   ·refine .inl ⟨fun j z bg bl=>?_,?_⟩
    ·grind[SQ]
    grind
   ·grind
   ·grind
   grind
  ·rcases gg with⟨eF,Bw⟩ | g | g | g
   ·have hle:¬t.place<i.toNat:=fun bJ=>by
     grind
    omega
   ·grind
   ·grind
   grind
  by_cases hle:(i.toNat:Int)<=t.place
  ·grind[Ks]
  rw[bG (by omega)];rcases gg with⟨_,Bw⟩ | g | ⟨j,z,g1,g2,g3⟩ | g
  ·grind
  ·grind
  ·exact .inr (.inr (.inl ⟨j,z,g1,by grind,g3⟩))
  grind
 obtain⟨q1,l7⟩:=h.Ag (XC kP);have hp:=q1 x p4;rcases al with⟨_,_,ax,aJ⟩ | ⟨h1,_⟩ | ⟨h1,_⟩
 ·refine⟨fun z bl=>?_,by omega⟩;grind
 ·grind
 omega
theorem pH:kC x e=true<->(∀r∈x.b3,e<r.bp.bc)/\(∀r∈x.queue,r.bp.bc≠e)/\∀r∈x.cg,r.bp.bc≠e:=by
 simp only[kC,zU,R1,pC,cF,h8,hd,cW,jL];simp_all
theorem ahz(g:bR)(cs:List Cell)(r:aB):∀q∈(dv g cs r).2.1,q.bp.bc=r.bp.bc:=by
 grind[dv,dB,gd,hL,eI]
theorem DJ{α:Type}{xs:List α}{a d:α}(h:i≠j):(xs.set i a).getD j d=xs.getD j d:=by
 grind
theorem SS{α:Type}{xs:List α}{a d:α}(h:i<xs.length):(xs.set i a).getD i d=a:=by
 grind
theorem Kt{i e:Int}{l m:bu}(h:gL c i=some l):iM e (dS c i m)+pD e l=iM e c+pD e m:=by
 unfold iM;exact ahx m (qp h).2.2
theorem ahA(e cap:Int)(q:List aB)(r:aB)(a b s g:Int)(l:bu)(ap:l.queue=q):pD e ⟨cap,q++[r],a,b,s,g⟩=pD e l+(if r.bp.bc=e then 1 else 0):=by
 simp only[pD,pC,List.filter_append,kH,ap,List.filter_cons,List.filter_nil,jL];split<;>rfl
theorem ahB(e:Int)(r:aB)(q:List aB)(l:bu)(ap:l.queue=r::q)(cap a b s g:Int):pD e l=pD e ⟨cap,q,a,b,s,g⟩+(if r.bp.bc=e then 1 else 0):=by
 simp only[pD,pC,ap,List.filter_cons,jL];grind
theorem pI{c d:bb}{i:Int}{y:aR}(ak:cZ c i=some x)(aG:d.ay=c.ay.set i.toNat y)(h:iQ y e=true->iQ x e=true\/qH c e=true)(a8:qH d e=true->qH c e=true):
  (xk d e||qH d e)=true->(xk c e||qH c e)=true:=by
 simp only[pS];rintro (hw | hw)
 ·unfold xk at hw ⊢;rw[aG,qP]at hw;obtain⟨z,bl,Wv⟩:=hw;rcases pR bl with bl | rfl
  ·grind
  rcases h Wv with h1 | h1
  ·exact .inl (qP.2 ⟨x,eA (jI ak).2.2,h1⟩)
  grind
 grind
theorem DK{a b:Int}(ah:0<=a)(aw:0<=b)(h:a≠b):a.toNat≠b.toNat:=by omega
variable{f:Int}
theorem Sh{d:Int}(he:0<=e/\e<=3)(b0:0<=f/\f<=3){xs:List Int}(ap:xs.length=4):(lo xs f d).getD e.toNat 0=xs.getD e.toNat 0+(if f=e then d else 0):=by
 unfold lo;grind
theorem Ku{g:bR}{w:aR}(h:eu g w=true):w.bF.length=4/\w.bO.length=4/\w.br.length=4:=by
 obtain⟨_,_,_,_,aY,bx,bN,_⟩:=iz.1 h;grind
theorem Si{g:bR}{xs:List aB}(h:fB g xs=true){r:aB}(aH:r∈xs):0<=r.bp.bc/\r.bp.bc<=3:=by
 simp only[fB,h8,hd]at h;exact rW (g:=g) (by grind)
theorem Sj{b:Bool}:iQ (told x f b) e=(iQ x e||f==e):=by
 simp[iQ,told]
theorem ahC{n:b7}:iQ (hV x n) e=(iQ x e||n.bc==e):=by
 unfold hV;split
 ·grind
 exact Sj
theorem ahD{n:b7}:kC (hV x n) e=kC x e:=by
 unfold hV;split<;>rfl
theorem ahE{x:aR}{n:b7}{e:Int}:gl e (hV x n)=gl e x/\jP e (hV x n)=jP e x/\nJ e (hV x n)=nJ e x:=by
 unfold hV;split<;>exact⟨rfl,rfl,rfl⟩
theorem Sk{k:Nat}(h:c.ay[k]?=some x):jj e c (k+1)=jj e c k+gl e x:=by
 simp[jj,vy,h]
variable{t:bV}
theorem DL(he:0<=e)(b0:0<=f)(h:f≠e):(if 0<=e then (c.tokens.set f.toNat t)[e.toNat]? else none)=iV c e:=by
 simp_all[iV,bG,DK]
theorem ahF{n:Nat}{b:Bool}(h:f≠e):((c.news++jm n f b).any fun x=>x.bc==e)=qH c e:=by
 rw[List.any_append];have:((jm n f b).any fun x=>x.bc==e)=false:=by
  grind[hd,jm]
 rw[this,Bool.or_false];rfl
theorem Inv.aso(h:Inv e c)(he:0<=e)(b0:0<=f)(c3:f≠e)(ak:cZ c t.place=some x):Inv e (fu c f t x).1:=by
 have TO:jP e (gj x f)=jP e x:=by
  grind[jP,gj,DJ,DK]
 rcases DI c f t x with⟨_,U⟩ | ⟨_,_,h1⟩
 ·grind
 rcases h1 with⟨_,U⟩ | ⟨_,_,U⟩ | ⟨_,b5,_,U⟩ | ⟨_,_,_,U⟩
 ·rw[U];exact h.worker ak rfl (DL he b0 c3) (pI ak rfl (fun k=>.inl k) id) (.inl ⟨rfl,fun k=>TO.trans k,rfl,fun k=>⟨k,rfl⟩⟩)
 ·rw[U];exact h.worker ak rfl (DL he b0 c3) (pI ak rfl (fun k=>.inl k) id) (.inl ⟨rfl,fun k=>TO.trans k,rfl,fun k=>⟨k,rfl⟩⟩)
 ·rw[U];have bl:t.place=0:=by have:=(jI ak).1;omega
  rw[bl]at ak;refine h.worker ak rfl (DL he b0 c3) (pI ak rfl (fun k=>?_) (fun k=>(ahF c3).symm.trans k)) (.inl ⟨rfl,id,rfl,fun k=>⟨k,rfl⟩⟩);simp_all[Sj,false,Bool.or_false]
 rw[U];exact h.worker (y:=x) ak (SR (jI ak).2.2).symm (DL he b0 c3) (pI ak (SR (jI ak).2.2).symm (fun k=>.inl k) id) (.inl ⟨rfl,id,rfl,fun k=>⟨k,rfl⟩⟩)
theorem ahG{n:Int}(h:0<=n):(n+1).toNat=n.toNat+1:=by omega
theorem ahH{n:Int}:(n-1+1).toNat=n.toNat:=by grind
theorem ahI{u:bV}(h:iV c e=some t):(if 0<=e then (c.tokens.set e.toNat u)[e.toNat]? else none)=some u:=by
 obtain⟨b5,_,U⟩:=Dz h;grind
theorem Inv.over(h:Inv e c)(bU:iV c e=some t)(av:t.going=true)(b5:¬0<t.place)(ak:cZ c t.place=some x)(hp:kC x e=true)
  (aw:t.bO=false/\x.bO.getD e.toNat false=false/\t.sum+x.bF.getD e.toNat 0=0):quiet e c/\((t.dm||nJ e x)=false->∀z∈c.ay,nJ e z=false):=by
 have bl:t.place=0:=by have:=(jI ak).1;omega
 obtain⟨_,_,kf⟩:=jI ak;rw[bl]at kf;have ai:jj e c 1=gl e x:=by rw[Sk (k:=0) kf];simp[jj]
 have gg:=h.token t bU av;unfold Good at gg;rw[bl]at gg;change ((_/\jj e c 1+t.sum=_)\/0<jj e c 1+t.sum\/_) at gg;rw[ai]at gg;have BC:t.sum+gl e x=0:=aw.2.2;rcases gg with⟨eF,Bw⟩ | g | ⟨i,z,g1,g2,g3⟩ | g
 ·have key:∀z∈c.ay,kC z e=true/\(nJ e z=true->(t.dm||nJ e x)=true):=by
   intro z bl;obtain⟨i,hi⟩:=List.getElem?_of_mem bl;grind
  refine⟨⟨fun z bl=>(key z bl).1,by omega⟩,fun fS z bl=>?_⟩;grind
 ·omega
 ·simp_all[some,jP,false]
 grind
theorem Inv.asp(h:Inv e c)(cJ:cM c=true)(bU:iV c e=some t)(ak:cZ c t.place=some x):Inv e (fu c e t x).1:=by
 obtain⟨i0,i1,i2⟩:=jI ak;obtain⟨_,_,Nk,_⟩:=xd.1 (JE cJ bU);rcases DI c e t x with⟨_,U⟩ | ⟨_,hp,h1⟩
 ·grind
 have whole:∀u:bV,(u.going=true->Good e (setW (ef c e u) t.place (gj x e)) u)->Inv e (setW (ef c e u) t.place (gj x e)):=by
  intro u hu;have v':∀k,jj e (setW (ef c e u) t.place (gj x e)) k=jj e c k:=fun k=>by
   have:=zv (gl e) (gj x e) (k:=k) i2;rw[show gl e (gj x e)=gl e x from rfl,Int.sub_self,ite_self,Int.add_zero]at this;exact this
  refine⟨?_,fun c5 kP av=>?_,fun kP=>?_⟩
  ·rw[v',show (setW (ef c e u) t.place (gj x e)).ay.length=c.ay.length from gp];exact h.total
  ·rw[show iV (setW (ef c e u) t.place (gj x e)) e=some u from ahI bU]at kP;grind
  obtain⟨q1,l7⟩:=h.Ag (pI (c:=c) (d:=setW (ef c e u) t.place (gj x e)) ak rfl (fun k=>.inl k) id kP);refine⟨fun z bl=>?_,l7⟩;rcases pR bl with bl | rfl
  ·exact q1 z bl
  exact hp
 have Cc:∀(u:bV) k,jj e (setW (ef c e u) t.place (gj x e)) k=jj e c k:=fun u k=>by
  have:=zv (gl e) (gj x e) (k:=k) i2;rw[show gl e (gj x e)=gl e x from rfl,Int.sub_self,ite_self,Int.add_zero]at this;exact this
 rcases h1 with⟨av,U⟩ | ⟨av,b5,U⟩ | ⟨av,b5,aw,U⟩ | ⟨av,b5,aw,U⟩
 ·rw[U];refine whole _ fun _=>.inl ⟨fun j z bg bl=>?_,?_⟩
  ·have:=a1 bl;rw[show (setW (ef c e _) t.place (gj x e)).ay.length=c.ay.length from gp]at this;grind
  rw[Cc];change jj e c ((c.ay.length:Int)-1+1).toNat+0=iM e c;rw[show ((c.ay.length:Int)-1+1).toNat=c.ay.length by omega,Int.add_zero];exact h.total
 ·rw[U];have gg:=h.token t bU av;refine whole _ fun _=>?_
  unfold Good at gg ⊢;rw[Cc];change ((∀(i:Nat) z,t.place-1<i->_->_)/\jj e c (t.place-1+1).toNat+(t.sum+gl e x)=iM e c)\/0<jj e c (t.place-1+1).toNat+(t.sum+gl e x)\/(∃(i:Nat) (z:aR),(i:Int)<=t.place-1/\_)\/(t.bO||jP e x)=true;rw[ahG i0,Sk i2]at gg;rw[ahH];rcases gg with⟨eF,Bw⟩ | g | ⟨i,z,g1,g2,g3⟩ | g
  ·refine .inl ⟨fun j z bg bl=>?_,by omega⟩;change (c.ay.set t.place.toNat (gj x e))[j]?=some z at bl;rcases SQ bl with⟨rfl,rfl⟩ | ⟨c3,bl⟩
   ·exact⟨hp,fun k=>by change (t.dm||nJ e x)=true;rw[show nJ e x=true from k,Bool.or_true]⟩
   grind
  ·grind
  ·by_cases hi:i=t.place.toNat
   ·grind
   exact .inr (.inr (.inl ⟨i,z,by omega,ahy g2 hi,g3⟩))
  grind
 ·rw[U];obtain⟨⟨q1,l7⟩,_⟩:=h.over bU av b5 ak hp aw;have bl:t.place=0:=by omega
  rw[bl]at i2 i1;have v':∀k,((((c.ay.set 0 (told x e (t.dm||x.br.getD e.toNat false))).take k).map (gl e)).sum)=jj e c k:=fun k=>by
   have:=zv (gl e) (told x e (t.dm||x.br.getD e.toNat false)) (k:=k) i2;rw[show gl e (told x e (t.dm||x.br.getD e.toNat false))=gl e x from rfl,Int.sub_self,ite_self,Int.add_zero]at this;exact this
  refine⟨?_,fun c5 kP WC=>?_,fun _=>⟨fun z bl=>?_,l7⟩⟩
  ·refine (v' _).trans ?_;rw[show (jq (setW (ef c e ⟨false,t.place,t.sum,t.bO,t.dm⟩) 0 (told x e (t.dm||x.br.getD e.toNat false))) (c.news++jm (c.ay.length-1) e (t.dm||x.br.getD e.toNat false))).ay.length=c.ay.length from gp];exact h.total
  ·change (if 0<=e then (c.tokens.set e.toNat _)[e.toNat]? else none)=some c5 at kP;grind
  rcases pR bl with bl | rfl
  ·exact q1 z bl
  exact hp
 rw[U];refine⟨h.total,fun c5 kP WC=>?_,h.Ag⟩;change (if 0<=e then (c.tokens.set e.toNat _)[e.toNat]? else none)=some c5 at kP;grind
theorem Inv.step{d:bb}{p:c9}(h:Inv e c)(he:0<=e/\e<=3)(cJ:cM c=true)(st:Step c p d):Inv e d:=by
 cases st with
 | work x r q hk ak ai aK=>
  have ba:=lx cJ ak;obtain⟨_,_,ap⟩:=Ku ba;refine h.worker ak rfl rfl (pI ak rfl (fun k=>.inl k) id) (.inl ⟨rfl,id,rfl,fun k=>?_⟩);obtain⟨c4,b8,fs⟩:=pH.1 k;rw[aK]at b8;have gK:=b8 r (j1 ..);refine⟨pH.2 ⟨c4,fun a ah=>b8 a (hQ _ ah),fun a ah=>?_⟩,?_⟩
  ·grind[ahz]
  have aH:=Si (iz.1 ba).1 (r:=r) (by grind);grind[nJ,DJ,DK]
 | input x r t hk ak ai aK hi=>
  refine h.worker ak rfl rfl (pI ak rfl (fun k=>.inl k) id) (.inl ⟨rfl,id,rfl,fun k=>⟨?_,rfl⟩⟩);obtain⟨c4,b8,fs⟩:=pH.1 k;rw[hi]at c4;refine pH.2 ⟨fun a ah=>c4 a (hQ _ ah),fun a ah=>?_,fun a ah=>by cases ah⟩;grind
 | fe x r t hk ak ai aZ=>
  refine h.worker ak rfl rfl (pI ak rfl (fun k=>.inl k) id) (.inl ⟨rfl,id,rfl,fun k=>⟨?_,rfl⟩⟩);obtain⟨c4,b8,fs⟩:=pH.1 k;rw[ai]at fs;refine pH.2 ⟨c4,fun a ah=>?_,fun a ah=>fs a (hQ _ ah)⟩;rcases mo.1 ah with ah | ah
  ·exact b8 a ah
  grind
 | send x r t l hk ak ai aZ ap hsend=>
  obtain⟨_,_,_,e1⟩:=aim hsend;have ba:=lx cJ ak;obtain⟨yl,_,_⟩:=Ku ba;have aH:=Si (iz.1 ba).2.1 (r:=r) (by grind);have b0:=Kt (e:=e) (m:=(e8 l r).1) ap;have rm:gl e (mh (jH x t) r.bp.bc)=gl e x+(if r.bp.bc=e then 1 else 0):=Sh he aH yl;rw[e1,ahA e _ _ r _ _ _ _ l rfl]at b0;refine h.worker ak (d:=setW (dS c _ (e8 l r).1) p.a _) rfl rfl (pI ak rfl (fun k=>.inl k) id) ?_;have sy:iM e (setW (dS c (e9 c.aC p.a (jG r.key c.aC.ay)) (e8 l r).1) p.a (mh (jH x t) r.bp.bc))=iM e c+(if r.bp.bc=e then 1 else 0):=by
   rw[e1];change iM e (dS c _ _)=_;omega
  by_cases yq:r.bp.bc=e
  ·rw[bM yq]at rm sy;refine .inr (.inl ⟨?_,rm,id,sy⟩);rw[Vk];intro k;obtain⟨_,_,fs⟩:=pH.1 k;grind
  rw[bG yq]at rm sy;refine .inl ⟨by omega,id,by omega,fun k=>⟨?_,rfl⟩⟩;obtain⟨c4,b8,fs⟩:=pH.1 k;rw[ai]at fs;exact pH.2 ⟨c4,b8,fun a ah=>fs a (hQ _ ah)⟩
 | take l x hk hU ap ak bU=>
  obtain⟨_,r,q,aK,e2,e1⟩:=ahw bU;have ba:=lx cJ ak;obtain⟨yl,x',_⟩:=Ku ba;have aH:=rW (JI (zV cJ ap) bU).2;rw[e2]at aH;have b0:=Kt (e:=e) (m:=(ek l).1) ap;have rm:gl e (h6 x r)=gl e x+(if r.bp.bc=e then -1 else 0):=Sh he aH yl;rw[e1,ahB e r q l aK l.cap l.eO (l.back+1) l.fg (l.dh+1)]at b0;rw[e2];refine h.worker ak (d:=setW (dS c _ (ek l).1) p.b _) rfl rfl (pI ak rfl (fun k=>.inl k) id) ?_;have sy:iM e (setW (dS c (e9 c.aC p.a p.b) (ek l).1) p.b (h6 x r))+(if r.bp.bc=e then 1 else 0)=iM e c:=by
   rw[e1];change iM e (dS c _ _)+_=_;omega
  by_cases yq:r.bp.bc=e
  ·rw[bM yq]at rm sy;grind[jP,h6,SS]
  rw[bG yq]at rm sy;refine .inl ⟨by omega,fun k=>?_,by omega,fun k=>⟨?_,rfl⟩⟩
  ·grind[jP,h6,DJ,DK]
  obtain⟨c4,b8,fs⟩:=pH.1 k;refine pH.2 ⟨c4,fun a ah=>?_,fs⟩;rcases mo.1 ah with ah | ah
  ·exact b8 a ah
  grind
 | E7 l hk hU ap al=>
  rcases SO l with⟨k,_⟩ | ⟨_,_,_,e1⟩
  ·grind
  have b0:=Kt (e:=e) (m:=(fX l).1) ap;have U:pD e (fX l).1=pD e l:=by rw[e1];rfl
  have ax:iM e (dS c (e9 c.aC p.a p.b) (fX l).1)=iM e c:=by omega
  refine⟨by rw[ax];exact h.total,fun t kP av=>?_,fun kP=>⟨(h.Ag kP).1,by rw[ax];exact (h.Ag kP).2⟩⟩;have gg:=h.token t kP av;unfold Good at gg ⊢;rw[ax];exact gg
 | token t x hc hk mM b5 aG bU ak Wt=>
  simp only[aq,cW]at mM;by_cases Nf:p.a=e
  ·subst Nf;exact h.asp cJ bU ak
  exact h.aso he.1 mM.1 Nf ak
 | FK k n x hk a8 aG ak=>
  obtain⟨c4,b8,fs⟩:=ahE (x:=x) (n:=n) (e:=e);refine h.worker ak rfl rfl (pI ak rfl (fun q=>?_) (fun q=>?_)) (.inl ⟨c4,fun q=>b8.trans q,rfl,fun q=>⟨ahD.trans q,fs⟩⟩)
  ·rw[ahC,pS]at q;rcases q with q | q
   ·exact .inl q
   exact .inr (qP.2 ⟨n,eA a8,q⟩)
  unfold qH at q ⊢;rw[qP]at q ⊢;obtain⟨m,hm,q⟩:=q;refine⟨m,?_,q⟩;change m∈cutAt c.news k at hm;grind[cutAt,AX,EI]
