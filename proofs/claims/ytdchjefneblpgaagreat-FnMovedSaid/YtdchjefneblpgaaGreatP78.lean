import Derived.Test.YtdchjefneblpgaaGreatP61
import Derived.Test.YtdchjefneblpgaaGreatG4
set_option linter.unusedVariables false
set_option linter.unusedSimpArgs false
namespace Go.Proofs.YtdchjefneblpgaaGreat
open Go.Sx Go.RowKit
theorem ais(w:aP)(r:aA)(hw:w.sz<=8388608):av 376 [.agg w.e,.agg r.e] [.agg (kept w r).e]:=by
 have aC:w.queue.length<=8388608:=by simp only[aP.sz]at hw;omega
 rw[z'];exact ahk ⟨xU w hw,ta aC,tc aC,dG (aA.flat r),aa⟩
theorem ait(w:aP)(r:aA)(hw:w.sz<=8388608)(aK:w.bH.length=4)(aq:w.bU.length=4)(he:0<=r.bx.bf/\r.bx.bf<=3)(ai:-1000000<=w.bH.getD r.bx.bf.toNat 0/\w.bH.getD r.bx.bf.toNat 0<=1000000):
  av 349 [.agg w.e,.agg r.e] [.agg (ho w r).e]:=by
 have k:=ais w r hw;rw[z']at k;rw[S1];obtain⟨s1,s2⟩:=zj aK he;obtain⟨gD,gf⟩:=uK aq he;have pA:(↑(w.bH.map a8).length:Int)-1=3:=by rw[bm,aK];rfl
 exact ahl ⟨k,⟨by rw[pA];omega,by rw[pA];omega⟩,fu true (by rw[pA];simp only[ap,cK];omega),rfl,dZ gD,he.1,s1,s2,⟨by omega,by omega⟩,he.1,s1,s2,he.1,gD,gf,aa⟩
theorem aiu(w:aP)(r:aA)(t:List aA)(hw:w.sz<=8388608)(h:w.cg=r::t):av 351 [.agg w.e] [.agg (gy w t).e,.agg r.e,.one (B true)]:=by
 have ak:w.cg.length<=8388608:=by simp only[aP.sz]at hw;omega
 have e:(gy w t).e=[.J 5 (w.queue.map aA.e),.J 5 ([]++((w.cg.map aA.e).drop 1).take ((w.cg.map aA.e).length-1)),.J 5 (w.b8.map aA.e),.J 4 (w.cells.map Cell.e),.J 1 (w.bH.map a8),.J 1 (w.bU.map cu),.J 1 (w.bK.map cu),.J 2 (w.b'.map cD.e)]:=by rw[sr h];rfl
 rw[e];exact ahj ⟨xU w hw,kN h,by decide,kZ h,mN h,ng,nh h,ni,q3 h ak,q4 h ak,q5 h,aa⟩
theorem aiv(w:aP)(hw:w.sz<=8388608)(h:w.cg=[]):av 351 [.agg w.e] [.agg w.e,.agg (⟨0,⟨0,0⟩,0,0⟩:aA).e,.one (B false)]:=
 ahi ⟨xU w hw,qI h,aa⟩
theorem aiw(g:b1)(w:aP)(au:g.sz<=8388608)(hw:w.sz<=8388608):av 48 [.agg g.e,.agg w.e] [.agg (fJ g w).1.e,.one (B (fJ g w).2)]:=by
 have dp:=xU w hw;have k:=xK g au;have kw:=Ee g w au hw;have py:w.cells.length<=8388608:=by simp only[aP.sz]at hw;omega
 have la:w.queue.length<=8388608:=by simp only[aP.sz]at hw;omega
 cases h1:eA g with
 | false=>
  rw[h1]at k;rw[show fJ g w=(w,false) by unfold fJ;simp[h1]];exact agS ⟨dp,k,rfl,aa⟩
 | true=>
 rw[h1]at k;cases U:eJ g w with
 | false=>
  rw[U]at kw;rw[show fJ g w=(w,false) by unfold fJ;simp[U]];exact agT ⟨dp,k,rfl,kw,rfl,aa⟩
 | true=>
 rw[U]at kw;have hu:fJ g w=match w.cg,w.queue with
  | [],r::q=>(⟨q,(eI g w.cells r).2.1,w.b8,(eI g w.cells r).1,w.bH,w.bU,(if dT g r then w.bK.set r.bx.bf.toNat true else w.bK),w.b'⟩,true)
  | _,_=>(w,false):=by unfold fJ;rw[h1,U];rfl
 cases ax:w.cg with
 | cons r q=>
  rw[show fJ g w=(w,false) by rw[hu,ax]];exact agU ⟨dp,k,rfl,kw,rfl,tf ax,aa⟩
 | nil=>
 cases aK:w.queue with
 | nil=>
  rw[show fJ g w=(w,false) by rw[hu,ax,aK]];exact agV ⟨dp,k,rfl,kw,rfl,jB ax,qI aK,aa⟩
 | cons r q=>
  have st:=Sg g w.cells r au py;have ry:=Sh g r au;obtain⟨cV,_,_,_,_,_,jT,_⟩:=jc.1 U;rw[aK,tk]at cV;have he:=q2 cV.1;obtain⟨c1,c2⟩:=uK jT he;cases aV:dT g r with
  | true=>
   rw[aV]at ry;rw[show fJ g w=(⟨q,(eI g w.cells r).2.1,w.b8,(eI g w.cells r).1,w.bH,w.bU,w.bK.set r.bx.bf.toNat true,w.b'⟩,true) by rw[hu,ax,aK];simp only[aV,gL]];have e:aP.e ⟨q,(eI g w.cells r).2.1,w.b8,(eI g w.cells r).1,w.bH,w.bU,w.bK.set r.bx.bf.toNat true,w.b'⟩=[.J 5 ([]++((w.queue.map aA.e).drop 1).take ((w.queue.map aA.e).length-1)),.J 5 ((eI g w.cells r).2.1.map aA.e),.J 5 (w.b8.map aA.e),.J 4 ((eI g w.cells r).1.map Cell.e),.J 1 (w.bH.map a8),.J 1 (w.bU.map cu),.J 1 ((w.bK.map cu).set r.bx.bf.toNat [B true]),.J 2 (w.b'.map cD.e)]:=by
    rw[sr aK];simp only[aP.e,iB];rfl
   dsimp only;rw[e];exact agW ⟨dp,k,rfl,kw,rfl,jB ax,kN aK,by decide,kZ aK,mN aK,st,ng,nh aK,ni,q3 aK la,q4 aK la,q5 aK,ry,rfl,he.1,c1,c2,aa⟩
  | false=>
   rw[aV]at ry;rw[show fJ g w=(⟨q,(eI g w.cells r).2.1,w.b8,(eI g w.cells r).1,w.bH,w.bU,w.bK,w.b'⟩,true) by rw[hu,ax,aK];simp only[aV];rfl];have e:aP.e ⟨q,(eI g w.cells r).2.1,w.b8,(eI g w.cells r).1,w.bH,w.bU,w.bK,w.b'⟩=[.J 5 ([]++((w.queue.map aA.e).drop 1).take ((w.queue.map aA.e).length-1)),.J 5 ((eI g w.cells r).2.1.map aA.e),.J 5 (w.b8.map aA.e),.J 4 ((eI g w.cells r).1.map Cell.e),.J 1 (w.bH.map a8),.J 1 (w.bU.map cu),.J 1 (w.bK.map cu),.J 2 (w.b'.map cD.e)]:=by
    rw[sr aK];rfl
   dsimp only;rw[e];exact agX ⟨dp,k,rfl,kw,rfl,jB ax,kN aK,by decide,kZ aK,mN aK,st,ng,nh aK,ni,q3 aK la,q4 aK la,q5 aK,ry,rfl,aa⟩
theorem aix(g:b1)(w:aP)(au:g.sz<=8388608)(hw:w.sz<=8388608):av 348 [.agg g.e,.agg w.e] [.agg (eB g w).1.e,.one (B (eB g w).2)]:=by
 have dp:=xU w hw;have k:=xK g au;have kw:=Ee g w au hw;have aC:w.queue.length<=8388608:=by simp only[aP.sz]at hw;omega
 have iR:w.b8.length<=8388608:=by simp only[aP.sz]at hw;omega
 cases h1:eA g with
 | false=>
  rw[h1]at k;rw[show eB g w=(w,false) by unfold eB;simp[h1]];exact ahm ⟨dp,k,rfl,aa⟩
 | true=>
 rw[h1]at k;cases U:eJ g w with
 | false=>
  rw[U]at kw;rw[show eB g w=(w,false) by unfold eB;simp[U]];exact ahn ⟨dp,k,rfl,kw,rfl,aa⟩
 | true=>
 rw[U]at kw;have hu:eB g w=match w.cg,w.queue,w.b8 with
  | [],[],r::t=>(⟨[r],[],t,w.cells,w.bH,w.bU,w.bK,w.b'⟩,true)
  | _,_,_=>(w,false):=by unfold eB;rw[h1,U];rfl
 cases ax:w.cg with
 | cons r q=>
  rw[show eB g w=(w,false) by rw[hu,ax]];exact aho ⟨dp,k,rfl,kw,rfl,tf ax,aa⟩
 | nil=>
 cases aK:w.queue with
 | cons r q=>
  rw[show eB g w=(w,false) by rw[hu,ax,aK]];exact ahp ⟨dp,k,rfl,kw,rfl,jB ax,tf aK,aa⟩
 | nil=>
 cases aV:w.b8 with
 | nil=>
  rw[show eB g w=(w,false) by rw[hu,ax,aK,aV]];exact ahq ⟨dp,k,rfl,kw,rfl,jB ax,jB aK,qI aV,aa⟩
 | cons r t=>
  rw[show eB g w=(⟨[r],[],t,w.cells,w.bH,w.bU,w.bK,w.b'⟩,true) by rw[hu,ax,aK,aV]];have e:aP.e ⟨[r],[],t,w.cells,w.bH,w.bU,w.bK,w.b'⟩=[.J 5 (w.queue.map aA.e++[r.e]),.J 5 (w.cg.map aA.e),.J 5 ([]++((w.b8.map aA.e).drop 1).take ((w.b8.map aA.e).length-1)),.J 4 (w.cells.map Cell.e),.J 1 (w.bH.map a8),.J 1 (w.bU.map cu),.J 1 (w.bK.map cu),.J 2 (w.b'.map cD.e)]:=by
   rw[sr aV,aK,ax];rfl
  dsimp only;rw[e];exact agR ⟨dp,k,rfl,kw,rfl,jB ax,jB aK,kN aV,by decide,kZ aV,mN aV,ta aC,tc aC,dG (aA.flat r),ng,nh aV,ni,q3 aV iR,q4 aV iR,q5 aV,aa⟩
end Go.Proofs.YtdchjefneblpgaaGreat
namespace Go.Proofs.YtdchjefneblpgaaGreat
open Go.Sx Go.RowKit
inductive Step (c:bb) (p:df):bb->Prop
 | work (x:aP) (r:aA) (q:List aA) (hk:p.kind=1) (ag:c4 c p.a=some x) (ai:x.cg=[]) (aC:x.queue=r::q):
   Step c p (setW c p.a ⟨q,(eI c.aF x.cells r).2.1,x.b8,(eI c.aF x.cells r).1,x.bH,x.bU,(if dT c.aF r then x.bK.set r.bx.bf.toNat true else x.bK),x.b'⟩)
 | input (x:aP) (r:aA) (t:List aA) (hk:p.kind=2) (ag:c4 c p.a=some x) (ai:x.cg=[]) (aC:x.queue=[]) (hi:x.b8=r::t):
   Step c p (setW c p.a ⟨[r],[],t,x.cells,x.bH,x.bU,x.bK,x.b'⟩)
 | fh (x:aP) (r:aA) (t:List aA) (hk:p.kind=3) (ag:c4 c p.a=some x) (ai:x.cg=r::t) (aX:ic r.key c.aF.ay=p.a):
   Step c p (setW c p.a (kept (gy x t) r))
 | send (x:aP) (r:aA) (t:List aA) (l:bt) (hk:p.kind=3) (ag:c4 c p.a=some x) (ai:x.cg=r::t) (aX:ic r.key c.aF.ay≠p.a)
   (ak:fO c (eE c.aF p.a (ic r.key c.aF.ay))=some l) (h:(dR l r).2=true):
   Step c p (setW (dB c (eE c.aF p.a (ic r.key c.aF.ay)) (dR l r).1) p.a (kx (gy x t) r.bx.bf))
 | take (l:bt) (x:aP) (hk:p.kind=4) (fc:p.a≠p.b) (ak:fO c (eE c.aF p.a p.b)=some l) (ag:c4 c p.b=some x) (h:(dt l).2.2=true):
   Step c p (setW (dB c (eE c.aF p.a p.b) (dt l).1) p.b (ho x (dt l).2.1))
 | Fv (l:bt) (hk:p.kind=5) (fc:p.a≠p.b) (ak:fO c (eE c.aF p.a p.b)=some l) (h:(eY l).2=true):
   Step c p (dB c (eE c.aF p.a p.b) (eY l).1)
 | token (t:b2) (x gZ:aP) (hk:p.kind=6) (he:ap p.a 0 3=true) (bJ:c4 c 0=some gZ) (aE:i' gZ p.a=false) (bR:je c p.a=some t) (ag:c4 c t.place=some x) (h:(fD c p.a t x).2=true):
   Step c p (fD c p.a t x).1
 | Ge (k:Nat) (n:cb) (x:aP) (hk:p.kind=7) (aT:c.news[k]?=some n) (aE:n.dest=p.a) (ag:c4 c p.a=some x):
   Step c p (jF (setW c p.a (h4 x n)) (cutAt c.news k))
theorem S4(g:b1)(w:aP):((fJ g w).2=false/\(fJ g w).1=w)\/
  ((fJ g w).2=true/\∃r q,w.cg=[]/\w.queue=r::q/\(fJ g w).1=⟨q,(eI g w.cells r).2.1,w.b8,(eI g w.cells r).1,w.bH,w.bU,(if dT g r then w.bK.set r.bx.bf.toNat true else w.bK),w.b'⟩):=by
 unfold fJ;split
 ·split
  ·rename_i r q ai aC;exact .inr ⟨rfl,r,q,ai,aC,rfl⟩
  exact .inl ⟨rfl,rfl⟩
 exact .inl ⟨rfl,rfl⟩
theorem S5(g:b1)(w:aP):((eB g w).2=false/\(eB g w).1=w)\/
  ((eB g w).2=true/\∃r t,w.cg=[]/\w.queue=[]/\w.b8=r::t/\(eB g w).1=⟨[r],[],t,w.cells,w.bH,w.bU,w.bK,w.b'⟩):=by
 unfold eB;split
 ·split
  ·rename_i r t ai aC hi;exact .inr ⟨rfl,r,t,ai,aC,hi,rfl⟩
  exact .inl ⟨rfl,rfl⟩
 exact .inl ⟨rfl,rfl⟩
theorem aiy{l:bt}{r:aA}(h:(dR l r).2=true):ie l=true/\l.eo≠0/\l.eQ<1000000000/\(dR l r).1=⟨l.cap,l.queue++[r],l.eo-1,l.back,l.eQ+1,l.c5⟩:=by
 unfold dR at h ⊢;split
 ·rename_i ah;simp only[cq,bne_iff_ne,gM,cK]at ah;exact⟨ah.1.1.1,ah.1.2,ah.2,rfl⟩
 rename_i ah;rw[bg ah]at h;cases h
theorem aiz{l:bt}(h:(dt l).2.2=true):ie l=true/\∃r q,l.queue=r::q/\(dt l).2.1=r/\(dt l).1=⟨l.cap,q,l.eo,l.back+1,l.eQ,l.c5+1⟩:=by
 unfold dt at h ⊢;split
 ·rename_i ah;rw[br ah]at h;refine⟨ah,?_⟩;cases aC:l.queue with
  | nil=>rw[aC]at h;cases h
  | cons r q=>exact⟨r,q,rfl,rfl,rfl⟩
 rename_i ah;rw[bg ah]at h;cases h
theorem S6(l:bt):((eY l).2=false/\(eY l).1=l)\/((eY l).2=true/\ie l=true/\l.back≠0/\(eY l).1=⟨l.cap,l.queue,l.eo+1,l.back-1,l.eQ,l.c5⟩):=by
 unfold eY;split
 ·rename_i ah;simp only[cq,bne_iff_ne,gM]at ah;exact .inr ⟨rfl,ah.1,ah.2,rfl⟩
 exact .inl ⟨rfl,rfl⟩
theorem Eg (c : bb) (e : Int) (t : b2) (x : aP) : ((fD c e t x).2 = false /\ (fD c e t x).1 = c) \/ ((fD c e t x).2 = true /\ kX x e = true /\
    ((t.going = false /\ (fD c e t x).1 = setW (er c e ⟨true, (c.ay.length : Int) - 1, 0, false, x.bK.getD e.toNat false⟩) t.place (gz x e)) \/
     (t.going = true /\ 0 < t.place /\ (fD c e t x).1 = setW (er c e ⟨true, t.place - 1, t.sum + x.bH.getD e.toNat 0, t.bU || x.bU.getD e.toNat false, t.dT || x.bK.getD e.toNat false⟩) t.place (gz x e)) \/
     (t.going = true /\ ¬ 0 < t.place /\ (t.bU = false /\ x.bU.getD e.toNat false = false /\ t.sum + x.bH.getD e.toNat 0 = 0) /\
       (fD c e t x).1 = jF (setW (er c e ⟨false, t.place, t.sum, t.bU, t.dT⟩) 0 (told x e (t.dT || x.bK.getD e.toNat false))) (c.news ++ jb (c.ay.length - 1) e (t.dT || x.bK.getD e.toNat false))) \/
     (t.going = true /\ ¬ 0 < t.place /\ ¬ (t.bU = false /\ x.bU.getD e.toNat false = false /\ t.sum + x.bH.getD e.toNat 0 = 0) /\ (fD c e t x).1 = er c e ⟨false, t.place, t.sum, t.bU, t.dT⟩))) := by
  unfold fD;split
  case isFalse => exact .inl ⟨rfl, rfl⟩
  rename_i hp;cases au : t.going with
  | false => exact .inr ⟨rfl, hp, .inl ⟨rfl, rfl⟩⟩
  | true =>
    rw [bg (by simp)];split
    · rename_i bJ;split
      · exact .inr ⟨rfl, hp, .inr (.inl ⟨rfl, bJ, rfl⟩)⟩
      exact .inl ⟨rfl, rfl⟩
    rename_i bJ;split
    · rename_i ah;simp only [cq, g', dY] at ah;exact .inr ⟨rfl, hp, .inr (.inr (.inl ⟨rfl, bJ, ⟨ah.1.1, ah.1.2, ah.2⟩, rfl⟩))⟩
    rename_i ah;refine .inr ⟨rfl, hp, .inr (.inr (.inr ⟨rfl, bJ, fun aT => ah ?_, rfl⟩))⟩;simp only [cq, g', dY];exact ⟨⟨aT.1, aT.2.1⟩, aT.2.2⟩
theorem S7(c:bb)(p:df):((eF c p).2=false/\(eF c p).1=c)\/(cL c=true/\(eF c p).2=true/\Step c p (eF c p).1):=by
 unfold eF;split
 ·rename_i hk;unfold lS;split
  case isFalse=>exact .inl ⟨rfl,rfl⟩
  rename_i cG;cases ag:c4 c p.a with
  | none=>exact .inl ⟨rfl,rfl⟩
  | some x=>
   rcases S4 c.aF x with⟨h1,U⟩ | ⟨h1,r,q,ai,aC,U⟩
   ·exact .inl ⟨h1,by dsimp only;rw[U];exact tj ag⟩
   refine .inr ⟨cG,h1,?_⟩;dsimp only;rw[U];exact .work x r q hk ag ai aC
 split
 ·rename_i hk;unfold gW;split
  case isFalse=>exact .inl ⟨rfl,rfl⟩
  rename_i cG;cases ag:c4 c p.a with
  | none=>exact .inl ⟨rfl,rfl⟩
  | some x=>
   rcases S5 c.aF x with⟨h1,U⟩ | ⟨h1,r,t,ai,aC,hi,U⟩
   ·exact .inl ⟨h1,by dsimp only;rw[U];exact tj ag⟩
   refine .inr ⟨cG,h1,?_⟩;dsimp only;rw[U];exact .input x r t hk ag ai aC hi
 split
 ·rename_i hk;unfold gl;split
  case isFalse=>exact .inl ⟨rfl,rfl⟩
  rename_i cG;cases ag:c4 c p.a with
  | none=>exact .inl ⟨rfl,rfl⟩
  | some x=>
   dsimp only;cases ai:x.cg with
   | nil=>exact .inl ⟨rfl,rfl⟩
   | cons r t=>
    dsimp only;unfold sk;split
    ·rename_i aX;exact .inr ⟨cG,rfl,.fh x r t hk ag ai aX⟩
    rename_i aX;cases ak:fO c (eE c.aF p.a (ic r.key c.aF.ay)) with
    | none=>exact .inl ⟨rfl,rfl⟩
    | some l=>
     dsimp only;split
     ·rename_i h;exact .inr ⟨cG,rfl,.send x r t l hk ag ai aX ak h⟩
     exact .inl ⟨rfl,rfl⟩
 split
 ·rename_i hk;unfold gm;split
  case isFalse=>exact .inl ⟨rfl,rfl⟩
  rename_i ah;simp only[cq,bne_iff_ne,gM]at ah;cases ak:fO c (eE c.aF p.a p.b) with
  | none=>exact .inl ⟨rfl,rfl⟩
  | some l=>
   cases ag:c4 c p.b with
   | none=>exact .inl ⟨rfl,rfl⟩
   | some x=>
    dsimp only;split
    ·rename_i h;exact .inr ⟨ah.1,rfl,.take l x hk ah.2 ak ag h⟩
    exact .inl ⟨rfl,rfl⟩
 split
 ·rename_i hk;unfold gJ;split
  case isFalse=>exact .inl ⟨rfl,rfl⟩
  rename_i ah;simp only[cq,bne_iff_ne,gM]at ah;cases ak:fO c (eE c.aF p.a p.b) with
  | none=>exact .inl ⟨rfl,rfl⟩
  | some l=>
   rcases S6 l with⟨h1,U⟩ | ⟨h1,_⟩
   ·exact .inl ⟨h1,by dsimp only;rw[U];exact ab8 ak⟩
   exact .inr ⟨ah.1,h1,.Fv l hk ah.2 ak h1⟩
 split
 ·rename_i hk;unfold kY;split
  case isFalse=>exact .inl ⟨rfl,rfl⟩
  rename_i ah;simp only[cq]at ah;cases bJ:c4 c 0 with
  | none=>exact .inl ⟨rfl,rfl⟩
  | some gZ=>
   cases bR:je c p.a with
   | none=>exact .inl ⟨rfl,rfl⟩
   | some t=>
    dsimp only;cases aE:i' gZ p.a with
    | true=>exact .inl ⟨rfl,rfl⟩
    | false=>
     rw[bg (by simp)];cases ag:c4 c t.place with
     | none=>exact .inl ⟨rfl,rfl⟩
     | some x=>
      dsimp only;rcases Eg c p.a t x with h1 | ⟨h1,_⟩
      ·exact .inl h1
      exact .inr ⟨ah.1,h1,.token t x gZ hk ah.2 bJ aE bR ag h1⟩
 split
 ·rename_i hk;unfold lT;cases bY:c.news.findIdx? (fun n=>n.dest==p.a) with
  | none=>exact .inl ⟨rfl,rfl⟩
  | some k=>
   dsimp only;split
   case isFalse=>exact .inl ⟨rfl,rfl⟩
   rename_i cG;cases aT:c.news[k]? with
   | none=>exact .inl ⟨rfl,rfl⟩
   | some n=>
    cases ag:c4 c p.a with
    | none=>exact .inl ⟨rfl,rfl⟩
    | some x=>
     dsimp only;have aE:n.dest=p.a:=by
      have:=x8.1 bY;obtain⟨ak,hp,_⟩:=this;rw[gp ak]at aT;rw[eL aT]at hp;simpa using hp
     exact .inr ⟨cG,rfl,.Ge k n x hk aT aE ag⟩
 exact .inl ⟨rfl,rfl⟩
end Go.Proofs.YtdchjefneblpgaaGreat
namespace Go.Proofs.YtdchjefneblpgaaGreat
open Go.Sx Go.RowKit Go.Sort
theorem aiA{xs ys:List aA}(h:xs.Perm ys):kh (ltOf hj) xs=kh (ltOf hj) ys:=by
 obtain⟨h1,U⟩:=Kn Ue xs [] List.Pairwise.nil;obtain⟨ax,aK⟩:=Kn Ue ys [] List.Pairwise.nil;refine List.Perm.eq_of_pairwise (le:=fun x y=>(!ltOf hj y x)=true) ?_ h1 ax ((show (kh (ltOf hj) xs).Perm xs from U).trans (h.trans (show (kh (ltOf hj) ys).Perm ys from aK).symm));intro a b _ _ aV bw;simp only[g']at aV bw;exact ar7 a b bw aV
def mm(a:aA)(w:aP):Nat:=w.queue.count a+w.cg.count a
def oh(a:aA)(l:bt):Nat:=l.queue.count a
def wa{α:Type}(f:α->Nat)(xs:List α):Nat:=(xs.map f).sum
theorem KG{α:Type}{f:α->Nat}{y:α}(x:α){xs:List α}{i:Nat}(h:xs[i]?=some y):wa f (xs.set i x)+f y=wa f xs+f x:=by
 have:=vv (sz:=f) x h;simp only[eZ,fb]at this;unfold wa;omega
theorem KH{α:Type}(f:α->List aA)(a:aA):∀xs:List α,(xs.flatMap f).count a=wa (fun x=>(f x).count a) xs
 | []=>rfl
 | x::xs=>by
  rw[List.flatMap_cons,List.count_append,KH f a xs];rfl
theorem Eh(c:bb)(a:aA):(nT c).count a=wa (mm a) c.ay+wa (oh a) c.bV:=by
 unfold nT;rw[List.count_append,KH,KH]
 congr 1
 congr 1
 funext w;simp only[lG,List.count_append,mm]
theorem KI{c:bb}{i:Int}{y:aP}(x:aP)(h:c4 c i=some y)(a:aA):(nT (setW c i x)).count a+mm a y=(nT c).count a+mm a x:=by
 rw[Eh,Eh];have:=KG (f:=mm a) x (jW h).2.2;simp only[setW];omega
theorem KJ{c:bb}{i:Int}{y:bt}(x:bt)(h:fO c i=some y)(a:aA):(nT (dB c i x)).count a+oh a y=(nT c).count a+oh a x:=by
 rw[Eh,Eh];have:=KG (f:=oh a) x (oQ h).2.2;simp only[dB];omega
theorem DM{c d:bb}(h:∀a,(nT d).count a=(nT c).count a):nU d=nU c:=aiA (List.perm_iff_count.2 h)
theorem aiB(c:bb)(w:Int):nU (gl c w).1=nU c:=by
 unfold gl;split
 case isFalse=>rfl
 cases ag:c4 c w with
 | none=>rfl
 | some x=>
  dsimp only;cases ai:x.cg with
  | nil=>rfl
  | cons r t=>
   dsimp only;unfold sk;split
   ·refine DM fun a=>?_
    have:=KI (kept (gy x t) r) ag a;have e:mm a (kept (gy x t) r)=mm a x:=by
     simp only[mm,kept,gy,ai,List.count_append,List.count_cons,List.count_nil];omega
    dsimp only;omega
   cases ak:fO c (eE c.aF w (ic r.key c.aF.ay)) with
   | none=>rfl
   | some l=>
    dsimp only;split
    ·rename_i hsend;refine DM fun a=>?_
     have h1:=KJ (dR l r).1 ak a;have U:=KI (c:=dB c (eE c.aF w (ic r.key c.aF.ay)) (dR l r).1) (kx (gy x t) r.bx.bf) (by rw[vu];exact ag) a;have e1:oh a (dR l r).1=oh a l+[r].count a:=by
      unfold dR at hsend ⊢;split
      ·simp only[oh,List.count_append]
      rename_i aT;rw[bg aT]at hsend;cases hsend
     have e2:mm a (kx (gy x t) r.bx.bf)+[r].count a=mm a x:=by
      simp only[mm,kx,gy,ai,List.count_cons,List.count_nil];omega
     dsimp only;omega
    rfl
theorem aiC(c:bb)(a b:Int):nU (gm c a b).1=nU c:=by
 unfold gm;split
 case isFalse=>rfl
 cases ak:fO c (eE c.aF a b) with
 | none=>rfl
 | some l=>
  cases ag:c4 c b with
  | none=>rfl
  | some x=>
   dsimp only;split
   ·rename_i bR;refine DM fun q=>?_
    have h1:=KJ (dt l).1 ak q;have U:=KI (c:=dB c (eE c.aF a b) (dt l).1) (ho x (dt l).2.1) (by rw[vu];exact ag) q;have e1:oh q (dt l).1+[(dt l).2.1].count q=oh q l:=by
     unfold dt at bR ⊢;split
     ·rename_i hk;rw[br hk]at bR;cases aC:l.queue with
      | nil=>rw[aC]at bR;cases bR
      | cons r di=>simp only[oh,aC,List.count_cons,List.count_nil];omega
     rename_i hk;rw[bg hk]at bR;cases bR
    have e2:mm q (ho x (dt l).2.1)=mm q x+[(dt l).2.1].count q:=by
     simp only[mm,ho,List.count_append];omega
    dsimp only;omega
   rfl
theorem aiD(c:bb)(a b:Int):nU (gJ c a b).1=nU c:=by
 unfold gJ;split
 case isFalse=>rfl
 cases ak:fO c (eE c.aF a b) with
 | none=>rfl
 | some l=>
  dsimp only;refine DM fun q=>?_
  have h1:=KJ (eY l).1 ak q;have e1:oh q (eY l).1=oh q l:=by
   unfold eY;split<;>rfl
  omega
end Go.Proofs.YtdchjefneblpgaaGreat
namespace Go.Proofs.YtdchjefneblpgaaGreat
open Go.Sx Go.RowKit
def gB(e:Int)(x:aP):Int:=x.bH.getD e.toNat 0
def j5(e:Int)(x:aP):Bool:=x.bU.getD e.toNat false
def ml(e:Int)(x:aP):Bool:=x.bK.getD e.toNat false
def jC(e:Int)(c:bb)(k:Nat):Int:=((c.ay.take k).map (gB e)).sum
def iV(e:Int)(c:bb):Nat:=wa (p5 e) c.bV
def quiet(e:Int)(c:bb):Prop:=(∀x∈c.ay,kX x e=true)/\iV e c=0
def Good(e:Int)(c:bb)(t:b2):Prop:=
 ((∀(i:Nat) x,t.place<i->c.ay[i]?=some x->kX x e=true/\(ml e x=true->t.dT=true))/\jC e c (t.place+1).toNat+t.sum=iV e c)\/
 0<jC e c (t.place+1).toNat+t.sum\/(∃(i:Nat) (x:aP),(i:Int)<=t.place/\c.ay[i]?=some x/\j5 e x=true)\/t.bU=true
structure Inv (e:Int) (c:bb):Prop where
 total:jC e c c.ay.length=iV e c
 token:∀t,je c e=some t->t.going=true->Good e c t
 AU:(x1 c e||ra c e)=true->quiet e c
theorem Aa{α:Type}(f:α->Int){y:α}(x:α):∀{xs:List α} {i k:Nat},xs[i]?=some y->(((xs.set i x).take k).map f).sum=((xs.take k).map f).sum+(if i<k then f x-f y else 0)
 | [],_,_,h=>by simp at h
 | a::xs,0,0,h=>by simp
 | a::xs,0,k+1,h=>by
  obtain rfl:a=y:=by simpa using h
  simp only[List.set_cons_zero,List.take_succ_cons,l2,uo];rw[br (by omega)];omega
 | a::xs,i+1,0,h=>by simp
 | a::xs,i+1,k+1,h=>by
  have dE:=Aa f x (xs:=xs) (i:=i) (k:=k) (by simpa using h);simp only[List.set_cons_succ,List.take_succ_cons,l2,uo,dE];by_cases hk:i<k
  ·rw[br hk,br (by omega)];omega
  rw[bg hk,bg (by omega)];omega
variable{i j:Nat}
theorem KK{α:Type}{xs:List α}{y z:α}(h:(xs.set i y)[j]?=some z):(j=i/\z=y)\/(j≠i/\xs[j]?=some z):=by
 rw[jK]at h;split at h
 ·rename_i qA;split at h
  ·exact .inl ⟨qA.symm,(eL h).symm⟩
  cases h
 exact .inr ⟨fun q=>‹¬i=j› q.symm,h⟩
theorem KL{α:Type}{xs:List α}{x y:α}(h:xs[i]?=some x):(xs.set i y)[i]?=some y:=by
 rw[jK,br rfl,br (a6 h)]
theorem KM{α:Type}{xs:List α}{y z:α}(h:xs[j]?=some z)(a':j≠i):(xs.set i y)[j]?=some z:=by
 rw[jK,bg (fun q=>a' q.symm),h]
theorem S8{α:Type}{xs:List α}{x:α}(h:xs[i]?=some x):xs.set i x=xs:=by
 have ak:=a6 h;rw[gp ak]at h;rw[<-eL h];exact List.set_getElem_self ak
variable{e:Int}{c:bb}{x:aP}
theorem Inv.worker{i:Int}{d:bb}{y:aP}(h:Inv e c)(ag:c4 c i=some x)(hw:d.ay=c.ay.set i.toNat y)(bR:je d e=je c e)
  (X7:(x1 d e||ra d e)=true->(x1 c e||ra c e)=true)
  (ah:(gB e y=gB e x/\(j5 e x=true->j5 e y=true)/\iV e d=iV e c/\(kX x e=true->kX y e=true/\ml e y=ml e x))\/
   (kX x e=false/\gB e y=gB e x+1/\(j5 e x=true->j5 e y=true)/\iV e d=iV e c+1)\/
   (iV e c=iV e d+1/\gB e y=gB e x-1/\j5 e y=true)):Inv e d:=by
 obtain⟨i0,i1,i2⟩:=jW ag;have hlen:d.ay.length=c.ay.length:=by rw[hw,fb]
 have wP:∀k,jC e d k=jC e c k+(if i.toNat<k then gB e y-gB e x else 0):=fun k=>by
  unfold jC;rw[hw];exact Aa (gB e) y i2
 have pF:x∈c.ay:=eX i2;refine⟨?_,fun t jq au=>?_,fun jq=>?_⟩
 ·rw[wP,hlen,br i1,h.total];rcases ah with⟨h1,_,ax,_⟩ | ⟨_,U,_,aK⟩ | ⟨h1,U,_⟩<;>omega
 ·have kL:=h.token t (bR▸jq) au;unfold Good at kL ⊢;rw[wP];have M4:(j5 e x=true->j5 e y=true)->(∃(j:Nat) (z:aP),(j:Int)<=t.place/\c.ay[j]?=some z/\j5 e z=true)->∃(j:Nat) (z:aP),(j:Int)<=t.place/\d.ay[j]?=some z/\j5 e z=true:=by
   rintro aq ⟨j,z,g1,g2,g3⟩;by_cases a':j=i.toNat
   ·subst a';rw[i2]at g2;cases g2;exact⟨_,y,g1,by rw[hw];exact KL i2,aq g3⟩
   exact⟨j,z,g1,by rw[hw];exact KM g2 a',g3⟩
  rcases ah with⟨h1,U,ax,aK⟩ | ⟨h1,U,ax,aK⟩ | ⟨h1,U,ax⟩
  ·rcases kL with⟨eM,B2⟩ | g | g | g
   ·refine .inl ⟨fun j z a' bd=>?_,?_⟩
    ·rw[hw]at bd;rcases KK bd with⟨rfl,rfl⟩ | ⟨_,bd⟩
     ·have:=eM _ x a' i2;obtain⟨cV,cA⟩:=aK this.1;exact⟨cV,fun hB=>this.2 (cA▸hB)⟩
     exact eM j z a' bd
    ·split<;>omega
   ·exact .inr (.inl (by split<;>omega))
   ·exact .inr (.inr (.inl (M4 U g)))
   exact .inr (.inr (.inr g))
  ·rcases kL with⟨eM,B2⟩ | g | g | g
   ·have hle:¬t.place<i.toNat:=fun bC=>by
     have:=(eM _ x bC i2).1;rw[h1]at this;cases this
    refine .inl ⟨fun j z a' bd=>?_,?_⟩
    ·rw[hw]at bd;rcases KK bd with⟨rfl,rfl⟩ | ⟨_,bd⟩
     ·exact absurd a' hle
     exact eM j z a' bd
    rw[br (by omega)];omega
   ·exact .inr (.inl (by split<;>omega))
   ·exact .inr (.inr (.inl (M4 ax g)))
   exact .inr (.inr (.inr g))
  by_cases hle:(i.toNat:Int)<=t.place
  ·exact .inr (.inr (.inl ⟨i.toNat,y,hle,by rw[hw];exact KL i2,ax⟩))
  rw[bg (by omega)];rcases kL with⟨_,B2⟩ | g | ⟨j,z,g1,g2,g3⟩ | g
  ·exact .inr (.inl (by omega))
  ·exact .inr (.inl (by omega))
  ·exact .inr (.inr (.inl ⟨j,z,g1,by rw[hw];exact KM g2 (by omega),g3⟩))
  exact .inr (.inr (.inr g))
 obtain⟨q1,lf⟩:=h.AU (X7 jq);have hp:=q1 x pF;rcases ah with⟨_,_,ax,aK⟩ | ⟨h1,_⟩ | ⟨h1,_⟩
 ·refine⟨fun z bd=>?_,by omega⟩;rw[hw]at bd;rcases n2 bd with bd | rfl
  ·exact q1 z bd
  exact (aK hp).1
 ·rw[hp]at h1;cases h1
 omega
theorem p':kX x e=true<->(∀r∈x.b8,e<r.bx.bf)/\(∀r∈x.queue,r.bx.bf≠e)/\∀r∈x.cg,r.bx.bf≠e:=by
 simp only[kX,AH,Sn,p4,cq,g',hr,cK,dY];rw[show ∀a b:Nat,a+b=0<->a=0/\b=0 from fun a b=>by omega,List.length_eq_zero_iff,List.length_eq_zero_iff,List.filter_eq_nil_iff,List.filter_eq_nil_iff];simp only[dY,Int.not_le]
variable{g:b1}
theorem aiE{cs:List Cell}{r:aA}:∀q∈(eI g cs r).2.1,q.bx.bf=r.bx.bf:=by
 intro q aC;unfold eI at aC;split at aC
 ·rename_i n _;unfold e8 at aC;have ai:∀s:gr,s.bf=r.bx.bf->∀k v,q∈jY n s k v->q.bx.bf=r.bx.bf:=by
   intro s Cl k v hm;simp only[jY,k2]at hm;obtain⟨o,_,rfl⟩:=hm;exact Cl
  have aT:(gV r.bx).1.bf=r.bx.bf:=by
   unfold gV;split<;>rfl
  grind
 cases aC
theorem Ab{α:Type}{xs:List α}{a d:α}(h:i≠j):(xs.set i a).getD j d=xs.getD j d:=by
 simp only[ik,jK,bg h]
theorem KN{α:Type}{xs:List α}{a d:α}(h:i<xs.length):(xs.set i a).getD i d=a:=by
 simp[ik,h]
theorem KO{i e:Int}{l m:bt}(h:fO c i=some l):iV e (dB c i m)+p5 e l=iV e c+p5 e m:=by
 unfold iV;exact KG m (oQ h).2.2
theorem aiF(e cap:Int)(q:List aA)(r:aA)(a b s g:Int)(l:bt)(ak:l.queue=q):p5 e ⟨cap,q++[r],a,b,s,g⟩=p5 e l+(if r.bx.bf=e then 1 else 0):=by
 simp only[p5,p4,List.filter_append,hs,ak,List.filter_cons,List.filter_nil,dY];split<;>rfl
theorem aiG(e:Int)(r:aA)(q:List aA)(l:bt)(ak:l.queue=r::q)(cap a b s g:Int):p5 e l=p5 e ⟨cap,q,a,b,s,g⟩+(if r.bx.bf=e then 1 else 0):=by
 simp only[p5,p4,ak,List.filter_cons,dY];split<;>simp
theorem qa{c d:bb}{i:Int}{y:aP}(ag:c4 c i=some x)(aE:d.ay=c.ay.set i.toNat y)(h:i' y e=true->i' x e=true\/ra c e=true)(aT:ra d e=true->ra c e=true):
  (x1 d e||ra d e)=true->(x1 c e||ra c e)=true:=by
 simp only[n3];rintro (hw | hw)
 ·unfold x1 at hw ⊢;rw[aE,qk]at hw;obtain⟨z,bd,Nh⟩:=hw;rcases n2 bd with bd | rfl
  ·exact .inl (qk.2 ⟨z,bd,Nh⟩)
  rcases h Nh with h1 | h1
  ·exact .inl (qk.2 ⟨x,eX (jW ag).2.2,h1⟩)
  exact .inr h1
 exact .inr (aT hw)
theorem Ac{a b:Int}(aj:0<=a)(aq:0<=b)(h:a≠b):a.toNat≠b.toNat:=by omega
variable{f:Int}
theorem S9{d:Int}(he:0<=e/\e<=3)(bY:0<=f/\f<=3){xs:List Int}(ak:xs.length=4):(lO xs f d).getD e.toNat 0=xs.getD e.toNat 0+(if f=e then d else 0):=by
 unfold lO;by_cases h:f=e
 ·subst h;rw[KN (by omega),br rfl]
 rw[Ab (Ac bY.1 he.1 h),bg h];omega
theorem KP{w:aP}(h:eJ g w=true):w.bH.length=4/\w.bU.length=4/\w.bK.length=4:=by
 obtain⟨_,_,_,_,aV,bw,bX,_⟩:=jc.1 h;exact⟨aV,bw,bX⟩
theorem S'{xs:List aA}(h:fI g xs=true){r:aA}(aD:r∈xs):0<=r.bx.bf/\r.bx.bf<=3:=by
 simp only[fI,g',hr]at h;exact q2 (g:=g) (by simpa using h r aD)
theorem Sz{b:Bool}:i' (told x f b) e=(i' x e||f==e):=by
 simp[i',told]
theorem aiH{n:cb}:i' (h4 x n) e=(i' x e||n.bf==e):=by
 unfold h4;split
 ·rename_i h;by_cases he:n.bf=e
  ·subst he;rw[h];rfl
  have:(n.bf==e)=false:=by simpa using he
  rw[this,Bool.or_false]
 exact Sz
theorem aiI{n:cb}:kX (h4 x n) e=kX x e:=by
 unfold h4;split<;>rfl
theorem aiJ{x:aP}{n:cb}{e:Int}:gB e (h4 x n)=gB e x/\j5 e (h4 x n)=j5 e x/\ml e (h4 x n)=ml e x:=by
 unfold h4;split<;>exact⟨rfl,rfl,rfl⟩
theorem SA{k:Nat}(h:c.ay[k]?=some x):jC e c (k+1)=jC e c k+gB e x:=by
 simp[jC,sE,h]
variable{t:b2}
theorem DN(he:0<=e)(bY:0<=f)(h:f≠e):(if 0<=e then (c.tokens.set f.toNat t)[e.toNat]? else none)=je c e:=by
 unfold je;rw[jK,bg (Ac bY he h)]
theorem aiK{n:Nat}{b:Bool}(h:f≠e):((c.news++jb n f b).any fun x=>x.bf==e)=ra c e:=by
 rw[List.any_append];have:((jb n f b).any fun x=>x.bf==e)=false:=by
  rw[hr];intro x ag;simp only[jb,k2]at ag;obtain⟨_,_,rfl⟩:=ag;simpa using h
 rw[this,Bool.or_false];rfl
theorem Inv.asm(h:Inv e c)(he:0<=e)(bY:0<=f)(cC:f≠e)(ag:c4 c t.place=some x):Inv e (fD c f t x).1:=by
 have Uq:j5 e (gz x f)=j5 e x:=by
  unfold j5 gz;exact Ab (Ac bY he cC)
 rcases Eg c f t x with⟨_,U⟩ | ⟨_,_,h1⟩
 ·rw[U];exact h
 rcases h1 with⟨_,U⟩ | ⟨_,_,U⟩ | ⟨_,bJ,_,U⟩ | ⟨_,_,_,U⟩
 ·rw[U];exact h.worker ag rfl (DN he bY cC) (qa ag rfl (fun k=>.inl k) id) (.inl ⟨rfl,fun k=>Uq.trans k,rfl,fun k=>⟨k,rfl⟩⟩)
 ·rw[U];exact h.worker ag rfl (DN he bY cC) (qa ag rfl (fun k=>.inl k) id) (.inl ⟨rfl,fun k=>Uq.trans k,rfl,fun k=>⟨k,rfl⟩⟩)
 ·rw[U];have bd:t.place=0:=by have:=(jW ag).1;omega
  rw[bd]at ag;refine h.worker ag rfl (DN he bY cC) (qa ag rfl (fun k=>?_) (fun k=>(aiK cC).symm.trans k)) (.inl ⟨rfl,id,rfl,fun k=>⟨k,rfl⟩⟩);rw[Sz]at k;have:(f==e)=false:=by simpa using cC
  rw[this,Bool.or_false]at k;exact .inl k
 rw[U];exact h.worker (y:=x) ag (S8 (jW ag).2.2).symm (DN he bY cC) (qa ag (S8 (jW ag).2.2).symm (fun k=>.inl k) id) (.inl ⟨rfl,id,rfl,fun k=>⟨k,rfl⟩⟩)
theorem aiL{n:Int}(h:0<=n):(n+1).toNat=n.toNat+1:=by omega
theorem aiM{n:Int}:(n-1+1).toNat=n.toNat:=by rw[Int.sub_add_cancel]
theorem KQ{u:b2}(h:je c e=some t):(if 0<=e then (c.tokens.set e.toNat u)[e.toNat]? else none)=some u:=by
 obtain⟨bJ,_,U⟩:=D2 h;rw[br bJ];exact KL U
theorem Inv.over(h:Inv e c)(bR:je c e=some t)(au:t.going=true)(bJ:¬0<t.place)(ag:c4 c t.place=some x)(hp:kX x e=true)
  (aq:t.bU=false/\x.bU.getD e.toNat false=false/\t.sum+x.bH.getD e.toNat 0=0):quiet e c/\((t.dT||ml e x)=false->∀z∈c.ay,ml e z=false):=by
 have bd:t.place=0:=by have:=(jW ag).1;omega
 obtain⟨_,_,ij⟩:=jW ag;rw[bd]at ij;have ai:jC e c 1=gB e x:=by rw[SA (k:=0) ij];simp[jC]
 have kL:=h.token t bR au;unfold Good at kL;rw[bd]at kL;change ((_/\jC e c 1+t.sum=_)\/0<jC e c 1+t.sum\/_) at kL;rw[ai]at kL;have M':t.sum+gB e x=0:=aq.2.2;rcases kL with⟨eM,B2⟩ | g | ⟨i,z,g1,g2,g3⟩ | g
 ·have key:∀z∈c.ay,kX z e=true/\(ml e z=true->(t.dT||ml e x)=true):=by
   intro z bd;obtain⟨i,hi⟩:=List.getElem?_of_mem bd;by_cases h1:i=0
   ·subst h1;rw[show c.ay[0]?=some x from ij]at hi;cases hi;exact⟨hp,fun k=>by rw[k,Bool.or_true]⟩
   obtain⟨cV,cA⟩:=eM i z (by omega) hi;exact⟨cV,fun k=>by rw[cA k,Bool.true_or]⟩
  refine⟨⟨fun z bd=>(key z bd).1,by omega⟩,fun hB z bd=>?_⟩;cases WY:ml e z with
  | false=>rfl
  | true=>rw[(key z bd).2 WY]at hB;cases hB
 ·omega
 ·have:i=0:=by omega
  subst this;rw[show c.ay[0]?=some x from ij]at g2;cases g2;rw[show j5 e x=false from aq.2.1]at g3;cases g3
 rw[aq.1]at g;cases g
theorem Inv.asn(h:Inv e c)(cG:cL c=true)(bR:je c e=some t)(ag:c4 c t.place=some x):Inv e (fD c e t x).1:=by
 obtain⟨i0,i1,i2⟩:=jW ag;obtain⟨_,_,NO,_⟩:=xR.1 (Jr cG bR);rcases Eg c e t x with⟨_,U⟩ | ⟨_,hp,h1⟩
 ·rw[U];exact h
 have whole:∀u:b2,(u.going=true->Good e (setW (er c e u) t.place (gz x e)) u)->Inv e (setW (er c e u) t.place (gz x e)):=by
  intro u hu;have wP:∀k,jC e (setW (er c e u) t.place (gz x e)) k=jC e c k:=fun k=>by
   have:=Aa (gB e) (gz x e) (k:=k) i2;rw[show gB e (gz x e)=gB e x from rfl,Int.sub_self,ite_self,Int.add_zero]at this;exact this
  refine⟨?_,fun dc jq au=>?_,fun jq=>?_⟩
  ·rw[wP,show (setW (er c e u) t.place (gz x e)).ay.length=c.ay.length from fb];exact h.total
  ·rw[show je (setW (er c e u) t.place (gz x e)) e=some u from KQ bR]at jq;cases jq;exact hu au
  obtain⟨q1,lf⟩:=h.AU (qa (c:=c) (d:=setW (er c e u) t.place (gz x e)) ag rfl (fun k=>.inl k) id jq);refine⟨fun z bd=>?_,lf⟩;rcases n2 bd with bd | rfl
  ·exact q1 z bd
  exact hp
 have w6:∀(u:b2) k,jC e (setW (er c e u) t.place (gz x e)) k=jC e c k:=fun u k=>by
  have:=Aa (gB e) (gz x e) (k:=k) i2;rw[show gB e (gz x e)=gB e x from rfl,Int.sub_self,ite_self,Int.add_zero]at this;exact this
 rcases h1 with⟨au,U⟩ | ⟨au,bJ,U⟩ | ⟨au,bJ,aq,U⟩ | ⟨au,bJ,aq,U⟩
 ·rw[U];refine whole _ fun _=>.inl ⟨fun j z a' bd=>?_,?_⟩
  ·have:=a6 bd;rw[show (setW (er c e _) t.place (gz x e)).ay.length=c.ay.length from fb]at this;change (c.ay.length:Int)-1<j at a';omega
  rw[w6];change jC e c ((c.ay.length:Int)-1+1).toNat+0=iV e c;rw[show ((c.ay.length:Int)-1+1).toNat=c.ay.length by omega,Int.add_zero];exact h.total
 ·rw[U];have kL:=h.token t bR au;refine whole _ fun _=>?_
  unfold Good at kL ⊢;rw[w6];change ((∀(i:Nat) z,t.place-1<i->_->_)/\jC e c (t.place-1+1).toNat+(t.sum+gB e x)=iV e c)\/0<jC e c (t.place-1+1).toNat+(t.sum+gB e x)\/(∃(i:Nat) (z:aP),(i:Int)<=t.place-1/\_)\/(t.bU||j5 e x)=true;rw[aiL i0,SA i2]at kL;rw[aiM];rcases kL with⟨eM,B2⟩ | g | ⟨i,z,g1,g2,g3⟩ | g
  ·refine .inl ⟨fun j z a' bd=>?_,by omega⟩;change (c.ay.set t.place.toNat (gz x e))[j]?=some z at bd;rcases KK bd with⟨rfl,rfl⟩ | ⟨cC,bd⟩
   ·exact⟨hp,fun k=>by change (t.dT||ml e x)=true;rw[show ml e x=true from k,Bool.or_true]⟩
   obtain⟨cV,cA⟩:=eM j z (by omega) bd;exact⟨cV,fun k=>by change (t.dT||ml e x)=true;rw[cA k,Bool.true_or]⟩
  ·exact .inr (.inl (by omega))
  ·by_cases hi:i=t.place.toNat
   ·subst hi;rw[i2]at g2;cases g2;exact .inr (.inr (.inr (by rw[g3,Bool.or_true])))
   exact .inr (.inr (.inl ⟨i,z,by omega,KM g2 hi,g3⟩))
  exact .inr (.inr (.inr (by rw[g,Bool.true_or])))
 ·rw[U];obtain⟨⟨q1,lf⟩,_⟩:=h.over bR au bJ ag hp aq;have bd:t.place=0:=by omega
  rw[bd]at i2 i1;have wP:∀k,((((c.ay.set 0 (told x e (t.dT||x.bK.getD e.toNat false))).take k).map (gB e)).sum)=jC e c k:=fun k=>by
   have:=Aa (gB e) (told x e (t.dT||x.bK.getD e.toNat false)) (k:=k) i2;rw[show gB e (told x e (t.dT||x.bK.getD e.toNat false))=gB e x from rfl,Int.sub_self,ite_self,Int.add_zero]at this;exact this
  refine⟨?_,fun dc jq Gi=>?_,fun _=>⟨fun z bd=>?_,lf⟩⟩
  ·refine (wP _).trans ?_;rw[show (jF (setW (er c e ⟨false,t.place,t.sum,t.bU,t.dT⟩) 0 (told x e (t.dT||x.bK.getD e.toNat false))) (c.news++jb (c.ay.length-1) e (t.dT||x.bK.getD e.toNat false))).ay.length=c.ay.length from fb];exact h.total
  ·change (if 0<=e then (c.tokens.set e.toNat _)[e.toNat]? else none)=some dc at jq;rw[KQ bR]at jq;cases jq;cases Gi
  rcases n2 bd with bd | rfl
  ·exact q1 z bd
  exact hp
 rw[U];refine⟨h.total,fun dc jq Gi=>?_,h.AU⟩;change (if 0<=e then (c.tokens.set e.toNat _)[e.toNat]? else none)=some dc at jq;rw[KQ bR]at jq;cases jq;cases Gi
theorem Inv.step{d:bb}{p:df}(h:Inv e c)(he:0<=e/\e<=3)(cG:cL c=true)(st:Step c p d):Inv e d:=by
 cases st with
 | work x r q hk ag ai aC=>
  have ba:=ln cG ag;obtain⟨_,_,ak⟩:=KP ba;refine h.worker ag rfl rfl (qa ag rfl (fun k=>.inl k) id) (.inl ⟨rfl,id,rfl,fun k=>?_⟩);obtain⟨cV,cA,fl⟩:=p'.1 k;rw[aC]at cA;have gF:=cA r (gN ..);refine⟨p'.2 ⟨cV,fun a aj=>cA a (ht _ aj),fun a aj=>?_⟩,?_⟩
  ·rw[aiE a aj];exact gF
  have aD:=S' (jc.1 ba).1 (r:=r) (by rw[aC];exact gN ..);unfold ml;dsimp only;split
  ·exact Ab (Ac aD.1 he.1 gF)
  rfl
 | input x r t hk ag ai aC hi=>
  refine h.worker ag rfl rfl (qa ag rfl (fun k=>.inl k) id) (.inl ⟨rfl,id,rfl,fun k=>⟨?_,rfl⟩⟩);obtain⟨cV,cA,fl⟩:=p'.1 k;rw[hi]at cV;refine p'.2 ⟨fun a aj=>cV a (ht _ aj),fun a aj=>?_,fun a aj=>by cases aj⟩;obtain rfl:a=r:=by simpa using aj
  have:=cV a (gN ..);omega
 | fh x r t hk ag ai aX=>
  refine h.worker ag rfl rfl (qa ag rfl (fun k=>.inl k) id) (.inl ⟨rfl,id,rfl,fun k=>⟨?_,rfl⟩⟩);obtain⟨cV,cA,fl⟩:=p'.1 k;rw[ai]at fl;refine p'.2 ⟨cV,fun a aj=>?_,fun a aj=>fl a (ht _ aj)⟩;rcases mW.1 aj with aj | aj
  ·exact cA a aj
  obtain rfl:a=r:=by simpa using aj
  exact fl a (gN ..)
 | send x r t l hk ag ai aX ak hsend=>
  obtain⟨_,_,_,e1⟩:=aiy hsend;have ba:=ln cG ag;obtain⟨yR,_,_⟩:=KP ba;have aD:=S' (jc.1 ba).2.1 (r:=r) (by rw[ai];exact gN ..);have bY:=KO (e:=e) (m:=(dR l r).1) ak;have rU:gB e (kx (gy x t) r.bx.bf)=gB e x+(if r.bx.bf=e then 1 else 0):=S9 he aD yR;rw[e1,aiF e _ _ r _ _ _ _ l rfl]at bY;refine h.worker ag (d:=setW (dB c _ (dR l r).1) p.a _) rfl rfl (qa ag rfl (fun k=>.inl k) id) ?_;have rN:iV e (setW (dB c (eE c.aF p.a (ic r.key c.aF.ay)) (dR l r).1) p.a (kx (gy x t) r.bx.bf))=iV e c+(if r.bx.bf=e then 1 else 0):=by
   rw[e1];change iV e (dB c _ _)=_;omega
  by_cases rT:r.bx.bf=e
  ·rw[br rT]at rU rN;refine .inr (.inl ⟨?_,rU,id,rN⟩);rw[lr];intro k;obtain⟨_,_,fl⟩:=p'.1 k;exact fl r (by rw[ai];exact gN ..) rT
  rw[bg rT]at rU rN;refine .inl ⟨by omega,id,by omega,fun k=>⟨?_,rfl⟩⟩;obtain⟨cV,cA,fl⟩:=p'.1 k;rw[ai]at fl;exact p'.2 ⟨cV,cA,fun a aj=>fl a (ht _ aj)⟩
 | take l x hk fc ak ag bR=>
  obtain⟨_,r,q,aC,e2,e1⟩:=aiz bR;have ba:=ln cG ag;obtain⟨yR,B6,_⟩:=KP ba;have aD:=q2 (D4 (xO cG ak) bR).2;rw[e2]at aD;have bY:=KO (e:=e) (m:=(dt l).1) ak;have rU:gB e (ho x r)=gB e x+(if r.bx.bf=e then -1 else 0):=S9 he aD yR;rw[e1,aiG e r q l aC l.cap l.eo (l.back+1) l.eQ (l.c5+1)]at bY;rw[e2];refine h.worker ag (d:=setW (dB c _ (dt l).1) p.b _) rfl rfl (qa ag rfl (fun k=>.inl k) id) ?_;have rN:iV e (setW (dB c (eE c.aF p.a p.b) (dt l).1) p.b (ho x r))+(if r.bx.bf=e then 1 else 0)=iV e c:=by
   rw[e1];change iV e (dB c _ _)+_=_;omega
  by_cases rT:r.bx.bf=e
  ·rw[br rT]at rU rN;refine .inr (.inr ⟨rN.symm,by omega,?_⟩);unfold j5 ho;dsimp only;rw[rT];exact KN (by omega)
  rw[bg rT]at rU rN;refine .inl ⟨by omega,fun k=>?_,by omega,fun k=>⟨?_,rfl⟩⟩
  ·unfold j5 ho;dsimp only;rw[Ab (Ac aD.1 he.1 rT)];exact k
  obtain⟨cV,cA,fl⟩:=p'.1 k;refine p'.2 ⟨cV,fun a aj=>?_,fl⟩;rcases mW.1 aj with aj | aj
  ·exact cA a aj
  obtain rfl:a=r:=by simpa using aj
  exact rT
 | Fv l hk fc ak ah=>
  rcases S6 l with⟨k,_⟩ | ⟨_,_,_,e1⟩
  ·rw[ah]at k;cases k
  have bY:=KO (e:=e) (m:=(eY l).1) ak;have U:p5 e (eY l).1=p5 e l:=by rw[e1];rfl
  have ax:iV e (dB c (eE c.aF p.a p.b) (eY l).1)=iV e c:=by omega
  refine⟨by rw[ax];exact h.total,fun t jq au=>?_,fun jq=>⟨(h.AU jq).1,by rw[ax];exact (h.AU jq).2⟩⟩;have kL:=h.token t jq au;unfold Good at kL ⊢;rw[ax];exact kL
 | token t x gZ hk pC bJ aE bR ag W1=>
  simp only[ap,cK]at pC;by_cases NK:p.a=e
  ·subst NK;exact h.asn cG bR ag
  exact h.asm he.1 pC.1 NK ag
 | Ge k n x hk aT aE ag=>
  obtain⟨cV,cA,fl⟩:=aiJ (x:=x) (n:=n) (e:=e);refine h.worker ag rfl rfl (qa ag rfl (fun q=>?_) (fun q=>?_)) (.inl ⟨cV,fun q=>cA.trans q,rfl,fun q=>⟨aiI.trans q,fl⟩⟩)
  ·rw[aiH,n3]at q;rcases q with q | q
   ·exact .inl q
   exact .inr (qk.2 ⟨n,eX aT,q⟩)
  unfold ra at q ⊢;rw[qk]at q ⊢;obtain⟨m,hm,q⟩:=q;refine⟨m,?_,q⟩;change m∈cutAt c.news k at hm;unfold cutAt at hm;rcases mW.1 hm with hm | hm
  ·exact Fg hm
  exact Mt hm
