import Derived.Test.YtdchjefneblpgaaGreatP61
import Derived.Test.YtdchjefneblpgaaGreatG4
set_option linter.unusedVariables false
set_option linter.unusedSimpArgs false
namespace Go.Proofs.YtdchjefneblpgaaGreat
open Go.Sx Go.RowKit
theorem aiY(w:aS)(r:aG)(hw:w.sz<=8388608):av 376 [.agg w.e,.agg r.e] [.agg (kept w r).e]:=by
 have aE:w.queue.length<=8388608:=by simp only[aS.sz]at hw;omega
 rw[KN];exact aiI ⟨xd w hw,wV aE,wW aE,dL (aG.flat r),aa⟩
theorem aiZ(w:aS)(r:aG)(hw:w.sz<=8388608)(aH:w.bK.length=4)(ar:w.bS.length=4)(he:0<=r.bw.bc/\r.bw.bc<=3)(aj:-1000000<=w.bK.getD r.bw.bc.toNat 0/\w.bK.getD r.bw.bc.toNat 0<=1000000):
  av 349 [.agg w.e,.agg r.e] [.agg (iA w r).e]:=by
 have k:=aiY w r hw;rw[KN]at k;rw[ahy];obtain⟨s1,s2⟩:=Ho aH he;obtain⟨gV,gm⟩:=uv ar he;have Gj:(↑(w.bK.map a').length:Int)-1=3:=by rw[bk,aH];rfl
 exact aiJ ⟨k,⟨by rw[Gj];omega,by rw[Gj];omega⟩,fz true (by rw[Gj];simp only[ap,cU];omega),rfl,dW gV,he.1,s1,s2,⟨by omega,by omega⟩,he.1,s1,s2,he.1,gV,gm,aa⟩
theorem ai0(w:aS)(r:aG)(t:List aG)(hw:w.sz<=8388608)(h:w.cm=r::t):av 351 [.agg w.e] [.agg (j6 w t).e,.agg r.e,.one (B true)]:=by
 have al:w.cm.length<=8388608:=by simp only[aS.sz]at hw;omega
 have e:(j6 w t).e=[.J 5 (w.queue.map aG.e),.J 5 ([]++((w.cm.map aG.e).drop 1).take ((w.cm.map aG.e).length-1)),.J 5 (w.b8.map aG.e),.J 4 (w.cells.map Cell.e),.J 1 (w.bK.map a'),.J 1 (w.bS.map cv),.J 1 (w.bC.map cv),.J 2 (w.b4.map cD.e)]:=by rw[sh h];rfl
 rw[e];exact aiH ⟨xd w hw,mz h,by decide,k1 h,mM h,nd,nf h,ng,qQ h al,qR h al,qS h,aa⟩
theorem aia(w:aS)(hw:w.sz<=8388608)(h:w.cm=[]):av 351 [.agg w.e] [.agg w.e,.agg (⟨0,⟨0,0⟩,0,0⟩:aG).e,.one (B false)]:=
 aiG ⟨xd w hw,rR h,aa⟩
theorem Tj(g:bX)(w:aS)(au:g.sz<=8388608)(hw:w.sz<=8388608):av 48 [.agg g.e,.agg w.e] [.agg (eo g w).1.e,.one (B (eo g w).2)]:=by
 have dV:=xd w hw;have k:=xB g au;have kw:=DW g w au hw;have np:w.cells.length<=8388608:=by simp only[aS.sz]at hw;omega
 have lg:w.queue.length<=8388608:=by simp only[aS.sz]at hw;omega
 cases h1:eg g with
 | false=>
  rw[h1]at k;rw[show eo g w=(w,false) by unfold eo;simp[h1]];exact aiQ ⟨dV,k,rfl,aa⟩
 | true=>
 rw[h1]at k;cases U:eF g w with
 | false=>
  rw[U]at kw;rw[show eo g w=(w,false) by unfold eo;simp[U]];exact aiR ⟨dV,k,rfl,kw,rfl,aa⟩
 | true=>
 rw[U]at kw;have hu:eo g w=match w.cm,w.queue with
  | [],r::q=>(⟨q,(dC g w.cells r).2.1,w.b8,(dC g w.cells r).1,w.bK,w.bS,(if dq g r then w.bC.set r.bw.bc.toNat true else w.bC),w.b4⟩,true)
  | _,_=>(w,false):=by unfold eo;rw[h1,U];rfl
 cases aw:w.cm with
 | cons r q=>
  rw[show eo g w=(w,false) by rw[hu,aw]];exact aiS ⟨dV,k,rfl,kw,rfl,rW aw,aa⟩
 | nil=>
 cases aH:w.queue with
 | nil=>
  rw[show eo g w=(w,false) by rw[hu,aw,aH]];exact aiT ⟨dV,k,rfl,kw,rfl,iw aw,rR aH,aa⟩
 | cons r q=>
  have st:=Su g w.cells r au np;have mh:=Sv g r au;obtain⟨cT,_,_,_,_,_,jh,_⟩:=iU.1 U;rw[aH,sa]at cT;have he:=sb cT.1;obtain⟨c1,c2⟩:=uv jh he;cases aU:dq g r with
  | true=>
   rw[aU]at mh;rw[show eo g w=(⟨q,(dC g w.cells r).2.1,w.b8,(dC g w.cells r).1,w.bK,w.bS,w.bC.set r.bw.bc.toNat true,w.b4⟩,true) by rw[hu,aw,aH];simp only[aU,gy]];have e:aS.e ⟨q,(dC g w.cells r).2.1,w.b8,(dC g w.cells r).1,w.bK,w.bS,w.bC.set r.bw.bc.toNat true,w.b4⟩=[.J 5 ([]++((w.queue.map aG.e).drop 1).take ((w.queue.map aG.e).length-1)),.J 5 ((dC g w.cells r).2.1.map aG.e),.J 5 (w.b8.map aG.e),.J 4 ((dC g w.cells r).1.map Cell.e),.J 1 (w.bK.map a'),.J 1 (w.bS.map cv),.J 1 ((w.bC.map cv).set r.bw.bc.toNat [B true]),.J 2 (w.b4.map cD.e)]:=by
    rw[sh aH];simp only[aS.e,jw];rfl
   dsimp only;rw[e];exact aiU ⟨dV,k,rfl,kw,rfl,iw aw,mz aH,by decide,k1 aH,mM aH,st,nd,nf aH,ng,qQ aH lg,qR aH lg,qS aH,mh,rfl,he.1,c1,c2,aa⟩
  | false=>
   rw[aU]at mh;rw[show eo g w=(⟨q,(dC g w.cells r).2.1,w.b8,(dC g w.cells r).1,w.bK,w.bS,w.bC,w.b4⟩,true) by rw[hu,aw,aH];simp only[aU];rfl];have e:aS.e ⟨q,(dC g w.cells r).2.1,w.b8,(dC g w.cells r).1,w.bK,w.bS,w.bC,w.b4⟩=[.J 5 ([]++((w.queue.map aG.e).drop 1).take ((w.queue.map aG.e).length-1)),.J 5 ((dC g w.cells r).2.1.map aG.e),.J 5 (w.b8.map aG.e),.J 4 ((dC g w.cells r).1.map Cell.e),.J 1 (w.bK.map a'),.J 1 (w.bS.map cv),.J 1 (w.bC.map cv),.J 2 (w.b4.map cD.e)]:=by
    rw[sh aH];rfl
   dsimp only;rw[e];exact aiV ⟨dV,k,rfl,kw,rfl,iw aw,mz aH,by decide,k1 aH,mM aH,st,nd,nf aH,ng,qQ aH lg,qR aH lg,qS aH,mh,rfl,aa⟩
theorem aib(g:bX)(w:aS)(au:g.sz<=8388608)(hw:w.sz<=8388608):av 348 [.agg g.e,.agg w.e] [.agg (eC g w).1.e,.one (B (eC g w).2)]:=by
 have dV:=xd w hw;have k:=xB g au;have kw:=DW g w au hw;have aE:w.queue.length<=8388608:=by simp only[aS.sz]at hw;omega
 have jd:w.b8.length<=8388608:=by simp only[aS.sz]at hw;omega
 cases h1:eg g with
 | false=>
  rw[h1]at k;rw[show eC g w=(w,false) by unfold eC;simp[h1]];exact aiK ⟨dV,k,rfl,aa⟩
 | true=>
 rw[h1]at k;cases U:eF g w with
 | false=>
  rw[U]at kw;rw[show eC g w=(w,false) by unfold eC;simp[U]];exact aiL ⟨dV,k,rfl,kw,rfl,aa⟩
 | true=>
 rw[U]at kw;have hu:eC g w=match w.cm,w.queue,w.b8 with
  | [],[],r::t=>(⟨[r],[],t,w.cells,w.bK,w.bS,w.bC,w.b4⟩,true)
  | _,_,_=>(w,false):=by unfold eC;rw[h1,U];rfl
 cases aw:w.cm with
 | cons r q=>
  rw[show eC g w=(w,false) by rw[hu,aw]];exact aiM ⟨dV,k,rfl,kw,rfl,rW aw,aa⟩
 | nil=>
 cases aH:w.queue with
 | cons r q=>
  rw[show eC g w=(w,false) by rw[hu,aw,aH]];exact aiN ⟨dV,k,rfl,kw,rfl,iw aw,rW aH,aa⟩
 | nil=>
 cases aU:w.b8 with
 | nil=>
  rw[show eC g w=(w,false) by rw[hu,aw,aH,aU]];exact aiO ⟨dV,k,rfl,kw,rfl,iw aw,iw aH,rR aU,aa⟩
 | cons r t=>
  rw[show eC g w=(⟨[r],[],t,w.cells,w.bK,w.bS,w.bC,w.b4⟩,true) by rw[hu,aw,aH,aU]];have e:aS.e ⟨[r],[],t,w.cells,w.bK,w.bS,w.bC,w.b4⟩=[.J 5 (w.queue.map aG.e++[r.e]),.J 5 (w.cm.map aG.e),.J 5 ([]++((w.b8.map aG.e).drop 1).take ((w.b8.map aG.e).length-1)),.J 4 (w.cells.map Cell.e),.J 1 (w.bK.map a'),.J 1 (w.bS.map cv),.J 1 (w.bC.map cv),.J 2 (w.b4.map cD.e)]:=by
   rw[sh aU,aH,aw];rfl
  dsimp only;rw[e];exact aiP ⟨dV,k,rfl,kw,rfl,iw aw,iw aH,mz aU,by decide,k1 aU,mM aU,wV aE,wW aE,dL (aG.flat r),nd,nf aU,ng,qQ aU jd,qR aU jd,qS aU,aa⟩
end Go.Proofs.YtdchjefneblpgaaGreat
namespace Go.Proofs.YtdchjefneblpgaaGreat
open Go.Sx Go.RowKit
inductive Step (c:bd) (p:dd):bd->Prop
 | work (x:aS) (r:aG) (q:List aG) (hk:p.kind=1) (ag:c9 c p.a=some x) (aj:x.cm=[]) (aE:x.queue=r::q):
   Step c p (setW c p.a ⟨q,(dC c.aF x.cells r).2.1,x.b8,(dC c.aF x.cells r).1,x.bK,x.bS,(if dq c.aF r then x.bC.set r.bw.bc.toNat true else x.bC),x.b4⟩)
 | input (x:aS) (r:aG) (t:List aG) (hk:p.kind=2) (ag:c9 c p.a=some x) (aj:x.cm=[]) (aE:x.queue=[]) (hi:x.b8=r::t):
   Step c p (setW c p.a ⟨[r],[],t,x.cells,x.bK,x.bS,x.bC,x.b4⟩)
 | fo (x:aS) (r:aG) (t:List aG) (hk:p.kind=3) (ag:c9 c p.a=some x) (aj:x.cm=r::t) (aZ:j5 r.key c.aF.az=p.a):
   Step c p (setW c p.a (kept (j6 x t) r))
 | send (x:aS) (r:aG) (t:List aG) (l:bD) (hk:p.kind=3) (ag:c9 c p.a=some x) (aj:x.cm=r::t) (aZ:j5 r.key c.aF.az≠p.a)
   (al:hb c (fi c.aF p.a (j5 r.key c.aF.az))=some l) (h:(fh l r).2=true):
   Step c p (setW (eb c (fi c.aF p.a (j5 r.key c.aF.az)) (fh l r).1) p.a (mL (j6 x t) r.bw.bc))
 | take (l:bD) (x:aS) (hk:p.kind=4) (ho:p.a≠p.b) (al:hb c (fi c.aF p.a p.b)=some l) (ag:c9 c p.b=some x) (h:(eB l).2.2=true):
   Step c p (setW (eb c (fi c.aF p.a p.b) (eB l).1) p.b (iA x (eB l).2.1))
 | Fu (l:bD) (hk:p.kind=5) (ho:p.a≠p.b) (al:hb c (fi c.aF p.a p.b)=some l) (h:(gw l).2=true):
   Step c p (eb c (fi c.aF p.a p.b) (gw l).1)
 | token (t:b0) (x hg:aS) (hk:p.kind=6) (he:ap p.a 0 3=true) (bN:c9 c 0=some hg) (aD:jl hg p.a=false) (bQ:js c p.a=some t) (ag:c9 c t.place=some x) (h:(fI c p.a t x).2=true):
   Step c p (fI c p.a t x).1
 | Gb (k:Nat) (n:ca) (x:aS) (hk:p.kind=7) (aW:c.news[k]?=some n) (aD:n.dest=p.a) (ag:c9 c p.a=some x):
   Step c p (jP (setW c p.a (h5 x n)) (cutAt c.news k))
theorem SJ(g:bX)(w:aS):((eo g w).2=false/\(eo g w).1=w)\/
  ((eo g w).2=true/\∃r q,w.cm=[]/\w.queue=r::q/\(eo g w).1=⟨q,(dC g w.cells r).2.1,w.b8,(dC g w.cells r).1,w.bK,w.bS,(if dq g r then w.bC.set r.bw.bc.toNat true else w.bC),w.b4⟩):=by
 unfold eo;split
 ·split
  ·rename_i r q aj aE;exact .inr ⟨rfl,r,q,aj,aE,rfl⟩
  exact .inl ⟨rfl,rfl⟩
 exact .inl ⟨rfl,rfl⟩
theorem SK(g:bX)(w:aS):((eC g w).2=false/\(eC g w).1=w)\/
  ((eC g w).2=true/\∃r t,w.cm=[]/\w.queue=[]/\w.b8=r::t/\(eC g w).1=⟨[r],[],t,w.cells,w.bK,w.bS,w.bC,w.b4⟩):=by
 unfold eC;split
 ·split
  ·rename_i r t aj aE hi;exact .inr ⟨rfl,r,t,aj,aE,hi,rfl⟩
  exact .inl ⟨rfl,rfl⟩
 exact .inl ⟨rfl,rfl⟩
theorem aic{l:bD}{r:aG}(h:(fh l r).2=true):jm l=true/\l.e0≠0/\l.fs<1000000000/\(fh l r).1=⟨l.cap,l.queue++[r],l.e0-1,l.back,l.fs+1,l.du⟩:=by
 unfold fh at h ⊢;split
 ·rename_i ai;simp only[cx,bne_iff_ne,hZ,cU]at ai;exact⟨ai.1.1.1,ai.1.2,ai.2,rfl⟩
 rename_i ai;rw[bh ai]at h;cases h
theorem aid{l:bD}(h:(eB l).2.2=true):jm l=true/\∃r q,l.queue=r::q/\(eB l).2.1=r/\(eB l).1=⟨l.cap,q,l.e0,l.back+1,l.fs,l.du+1⟩:=by
 unfold eB at h ⊢;split
 ·rename_i ai;rw[br ai]at h;refine⟨ai,?_⟩;cases aE:l.queue with
  | nil=>rw[aE]at h;cases h
  | cons r q=>exact⟨r,q,rfl,rfl,rfl⟩
 rename_i ai;rw[bh ai]at h;cases h
theorem SL(l:bD):((gw l).2=false/\(gw l).1=l)\/((gw l).2=true/\jm l=true/\l.back≠0/\(gw l).1=⟨l.cap,l.queue,l.e0+1,l.back-1,l.fs,l.du⟩):=by
 unfold gw;split
 ·rename_i ai;simp only[cx,bne_iff_ne,hZ]at ai;exact .inr ⟨rfl,ai.1,ai.2,rfl⟩
 exact .inl ⟨rfl,rfl⟩
theorem D9 (c : bd) (e : Int) (t : b0) (x : aS) : ((fI c e t x).2 = false /\ (fI c e t x).1 = c) \/ ((fI c e t x).2 = true /\ kY x e = true /\
    ((t.going = false /\ (fI c e t x).1 = setW (ev c e ⟨true, (c.az.length : Int) - 1, 0, false, x.bC.getD e.toNat false⟩) t.place (gG x e)) \/
     (t.going = true /\ 0 < t.place /\ (fI c e t x).1 = setW (ev c e ⟨true, t.place - 1, t.sum + x.bK.getD e.toNat 0, t.bS || x.bS.getD e.toNat false, t.dq || x.bC.getD e.toNat false⟩) t.place (gG x e)) \/
     (t.going = true /\ ¬ 0 < t.place /\ (t.bS = false /\ x.bS.getD e.toNat false = false /\ t.sum + x.bK.getD e.toNat 0 = 0) /\
       (fI c e t x).1 = jP (setW (ev c e ⟨false, t.place, t.sum, t.bS, t.dq⟩) 0 (told x e (t.dq || x.bC.getD e.toNat false))) (c.news ++ jo (c.az.length - 1) e (t.dq || x.bC.getD e.toNat false))) \/
     (t.going = true /\ ¬ 0 < t.place /\ ¬ (t.bS = false /\ x.bS.getD e.toNat false = false /\ t.sum + x.bK.getD e.toNat 0 = 0) /\ (fI c e t x).1 = ev c e ⟨false, t.place, t.sum, t.bS, t.dq⟩))) := by
  unfold fI;split
  case isFalse => exact .inl ⟨rfl, rfl⟩
  rename_i hp;cases au : t.going with
  | false => exact .inr ⟨rfl, hp, .inl ⟨rfl, rfl⟩⟩
  | true =>
    rw [bh (by simp)];split
    · rename_i bN;split
      · exact .inr ⟨rfl, hp, .inr (.inl ⟨rfl, bN, rfl⟩)⟩
      exact .inl ⟨rfl, rfl⟩
    rename_i bN;split
    · rename_i ai;simp only [cx, hv, eD] at ai;exact .inr ⟨rfl, hp, .inr (.inr (.inl ⟨rfl, bN, ⟨ai.1.1, ai.1.2, ai.2⟩, rfl⟩))⟩
    rename_i ai;refine .inr ⟨rfl, hp, .inr (.inr (.inr ⟨rfl, bN, fun aW => ai ?_, rfl⟩))⟩;simp only [cx, hv, eD];exact ⟨⟨aW.1, aW.2.1⟩, aW.2.2⟩
theorem SM(c:bd)(p:dd):((eJ c p).2=false/\(eJ c p).1=c)\/(cQ c=true/\(eJ c p).2=true/\Step c p (eJ c p).1):=by
 unfold eJ;split
 ·rename_i hk;unfold fH;split
  case isFalse=>exact .inl ⟨rfl,rfl⟩
  rename_i cJ;cases ag:c9 c p.a with
  | none=>exact .inl ⟨rfl,rfl⟩
  | some x=>
   rcases SJ c.aF x with⟨h1,U⟩ | ⟨h1,r,q,aj,aE,U⟩
   ·exact .inl ⟨h1,by dsimp only;rw[U];exact td ag⟩
   refine .inr ⟨cJ,h1,?_⟩;dsimp only;rw[U];exact .work x r q hk ag aj aE
 split
 ·rename_i hk;unfold hr;split
  case isFalse=>exact .inl ⟨rfl,rfl⟩
  rename_i cJ;cases ag:c9 c p.a with
  | none=>exact .inl ⟨rfl,rfl⟩
  | some x=>
   rcases SK c.aF x with⟨h1,U⟩ | ⟨h1,r,t,aj,aE,hi,U⟩
   ·exact .inl ⟨h1,by dsimp only;rw[U];exact td ag⟩
   refine .inr ⟨cJ,h1,?_⟩;dsimp only;rw[U];exact .input x r t hk ag aj aE hi
 split
 ·rename_i hk;unfold lX;split
  case isFalse=>exact .inl ⟨rfl,rfl⟩
  rename_i cJ;cases ag:c9 c p.a with
  | none=>exact .inl ⟨rfl,rfl⟩
  | some x=>
   dsimp only;cases aj:x.cm with
   | nil=>exact .inl ⟨rfl,rfl⟩
   | cons r t=>
    dsimp only;unfold ta;split
    ·rename_i aZ;exact .inr ⟨cJ,rfl,.fo x r t hk ag aj aZ⟩
    rename_i aZ;cases al:hb c (fi c.aF p.a (j5 r.key c.aF.az)) with
    | none=>exact .inl ⟨rfl,rfl⟩
    | some l=>
     dsimp only;split
     ·rename_i h;exact .inr ⟨cJ,rfl,.send x r t l hk ag aj aZ al h⟩
     exact .inl ⟨rfl,rfl⟩
 split
 ·rename_i hk;unfold lY;split
  case isFalse=>exact .inl ⟨rfl,rfl⟩
  rename_i ai;simp only[cx,bne_iff_ne,hZ]at ai;cases al:hb c (fi c.aF p.a p.b) with
  | none=>exact .inl ⟨rfl,rfl⟩
  | some l=>
   cases ag:c9 c p.b with
   | none=>exact .inl ⟨rfl,rfl⟩
   | some x=>
    dsimp only;split
    ·rename_i h;exact .inr ⟨ai.1,rfl,.take l x hk ai.2 al ag h⟩
    exact .inl ⟨rfl,rfl⟩
 split
 ·rename_i hk;unfold kZ;split
  case isFalse=>exact .inl ⟨rfl,rfl⟩
  rename_i ai;simp only[cx,bne_iff_ne,hZ]at ai;cases al:hb c (fi c.aF p.a p.b) with
  | none=>exact .inl ⟨rfl,rfl⟩
  | some l=>
   rcases SL l with⟨h1,U⟩ | ⟨h1,_⟩
   ·exact .inl ⟨h1,by dsimp only;rw[U];exact adL al⟩
   exact .inr ⟨ai.1,h1,.Fu l hk ai.2 al h1⟩
 split
 ·rename_i hk;unfold k0;split
  case isFalse=>exact .inl ⟨rfl,rfl⟩
  rename_i ai;simp only[cx]at ai;cases bN:c9 c 0 with
  | none=>exact .inl ⟨rfl,rfl⟩
  | some hg=>
   cases bQ:js c p.a with
   | none=>exact .inl ⟨rfl,rfl⟩
   | some t=>
    dsimp only;cases aD:jl hg p.a with
    | true=>exact .inl ⟨rfl,rfl⟩
    | false=>
     rw[bh (by simp)];cases ag:c9 c t.place with
     | none=>exact .inl ⟨rfl,rfl⟩
     | some x=>
      dsimp only;rcases D9 c p.a t x with h1 | ⟨h1,_⟩
      ·exact .inl h1
      exact .inr ⟨ai.1,h1,.token t x hg hk ai.2 bN aD bQ ag h1⟩
 split
 ·rename_i hk;unfold lZ;cases bT:c.news.findIdx? (fun n=>n.dest==p.a) with
  | none=>exact .inl ⟨rfl,rfl⟩
  | some k=>
   dsimp only;split
   case isFalse=>exact .inl ⟨rfl,rfl⟩
   rename_i cJ;cases aW:c.news[k]? with
   | none=>exact .inl ⟨rfl,rfl⟩
   | some n=>
    cases ag:c9 c p.a with
    | none=>exact .inl ⟨rfl,rfl⟩
    | some x=>
     dsimp only;have aD:n.dest=p.a:=by
      have:=tZ.1 bT;obtain⟨al,hp,_⟩:=this;rw[gU al]at aW;rw[eN aW]at hp;simpa using hp
     exact .inr ⟨cJ,rfl,.Gb k n x hk aW aD ag⟩
 exact .inl ⟨rfl,rfl⟩
end Go.Proofs.YtdchjefneblpgaaGreat
namespace Go.Proofs.YtdchjefneblpgaaGreat
open Go.Sx Go.RowKit Go.Sort
def El{α:Type}(f:α->Nat)(xs:List α):Nat:=(xs.map f).sum
theorem aie{α:Type}{f:α->Nat}{y:α}(x:α){xs:List α}{i:Nat}(h:xs[i]?=some y):El f (xs.set i x)+f y=El f xs+f x:=by
 have:=vo (sz:=f) x h;simp only[fb,e5]at this;unfold El;omega
end Go.Proofs.YtdchjefneblpgaaGreat
namespace Go.Proofs.YtdchjefneblpgaaGreat
open Go.Sx Go.RowKit
def gI(e:Int)(x:aS):Int:=x.bK.getD e.toNat 0
def kd(e:Int)(x:aS):Bool:=x.bS.getD e.toNat false
def mg(e:Int)(x:aS):Bool:=x.bC.getD e.toNat false
def jK(e:Int)(c:bd)(k:Nat):Int:=((c.az.take k).map (gI e)).sum
def jg(e:Int)(c:bd):Nat:=El (pW e) c.bZ
def quiet(e:Int)(c:bd):Prop:=(∀x∈c.az,kY x e=true)/\jg e c=0
def Good(e:Int)(c:bd)(t:b0):Prop:=
 ((∀(i:Nat) x,t.place<i->c.az[i]?=some x->kY x e=true/\(mg e x=true->t.dq=true))/\jK e c (t.place+1).toNat+t.sum=jg e c)\/
 0<jK e c (t.place+1).toNat+t.sum\/(∃(i:Nat) (x:aS),(i:Int)<=t.place/\c.az[i]?=some x/\kd e x=true)\/t.bS=true
structure Inv (e:Int) (c:bd):Prop where
 total:jK e c c.az.length=jg e c
 token:∀t,js c e=some t->t.going=true->Good e c t
 AM:(xN c e||qY c e)=true->quiet e c
theorem zX{α:Type}(f:α->Int){y:α}(x:α):∀{xs:List α} {i k:Nat},xs[i]?=some y->(((xs.set i x).take k).map f).sum=((xs.take k).map f).sum+(if i<k then f x-f y else 0)
 | [],_,_,h=>by simp at h
 | a::xs,0,0,h=>by simp
 | a::xs,0,k+1,h=>by
  obtain rfl:a=y:=by simpa using h
  simp only[List.set_cons_zero,List.take_succ_cons,k4,v'];rw[br (by omega)];omega
 | a::xs,i+1,0,h=>by simp
 | a::xs,i+1,k+1,h=>by
  have dP:=zX f x (xs:=xs) (i:=i) (k:=k) (by simpa using h);simp only[List.set_cons_succ,List.take_succ_cons,k4,v',dP];by_cases hk:i<k
  ·rw[br hk,br (by omega)];omega
  rw[bh hk,bh (by omega)];omega
variable{i j:Nat}
theorem KX{α:Type}{xs:List α}{y z:α}(h:(xs.set i y)[j]?=some z):(j=i/\z=y)\/(j≠i/\xs[j]?=some z):=by
 rw[jR]at h;split at h
 ·rename_i ql;split at h
  ·exact .inl ⟨ql.symm,(eN h).symm⟩
  cases h
 exact .inr ⟨fun q=>‹¬i=j› q.symm,h⟩
theorem D'{α:Type}{xs:List α}{x y:α}(h:xs[i]?=some x):(xs.set i y)[i]?=some y:=by
 rw[jR,br rfl,br (a8 h)]
theorem KY{α:Type}{xs:List α}{y z:α}(h:xs[j]?=some z)(a6:j≠i):(xs.set i y)[j]?=some z:=by
 rw[jR,bh (fun q=>a6 q.symm),h]
theorem SN{α:Type}{xs:List α}{x:α}(h:xs[i]?=some x):xs.set i x=xs:=by
 have al:=a8 h;rw[gU al]at h;rw[<-eN h];exact List.set_getElem_self al
variable{e:Int}{c:bd}{x:aS}
theorem Inv.worker{i:Int}{d:bd}{y:aS}(h:Inv e c)(ag:c9 c i=some x)(hw:d.az=c.az.set i.toNat y)(bQ:js d e=js c e)
  (Ye:(xN d e||qY d e)=true->(xN c e||qY c e)=true)
  (ai:(gI e y=gI e x/\(kd e x=true->kd e y=true)/\jg e d=jg e c/\(kY x e=true->kY y e=true/\mg e y=mg e x))\/
   (kY x e=false/\gI e y=gI e x+1/\(kd e x=true->kd e y=true)/\jg e d=jg e c+1)\/
   (jg e c=jg e d+1/\gI e y=gI e x-1/\kd e y=true)):Inv e d:=by
 obtain⟨i0,i1,i2⟩:=j7 ag;have hlen:d.az.length=c.az.length:=by rw[hw,e5]
 have wI:∀k,jK e d k=jK e c k+(if i.toNat<k then gI e y-gI e x else 0):=fun k=>by
  unfold jK;rw[hw];exact zX (gI e) y i2
 have pq:x∈c.az:=eA i2;refine⟨?_,fun t jC au=>?_,fun jC=>?_⟩
 ·rw[wI,hlen,br i1,h.total];rcases ai with⟨h1,_,aw,_⟩ | ⟨_,U,_,aH⟩ | ⟨h1,U,_⟩<;>omega
 ·have gC:=h.token t (bQ▸jC) au;unfold Good at gC ⊢;rw[wI];have M':(kd e x=true->kd e y=true)->(∃(j:Nat) (z:aS),(j:Int)<=t.place/\c.az[j]?=some z/\kd e z=true)->∃(j:Nat) (z:aS),(j:Int)<=t.place/\d.az[j]?=some z/\kd e z=true:=by
   rintro ar ⟨j,z,g1,g2,g3⟩;by_cases a6:j=i.toNat
   ·subst a6;rw[i2]at g2;cases g2;exact⟨_,y,g1,by rw[hw];exact D' i2,ar g3⟩
   exact⟨j,z,g1,by rw[hw];exact KY g2 a6,g3⟩
  rcases ai with⟨h1,U,aw,aH⟩ | ⟨h1,U,aw,aH⟩ | ⟨h1,U,aw⟩
  ·rcases gC with⟨et,B3⟩ | g | g | g
   ·refine .inl ⟨fun j z a6 bf=>?_,?_⟩
    ·rw[hw]at bf;rcases KX bf with⟨rfl,rfl⟩ | ⟨_,bf⟩
     ·have:=et _ x a6 i2;obtain⟨cT,b5⟩:=aH this.1;exact⟨cT,fun fE=>this.2 (b5▸fE)⟩
     exact et j z a6 bf
    ·split<;>omega
   ·exact .inr (.inl (by split<;>omega))
   ·exact .inr (.inr (.inl (M' U g)))
   exact .inr (.inr (.inr g))
  ·rcases gC with⟨et,B3⟩ | g | g | g
   ·have hle:¬t.place<i.toNat:=fun bz=>by
     have:=(et _ x bz i2).1;rw[h1]at this;cases this
    refine .inl ⟨fun j z a6 bf=>?_,?_⟩
    ·rw[hw]at bf;rcases KX bf with⟨rfl,rfl⟩ | ⟨_,bf⟩
     ·exact absurd a6 hle
     exact et j z a6 bf
    rw[br (by omega)];omega
   ·exact .inr (.inl (by split<;>omega))
   ·exact .inr (.inr (.inl (M' aw g)))
   exact .inr (.inr (.inr g))
  by_cases hle:(i.toNat:Int)<=t.place
  ·exact .inr (.inr (.inl ⟨i.toNat,y,hle,by rw[hw];exact D' i2,aw⟩))
  rw[bh (by omega)];rcases gC with⟨_,B3⟩ | g | ⟨j,z,g1,g2,g3⟩ | g
  ·exact .inr (.inl (by omega))
  ·exact .inr (.inl (by omega))
  ·exact .inr (.inr (.inl ⟨j,z,g1,by rw[hw];exact KY g2 (by omega),g3⟩))
  exact .inr (.inr (.inr g))
 obtain⟨q1,lm⟩:=h.AM (Ye jC);have hp:=q1 x pq;rcases ai with⟨_,_,aw,aH⟩ | ⟨h1,_⟩ | ⟨h1,_⟩
 ·refine⟨fun z bf=>?_,by omega⟩;rw[hw]at bf;rcases n2 bf with bf | rfl
  ·exact q1 z bf
  exact (aH hp).1
 ·rw[hp]at h1;cases h1
 omega
theorem p0:kY x e=true<->(∀r∈x.b8,e<r.bw.bc)/\(∀r∈x.queue,r.bw.bc≠e)/\∀r∈x.cm,r.bw.bc≠e:=by
 simp only[kY,Au,Sy,pV,cx,hv,hj,cU,eD];rw[show ∀a b:Nat,a+b=0<->a=0/\b=0 from fun a b=>by omega,List.length_eq_zero_iff,List.length_eq_zero_iff,List.filter_eq_nil_iff,List.filter_eq_nil_iff];simp only[eD,Int.not_le]
variable{g:bX}
theorem aif{cs:List Cell}{r:aG}:∀q∈(dC g cs r).2.1,q.bw.bc=r.bw.bc:=by
 intro q aE;unfold dC at aE;split at aE
 ·rename_i n _;unfold dH at aE;have aj:∀s:gB,s.bc=r.bw.bc->∀k v,q∈hW n s k v->q.bw.bc=r.bw.bc:=by
   intro s Co k v hm;simp only[hW,k5]at hm;obtain⟨o,_,rfl⟩:=hm;exact Co
  have aW:(eM r.bw).1.bc=r.bw.bc:=by
   unfold eM;split<;>rfl
  grind
 cases aE
theorem zY{α:Type}{xs:List α}{a d:α}(h:i≠j):(xs.set i a).getD j d=xs.getD j d:=by
 simp only[ii,jR,bh h]
theorem KZ{α:Type}{xs:List α}{a d:α}(h:i<xs.length):(xs.set i a).getD i d=a:=by
 simp[ii,h]
theorem K0{i e:Int}{l m:bD}(h:hb c i=some l):jg e (eb c i m)+pW e l=jg e c+pW e m:=by
 unfold jg;exact aie m (qO h).2.2
theorem aih(e cap:Int)(q:List aG)(r:aG)(a b s g:Int)(l:bD)(al:l.queue=q):pW e ⟨cap,q++[r],a,b,s,g⟩=pW e l+(if r.bw.bc=e then 1 else 0):=by
 simp only[pW,pV,List.filter_append,km,al,List.filter_cons,List.filter_nil,eD];split<;>rfl
theorem aii(e:Int)(r:aG)(q:List aG)(l:bD)(al:l.queue=r::q)(cap a b s g:Int):pW e l=pW e ⟨cap,q,a,b,s,g⟩+(if r.bw.bc=e then 1 else 0):=by
 simp only[pW,pV,al,List.filter_cons,eD];split<;>simp
theorem p1{c d:bd}{i:Int}{y:aS}(ag:c9 c i=some x)(aD:d.az=c.az.set i.toNat y)(h:jl y e=true->jl x e=true\/qY c e=true)(aW:qY d e=true->qY c e=true):
  (xN d e||qY d e)=true->(xN c e||qY c e)=true:=by
 simp only[n3];rintro (hw | hw)
 ·unfold xN at hw ⊢;rw[aD,oX]at hw;obtain⟨z,bf,Nl⟩:=hw;rcases n2 bf with bf | rfl
  ·exact .inl (oX.2 ⟨z,bf,Nl⟩)
  rcases h Nl with h1 | h1
  ·exact .inl (oX.2 ⟨x,eA (j7 ag).2.2,h1⟩)
  exact .inr h1
 exact .inr (aW hw)
theorem zZ{a b:Int}(ah:0<=a)(ar:0<=b)(h:a≠b):a.toNat≠b.toNat:=by omega
variable{f:Int}
theorem SO{d:Int}(he:0<=e/\e<=3)(bT:0<=f/\f<=3){xs:List Int}(al:xs.length=4):(lT xs f d).getD e.toNat 0=xs.getD e.toNat 0+(if f=e then d else 0):=by
 unfold lT;by_cases h:f=e
 ·subst h;rw[KZ (by omega),br rfl]
 rw[zY (zZ bT.1 he.1 h),bh h];omega
theorem K1{w:aS}(h:eF g w=true):w.bK.length=4/\w.bS.length=4/\w.bC.length=4:=by
 obtain⟨_,_,_,_,aU,bA,bP,_⟩:=iU.1 h;exact⟨aU,bA,bP⟩
theorem SP{xs:List aG}(h:fQ g xs=true){r:aG}(aA:r∈xs):0<=r.bw.bc/\r.bw.bc<=3:=by
 simp only[fQ,hv,hj]at h;exact sb (g:=g) (by simpa using h r aA)
theorem SQ{b:Bool}:jl (told x f b) e=(jl x e||f==e):=by
 simp[jl,told]
theorem aij{n:ca}:jl (h5 x n) e=(jl x e||n.bc==e):=by
 unfold h5;split
 ·rename_i h;by_cases he:n.bc=e
  ·subst he;rw[h];rfl
  have:(n.bc==e)=false:=by simpa using he
  rw[this,Bool.or_false]
 exact SQ
theorem aik{n:ca}:kY (h5 x n) e=kY x e:=by
 unfold h5;split<;>rfl
theorem ail{x:aS}{n:ca}{e:Int}:gI e (h5 x n)=gI e x/\kd e (h5 x n)=kd e x/\mg e (h5 x n)=mg e x:=by
 unfold h5;split<;>exact⟨rfl,rfl,rfl⟩
theorem SR{k:Nat}(h:c.az[k]?=some x):jK e c (k+1)=jK e c k+gI e x:=by
 simp[jK,vW,h]
variable{t:b0}
theorem Ea(he:0<=e)(bT:0<=f)(h:f≠e):(if 0<=e then (c.tokens.set f.toNat t)[e.toNat]? else none)=js c e:=by
 unfold js;rw[jR,bh (zZ bT he h)]
theorem aim{n:Nat}{b:Bool}(h:f≠e):((c.news++jo n f b).any fun x=>x.bc==e)=qY c e:=by
 rw[List.any_append];have:((jo n f b).any fun x=>x.bc==e)=false:=by
  rw[hj];intro x ag;simp only[jo,k5]at ag;obtain⟨_,_,rfl⟩:=ag;simpa using h
 rw[this,Bool.or_false];rfl
theorem Inv.asX(h:Inv e c)(he:0<=e)(bT:0<=f)(cB:f≠e)(ag:c9 c t.place=some x):Inv e (fI c f t x).1:=by
 have Ui:kd e (gG x f)=kd e x:=by
  unfold kd gG;exact zY (zZ bT he cB)
 rcases D9 c f t x with⟨_,U⟩ | ⟨_,_,h1⟩
 ·rw[U];exact h
 rcases h1 with⟨_,U⟩ | ⟨_,_,U⟩ | ⟨_,bN,_,U⟩ | ⟨_,_,_,U⟩
 ·rw[U];exact h.worker ag rfl (Ea he bT cB) (p1 ag rfl (fun k=>.inl k) id) (.inl ⟨rfl,fun k=>Ui.trans k,rfl,fun k=>⟨k,rfl⟩⟩)
 ·rw[U];exact h.worker ag rfl (Ea he bT cB) (p1 ag rfl (fun k=>.inl k) id) (.inl ⟨rfl,fun k=>Ui.trans k,rfl,fun k=>⟨k,rfl⟩⟩)
 ·rw[U];have bf:t.place=0:=by have:=(j7 ag).1;omega
  rw[bf]at ag;refine h.worker ag rfl (Ea he bT cB) (p1 ag rfl (fun k=>?_) (fun k=>(aim cB).symm.trans k)) (.inl ⟨rfl,id,rfl,fun k=>⟨k,rfl⟩⟩);rw[SQ]at k;have:(f==e)=false:=by simpa using cB
  rw[this,Bool.or_false]at k;exact .inl k
 rw[U];exact h.worker (y:=x) ag (SN (j7 ag).2.2).symm (Ea he bT cB) (p1 ag (SN (j7 ag).2.2).symm (fun k=>.inl k) id) (.inl ⟨rfl,id,rfl,fun k=>⟨k,rfl⟩⟩)
theorem ain{n:Int}(h:0<=n):(n+1).toNat=n.toNat+1:=by omega
theorem aio{n:Int}:(n-1+1).toNat=n.toNat:=by rw[Int.sub_add_cancel]
theorem K2{u:b0}(h:js c e=some t):(if 0<=e then (c.tokens.set e.toNat u)[e.toNat]? else none)=some u:=by
 obtain⟨bN,_,U⟩:=D1 h;rw[br bN];exact D' U
theorem Inv.over(h:Inv e c)(bQ:js c e=some t)(au:t.going=true)(bN:¬0<t.place)(ag:c9 c t.place=some x)(hp:kY x e=true)
  (ar:t.bS=false/\x.bS.getD e.toNat false=false/\t.sum+x.bK.getD e.toNat 0=0):quiet e c/\((t.dq||mg e x)=false->∀z∈c.az,mg e z=false):=by
 have bf:t.place=0:=by have:=(j7 ag).1;omega
 obtain⟨_,_,jv⟩:=j7 ag;rw[bf]at jv;have aj:jK e c 1=gI e x:=by rw[SR (k:=0) jv];simp[jK]
 have gC:=h.token t bQ au;unfold Good at gC;rw[bf]at gC;change ((_/\jK e c 1+t.sum=_)\/0<jK e c 1+t.sum\/_) at gC;rw[aj]at gC;have B9:t.sum+gI e x=0:=ar.2.2;rcases gC with⟨et,B3⟩ | g | ⟨i,z,g1,g2,g3⟩ | g
 ·have key:∀z∈c.az,kY z e=true/\(mg e z=true->(t.dq||mg e x)=true):=by
   intro z bf;obtain⟨i,hi⟩:=List.getElem?_of_mem bf;by_cases h1:i=0
   ·subst h1;rw[show c.az[0]?=some x from jv]at hi;cases hi;exact⟨hp,fun k=>by rw[k,Bool.or_true]⟩
   obtain⟨cT,b5⟩:=et i z (by omega) hi;exact⟨cT,fun k=>by rw[b5 k,Bool.true_or]⟩
  refine⟨⟨fun z bf=>(key z bf).1,by omega⟩,fun fE z bf=>?_⟩;cases Nk:mg e z with
  | false=>rfl
  | true=>rw[(key z bf).2 Nk]at fE;cases fE
 ·omega
 ·have:i=0:=by omega
  subst this;rw[show c.az[0]?=some x from jv]at g2;cases g2;rw[show kd e x=false from ar.2.1]at g3;cases g3
 rw[ar.1]at g;cases g
theorem Inv.asY(h:Inv e c)(cJ:cQ c=true)(bQ:js c e=some t)(ag:c9 c t.place=some x):Inv e (fI c e t x).1:=by
 obtain⟨i0,i1,i2⟩:=j7 ag;obtain⟨_,_,NQ,_⟩:=xb.1 (J4 cJ bQ);rcases D9 c e t x with⟨_,U⟩ | ⟨_,hp,h1⟩
 ·rw[U];exact h
 have whole:∀u:b0,(u.going=true->Good e (setW (ev c e u) t.place (gG x e)) u)->Inv e (setW (ev c e u) t.place (gG x e)):=by
  intro u hu;have wI:∀k,jK e (setW (ev c e u) t.place (gG x e)) k=jK e c k:=fun k=>by
   have:=zX (gI e) (gG x e) (k:=k) i2;rw[show gI e (gG x e)=gI e x from rfl,Int.sub_self,ite_self,Int.add_zero]at this;exact this
  refine⟨?_,fun c6 jC au=>?_,fun jC=>?_⟩
  ·rw[wI,show (setW (ev c e u) t.place (gG x e)).az.length=c.az.length from e5];exact h.total
  ·rw[show js (setW (ev c e u) t.place (gG x e)) e=some u from K2 bQ]at jC;cases jC;exact hu au
  obtain⟨q1,lm⟩:=h.AM (p1 (c:=c) (d:=setW (ev c e u) t.place (gG x e)) ag rfl (fun k=>.inl k) id jC);refine⟨fun z bf=>?_,lm⟩;rcases n2 bf with bf | rfl
  ·exact q1 z bf
  exact hp
 have wX:∀(u:b0) k,jK e (setW (ev c e u) t.place (gG x e)) k=jK e c k:=fun u k=>by
  have:=zX (gI e) (gG x e) (k:=k) i2;rw[show gI e (gG x e)=gI e x from rfl,Int.sub_self,ite_self,Int.add_zero]at this;exact this
 rcases h1 with⟨au,U⟩ | ⟨au,bN,U⟩ | ⟨au,bN,ar,U⟩ | ⟨au,bN,ar,U⟩
 ·rw[U];refine whole _ fun _=>.inl ⟨fun j z a6 bf=>?_,?_⟩
  ·have:=a8 bf;rw[show (setW (ev c e _) t.place (gG x e)).az.length=c.az.length from e5]at this;change (c.az.length:Int)-1<j at a6;omega
  rw[wX];change jK e c ((c.az.length:Int)-1+1).toNat+0=jg e c;rw[show ((c.az.length:Int)-1+1).toNat=c.az.length by omega,Int.add_zero];exact h.total
 ·rw[U];have gC:=h.token t bQ au;refine whole _ fun _=>?_
  unfold Good at gC ⊢;rw[wX];change ((∀(i:Nat) z,t.place-1<i->_->_)/\jK e c (t.place-1+1).toNat+(t.sum+gI e x)=jg e c)\/0<jK e c (t.place-1+1).toNat+(t.sum+gI e x)\/(∃(i:Nat) (z:aS),(i:Int)<=t.place-1/\_)\/(t.bS||kd e x)=true;rw[ain i0,SR i2]at gC;rw[aio];rcases gC with⟨et,B3⟩ | g | ⟨i,z,g1,g2,g3⟩ | g
  ·refine .inl ⟨fun j z a6 bf=>?_,by omega⟩;change (c.az.set t.place.toNat (gG x e))[j]?=some z at bf;rcases KX bf with⟨rfl,rfl⟩ | ⟨cB,bf⟩
   ·exact⟨hp,fun k=>by change (t.dq||mg e x)=true;rw[show mg e x=true from k,Bool.or_true]⟩
   obtain⟨cT,b5⟩:=et j z (by omega) bf;exact⟨cT,fun k=>by change (t.dq||mg e x)=true;rw[b5 k,Bool.true_or]⟩
  ·exact .inr (.inl (by omega))
  ·by_cases hi:i=t.place.toNat
   ·subst hi;rw[i2]at g2;cases g2;exact .inr (.inr (.inr (by rw[g3,Bool.or_true])))
   exact .inr (.inr (.inl ⟨i,z,by omega,KY g2 hi,g3⟩))
  exact .inr (.inr (.inr (by rw[g,Bool.true_or])))
 ·rw[U];obtain⟨⟨q1,lm⟩,_⟩:=h.over bQ au bN ag hp ar;have bf:t.place=0:=by omega
  rw[bf]at i2 i1;have wI:∀k,((((c.az.set 0 (told x e (t.dq||x.bC.getD e.toNat false))).take k).map (gI e)).sum)=jK e c k:=fun k=>by
   have:=zX (gI e) (told x e (t.dq||x.bC.getD e.toNat false)) (k:=k) i2;rw[show gI e (told x e (t.dq||x.bC.getD e.toNat false))=gI e x from rfl,Int.sub_self,ite_self,Int.add_zero]at this;exact this
  refine⟨?_,fun c6 jC Gf=>?_,fun _=>⟨fun z bf=>?_,lm⟩⟩
  ·refine (wI _).trans ?_;rw[show (jP (setW (ev c e ⟨false,t.place,t.sum,t.bS,t.dq⟩) 0 (told x e (t.dq||x.bC.getD e.toNat false))) (c.news++jo (c.az.length-1) e (t.dq||x.bC.getD e.toNat false))).az.length=c.az.length from e5];exact h.total
  ·change (if 0<=e then (c.tokens.set e.toNat _)[e.toNat]? else none)=some c6 at jC;rw[K2 bQ]at jC;cases jC;cases Gf
  rcases n2 bf with bf | rfl
  ·exact q1 z bf
  exact hp
 rw[U];refine⟨h.total,fun c6 jC Gf=>?_,h.AM⟩;change (if 0<=e then (c.tokens.set e.toNat _)[e.toNat]? else none)=some c6 at jC;rw[K2 bQ]at jC;cases jC;cases Gf
theorem Inv.step{d:bd}{p:dd}(h:Inv e c)(he:0<=e/\e<=3)(cJ:cQ c=true)(st:Step c p d):Inv e d:=by
 cases st with
 | work x r q hk ag aj aE=>
  have bb:=l0 cJ ag;obtain⟨_,_,al⟩:=K1 bb;refine h.worker ag rfl rfl (p1 ag rfl (fun k=>.inl k) id) (.inl ⟨rfl,id,rfl,fun k=>?_⟩);obtain⟨cT,b5,fq⟩:=p0.1 k;rw[aE]at b5;have gF:=b5 r (gT ..);refine⟨p0.2 ⟨cT,fun a ah=>b5 a (hy _ ah),fun a ah=>?_⟩,?_⟩
  ·rw[aif a ah];exact gF
  have aA:=SP (iU.1 bb).1 (r:=r) (by rw[aE];exact gT ..);unfold mg;dsimp only;split
  ·exact zY (zZ aA.1 he.1 gF)
  rfl
 | input x r t hk ag aj aE hi=>
  refine h.worker ag rfl rfl (p1 ag rfl (fun k=>.inl k) id) (.inl ⟨rfl,id,rfl,fun k=>⟨?_,rfl⟩⟩);obtain⟨cT,b5,fq⟩:=p0.1 k;rw[hi]at cT;refine p0.2 ⟨fun a ah=>cT a (hy _ ah),fun a ah=>?_,fun a ah=>by cases ah⟩;obtain rfl:a=r:=by simpa using ah
  have:=cT a (gT ..);omega
 | fo x r t hk ag aj aZ=>
  refine h.worker ag rfl rfl (p1 ag rfl (fun k=>.inl k) id) (.inl ⟨rfl,id,rfl,fun k=>⟨?_,rfl⟩⟩);obtain⟨cT,b5,fq⟩:=p0.1 k;rw[aj]at fq;refine p0.2 ⟨cT,fun a ah=>?_,fun a ah=>fq a (hy _ ah)⟩;rcases lB.1 ah with ah | ah
  ·exact b5 a ah
  obtain rfl:a=r:=by simpa using ah
  exact fq a (gT ..)
 | send x r t l hk ag aj aZ al hsend=>
  obtain⟨_,_,_,e1⟩:=aic hsend;have bb:=l0 cJ ag;obtain⟨yK,_,_⟩:=K1 bb;have aA:=SP (iU.1 bb).2.1 (r:=r) (by rw[aj];exact gT ..);have bT:=K0 (e:=e) (m:=(fh l r).1) al;have rG:gI e (mL (j6 x t) r.bw.bc)=gI e x+(if r.bw.bc=e then 1 else 0):=SO he aA yK;rw[e1,aih e _ _ r _ _ _ _ l rfl]at bT;refine h.worker ag (d:=setW (eb c _ (fh l r).1) p.a _) rfl rfl (p1 ag rfl (fun k=>.inl k) id) ?_;have ry:jg e (setW (eb c (fi c.aF p.a (j5 r.key c.aF.az)) (fh l r).1) p.a (mL (j6 x t) r.bw.bc))=jg e c+(if r.bw.bc=e then 1 else 0):=by
   rw[e1];change jg e (eb c _ _)=_;omega
  by_cases rF:r.bw.bc=e
  ·rw[br rF]at rG ry;refine .inr (.inl ⟨?_,rG,id,ry⟩);rw[oQ];intro k;obtain⟨_,_,fq⟩:=p0.1 k;exact fq r (by rw[aj];exact gT ..) rF
  rw[bh rF]at rG ry;refine .inl ⟨by omega,id,by omega,fun k=>⟨?_,rfl⟩⟩;obtain⟨cT,b5,fq⟩:=p0.1 k;rw[aj]at fq;exact p0.2 ⟨cT,b5,fun a ah=>fq a (hy _ ah)⟩
 | take l x hk ho al ag bQ=>
  obtain⟨_,r,q,aE,e2,e1⟩:=aid bQ;have bb:=l0 cJ ag;obtain⟨yK,yz,_⟩:=K1 bb;have aA:=sb (J8 (Av cJ al) bQ).2;rw[e2]at aA;have bT:=K0 (e:=e) (m:=(eB l).1) al;have rG:gI e (iA x r)=gI e x+(if r.bw.bc=e then -1 else 0):=SO he aA yK;rw[e1,aii e r q l aE l.cap l.e0 (l.back+1) l.fs (l.du+1)]at bT;rw[e2];refine h.worker ag (d:=setW (eb c _ (eB l).1) p.b _) rfl rfl (p1 ag rfl (fun k=>.inl k) id) ?_;have ry:jg e (setW (eb c (fi c.aF p.a p.b) (eB l).1) p.b (iA x r))+(if r.bw.bc=e then 1 else 0)=jg e c:=by
   rw[e1];change jg e (eb c _ _)+_=_;omega
  by_cases rF:r.bw.bc=e
  ·rw[br rF]at rG ry;refine .inr (.inr ⟨ry.symm,by omega,?_⟩);unfold kd iA;dsimp only;rw[rF];exact KZ (by omega)
  rw[bh rF]at rG ry;refine .inl ⟨by omega,fun k=>?_,by omega,fun k=>⟨?_,rfl⟩⟩
  ·unfold kd iA;dsimp only;rw[zY (zZ aA.1 he.1 rF)];exact k
  obtain⟨cT,b5,fq⟩:=p0.1 k;refine p0.2 ⟨cT,fun a ah=>?_,fq⟩;rcases lB.1 ah with ah | ah
  ·exact b5 a ah
  obtain rfl:a=r:=by simpa using ah
  exact rF
 | Fu l hk ho al ai=>
  rcases SL l with⟨k,_⟩ | ⟨_,_,_,e1⟩
  ·rw[ai]at k;cases k
  have bT:=K0 (e:=e) (m:=(gw l).1) al;have U:pW e (gw l).1=pW e l:=by rw[e1];rfl
  have aw:jg e (eb c (fi c.aF p.a p.b) (gw l).1)=jg e c:=by omega
  refine⟨by rw[aw];exact h.total,fun t jC au=>?_,fun jC=>⟨(h.AM jC).1,by rw[aw];exact (h.AM jC).2⟩⟩;have gC:=h.token t jC au;unfold Good at gC ⊢;rw[aw];exact gC
 | token t x hg hk nr bN aD bQ ag W3=>
  simp only[ap,cU]at nr;by_cases NM:p.a=e
  ·subst NM;exact h.asY cJ bQ ag
  exact h.asX he.1 nr.1 NM ag
 | Gb k n x hk aW aD ag=>
  obtain⟨cT,b5,fq⟩:=ail (x:=x) (n:=n) (e:=e);refine h.worker ag rfl rfl (p1 ag rfl (fun q=>?_) (fun q=>?_)) (.inl ⟨cT,fun q=>b5.trans q,rfl,fun q=>⟨aik.trans q,fq⟩⟩)
  ·rw[aij,n3]at q;rcases q with q | q
   ·exact .inl q
   exact .inr (oX.2 ⟨n,eA aW,q⟩)
  unfold qY at q ⊢;rw[oX]at q ⊢;obtain⟨m,hm,q⟩:=q;refine⟨m,?_,q⟩;change m∈cutAt c.news k at hm;unfold cutAt at hm;rcases lB.1 hm with hm | hm
  ·exact xV hm
  exact Bq hm
