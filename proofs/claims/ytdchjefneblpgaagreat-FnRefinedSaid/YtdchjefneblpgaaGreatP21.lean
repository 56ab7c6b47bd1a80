import Derived.Test.YtdchjefneblpgaaGreatQ3
import Derived.Test.YtdchjefneblpgaaGreatGU
import Derived.Test.YtdchjefneblpgaaGreatP17
set_option linter.unusedVariables false
set_option linter.unusedSimpArgs false
namespace Go.Proofs.YtdchjefneblpgaaGreat
open Go.Sx Go.RowKit Go.Proofs.Tryz
variable{c:a'}
theorem a'.Km(h:c.wf){l:bw}(ap:l∈c.bP):l.wf:=h.adG.2 l ap
structure DL (c:a'):Prop where
 n:aD .i64 c.aE.az
 l:∀l∈c.bP,aD .i64 l.cap/\l.dy<=9223372036854775807
theorem DL.of(h:c.wf):DL c:=⟨h.abo.Y2,fun l ap=>⟨(a'.Km h ap).QI,(a'.Km h ap).QV.2⟩⟩
theorem a'.EE(h:c.sz<=8388608){l:bw}(ap:l∈c.bP):l.sz<=8388608:=by
 have:=F8 (sz:=bw.sz) (xs:=c.bP) (m:=8388608) (by simp only[a'.sz]at h;omega) ap;exact this
def rf(e:Int)(l:bw):Nat:=(mS e l.queue).length
theorem x4{α:Type}{f:Int->α}{xs:List Int}(h:xs.length<=8388608):IntKind.i64.wrap ((↑(xs.map f).length:Int)-1)=(xs.length:Int)-1:=by
 rw[bl];exact aD.wrap ⟨by omega,by omega⟩
def jK(key az:Int):Int:=if az<1 then 0 else if key.tmod az<0 then key.tmod az+az else key.tmod az
theorem MC(a b:Int)(h:0<b):- b<a.tmod b:=by
 rcases Int.le_total 0 a with ak | ak
 ·have:=Int.tmod_nonneg b ak;omega
 have h1:(-a).tmod b<b:=Int.tmod_lt_of_pos _ h;rw[Int.neg_tmod]at h1;omega
theorem U7(key az:Int)(hw:az<=9223372036854775807):al 245 [.one (I key),.one (I az)] [.one (I (jK key az))]:=by
 unfold jK;split
 ·exact aA8 ⟨by simpa using ‹az<1›,aa⟩
 rename_i h;have h1:=MC key az (by omega);have U:key.tmod az<az:=Int.tmod_lt_of_pos _ (by omega);split
 ·rename_i ax;exact aA9 ⟨by simp only[lp];omega,by omega,by simpa using ax,⟨by omega,by omega⟩,aa⟩
 rename_i ax;exact aBa ⟨by simp only[lp];omega,by omega,by simpa using ax,aa⟩
theorem aft(key az:Int)(hw:az<=9223372036854775807):al 147 [.one (I key),.one (I az)] [.one (I (jK key az))]:=by
 unfold jK;split
 ·exact aBb ⟨by simpa using ‹az<1›,aa⟩
 rename_i h;have h1:=MC key az (by omega);have U:key.tmod az<az:=Int.tmod_lt_of_pos _ (by omega);split
 ·rename_i ax;exact aBc ⟨by simp only[lp];omega,by omega,by simpa using ax,⟨by omega,by omega⟩,aa⟩
 rename_i ax;exact aBd ⟨by simp only[lp];omega,by omega,by simpa using ax,aa⟩
theorem aP.GO{w:aP}(h:w.sz<=8388608):w.queue.length<=8388608:=by simp only[aP.sz]at h;omega
theorem aP.yN{w:aP}(h:w.sz<=8388608):w.bO.length<=8388608:=by simp only[aP.sz]at h;omega
end Go.Proofs.YtdchjefneblpgaaGreat
namespace Go.Proofs.YtdchjefneblpgaaGreat
open Go.Sx Go.RowKit Go.Proofs.Tryz
def dB(g:b9)(cs:List Cell)(r:aq):List Cell×List aq×Bool:=match gY g r.op with | some x=>dX g cs r x | none=>(cs,[],false)
theorem MD(g:b9)(cs:List Cell)(r:aq)(ay:g.sz<=8388608)(ap:cs.length<=8388608):al 176 [.agg g.e,.one (.J 4 (cs.map Cell.e)),.agg r.e] [.one (.J 4 ((dB g cs r).1.map Cell.e)),.one (.J 5 ((dB g cs r).2.1.map aq.e)),.one (B (dB g cs r).2.2)]:=by
 unfold dB;cases h:gY g r.op with
 | some x=>exact aj5 g cs r x ay ap h
 | none=>exact akJ ⟨by simp<;>omega,by simp<;>omega,ch _ Cell.flat _,Fh g r.op (⟨0,0,0,[]⟩,false) (by unfold vE;rw[h]) ay,rfl,aa⟩
theorem U8(g:b9)(cs:List Cell)(r:aq)(ay:g.sz<=8388608)(ap:cs.length<=8388608):al 232 [.agg g.e,.one (.J 4 (cs.map Cell.e)),.agg r.e] [.one (.J 4 ((dB g cs r).1.map Cell.e)),.one (.J 5 ((dB g cs r).2.1.map aq.e)),.one (B (dB g cs r).2.2)]:=by
 unfold dB;cases h:gY g r.op with
 | some x=>exact aj6 g cs r x ay ap h
 | none=>
  have c1:=y2 g ay;have c2:=vG r;have cM:=yZ g r.op false (by rw[h];rfl) ay;have cB:=vD cs ap;generalize eM g=eC at*;generalize fE r=fG at*;cases eC with
  | false=>exact Wr ⟨c1,rfl,cB,aa⟩
  | true=>
   cases fG with
   | false=>exact Ws ⟨c1,rfl,c2,rfl,cB,aa⟩
   | true=>exact akj ⟨c1,rfl,c2,rfl,cM,rfl,cB,aa⟩
def kZ(g:b9)(r:aq)(x:Node):Bool:=eM g&&fE r&&x.kind==7&&decide (0<x.outs.length)&&!(fl r.bq).2
def du(g:b9)(r:aq):Bool:=match gY g r.op with | some x=>kZ g r x | none=>false
theorem afu(g:b9)(r:aq)(x:Node)(ay:g.sz<=8388608)(aX:gY g r.op=some x):al 177 [.agg g.e,.agg r.e] [.one (B (kZ g r x))]:=by
 have c1:=Fh g r.op (x,true) (by unfold vE;rw[aX]) ay;have c2:=y0 r.bq;have cM:=y1 g ay;rcases cS (eM g) with aF | aF
 ·skip
  have hf:=tV r;rcases cS (fE r) with bB | bB
  ·skip
   rcases cS (x.kind==7) with bS | bS
   ·skip
    rcases cS (decide ((↑(x.outs.map bh).length:Int)>0)) with dv | dv
    ·skip
     rw[show kZ g r x=(!((fl r.bq).2)) from by grind[kZ]];exact akD ⟨c1,c2,rfl,cM,aF,hf,bB,bS,dv,aa⟩
    skip
    rw[show kZ g r x=false from by grind[kZ]];exact akE ⟨c1,c2,rfl,cM,aF,hf,bB,bS,dv,aa⟩
   skip
   rw[show kZ g r x=false from by grind[kZ]];exact akF ⟨c1,c2,rfl,cM,aF,hf,bB,bS,aa⟩
  skip
  rw[show kZ g r x=false from by grind[kZ]];exact akG ⟨c1,c2,rfl,cM,aF,hf,bB,aa⟩
 skip
 rw[show kZ g r x=false from by grind[kZ]];exact akH ⟨c1,c2,rfl,cM,aF,aa⟩
theorem U9(g:b9)(r:aq)(ay:g.sz<=8388608):al 177 [.agg g.e,.agg r.e] [.one (B (du g r))]:=by
 unfold du;cases h:gY g r.op with
 | some x=>exact afu g r x ay h
 | none=>exact akI ⟨Fh g r.op (⟨0,0,0,[]⟩,false) (by unfold vE;rw[h]) ay,y0 r.bq,rfl,aa⟩
theorem ME{g:b9}(h:eM g=true){op:Int}{x:Node}(aX:gY g op=some x):aM x=true:=by
 simp only[eM,cx,gT]at h;unfold gY at aX;split at aX
 ·have:=F7 h.2 op.toNat x aX;simp only[kc,hG,ln]at this;exact this.1.1
 cases aX
theorem afv{x:Node}(h:aM x=true):x.outs.length<=2:=by
 simp only[aM,cx,cV]at h;exact h.1.1.1.2
theorem aeW(kind:Int)(cs:List Cell)(x:Cell):(dg kind cs x).1.length<=cs.length+1:=by
 have h1:=Vj cs x;have U:=Vj (cs.filter fun a=>!fo x a) x;have ax:=qw (fun a=>!fo x a) cs;unfold dg;split
 ·split<;>simp<;>omega
 split
 ·unfold kd;split<;>simp<;>omega
 simp
theorem U'{g:b9}(ay:eM g=true)(cs:List Cell)(r:aq):(dB g cs r).1.length<=cs.length+1/\(dB g cs r).2.1.length<=2:=by
 unfold dB;cases h:gY g r.op with
 | none=>exact⟨by simp,by simp⟩
 | some x=>
  have ah:=afv (ME ay h);have aA:=aeW x.kind cs ⟨r.op,r.bq.bd,r.key,r.val⟩;have ao:∀s k v,(jg x s k v).length<=2:=fun s k v=>by simpa[jg]using ah
  simp only[dX];split
  ·split
   ·exact⟨by simp,by simp⟩
   split
   ·exact⟨aA,by simp⟩
   split
   ·refine⟨aA,?_⟩;cases (fl r.bq).2 with
    | true=>exact ao _ _ _
    | false=>simp
   exact⟨aA,ao _ _ _⟩
  exact⟨by simp,by simp⟩
end Go.Proofs.YtdchjefneblpgaaGreat
namespace Go.Proofs.YtdchjefneblpgaaGreat
open Go.Sx Go.RowKit Go.Proofs.Tryz
def E8(p:Cell×Cell):Bool:=decide (i' p.1 p.2>=0)
def k0(xs:List Cell):Bool:=!((xs.zip (xs.drop 1)).any E8)
variable{xs:List Cell}
theorem CA{i:Nat}{p:Cell×Cell}(h:(xs.zip (xs.drop 1))[i]?=some p):xs[i]?=some p.1/\xs[i+1]?=some p.2:=by
 rw[List.getElem?_zip_eq_some]at h;obtain⟨h1,U⟩:=h;rw[gH,Nat.add_comm]at U;exact⟨h1,U⟩
theorem aeX(xs:List Cell)(ap:xs.length<=8388608):al 266 [.one (.J 4 (xs.map Cell.e))] [.one (B (k0 xs))]:=by
 have bu:∀i:Nat,(((i:Int)+1)-1).toNat=i:=fun i=>by omega
 have e1:∀i:Nat,(((i:Int)+1)).toNat=i+1:=fun i=>by omega
 have bi:(xs.zip (xs.drop 1)).length=xs.length-1:=by simp
 have l:=gN (P:=prog) (c:=(ar f266 0)) (xs.zip (xs.drop 1)) E8 (fun i=>vx (xs.map Cell.e) ((i:Int)+1)) (X:=fun _ _=>Mp false) e0 (cH 0)
  (fun i a ak h=>by
   obtain⟨h1,U⟩:=CA ak;have hi:=aT U;refine rJ (vx (xs.map Cell.e)) (aBf ⟨dt (by simp only[bl];omega),⟨by omega,by omega⟩,by omega,by simp only[bl];omega,by rw[bu,dq,h1];rfl,by omega,by simp only[bl];omega,by rw[e1,dq,U];rfl,Fu a.1 a.2,h,⟨by omega,by omega⟩,aa⟩) (by omega))
  (fun i a ak h=>by
   obtain⟨h1,U⟩:=CA ak;have hi:=aT U;exact aBe ⟨dt (by simp only[bl];omega),⟨by omega,by omega⟩,by omega,by simp only[bl];omega,by rw[bu,dq,h1];rfl,by omega,by simp only[bl];omega,by rw[e1,dq,U];rfl,Fu a.1 a.2,h,aa⟩)
  (aBg ⟨dQ (by rw[bi];simp only[bl];omega),aa⟩)
 unfold k0;rcases l with⟨_,_,h1,U⟩ | ⟨i,a,_,_,_,_,h1,U⟩
 ·rw[h1];exact aBi ⟨U,aa⟩
 rw[h1];exact aBh ⟨U,aa⟩
theorem Va{r:Bool}(h:k0 xs=r)(ap:xs.length<=8388608):al 266 [.one (.J 4 (xs.map Cell.e))] [.one (B r)]:=h▸aeX xs ap
theorem aeY(xs:List Cell)(ap:xs.length<=8388608):al 280 [.one (.J 4 (xs.map Cell.e))] [.one (B (k0 xs))]:=by
 have bu:∀i:Nat,(((i:Int)+1)-1).toNat=i:=fun i=>by omega
 have e1:∀i:Nat,(((i:Int)+1)).toNat=i+1:=fun i=>by omega
 have bi:(xs.zip (xs.drop 1)).length=xs.length-1:=by simp
 have l:=gN (P:=prog) (c:=(ar f280 0)) (xs.zip (xs.drop 1)) E8 (fun i=>vy (xs.map Cell.e) ((i:Int)+1)) (X:=fun _ _=>Mq false) e0 (cH 0)
  (fun i a ak h=>by
   obtain⟨h1,U⟩:=CA ak;have hi:=aT U;refine rJ (vy (xs.map Cell.e)) (aBk ⟨dt (by simp only[bl];omega),⟨by omega,by omega⟩,by omega,by simp only[bl];omega,by rw[bu,dq,h1];rfl,by omega,by simp only[bl];omega,by rw[e1,dq,U];rfl,Ft a.1 a.2,h,⟨by omega,by omega⟩,aa⟩) (by omega))
  (fun i a ak h=>by
   obtain⟨h1,U⟩:=CA ak;have hi:=aT U;exact aBj ⟨dt (by simp only[bl];omega),⟨by omega,by omega⟩,by omega,by simp only[bl];omega,by rw[bu,dq,h1];rfl,by omega,by simp only[bl];omega,by rw[e1,dq,U];rfl,Ft a.1 a.2,h,aa⟩)
  (aBl ⟨dQ (by rw[bi];simp only[bl];omega),aa⟩)
 unfold k0;rcases l with⟨_,_,h1,U⟩ | ⟨i,a,_,_,_,_,h1,U⟩
 ·rw[h1];exact aBn ⟨U,aa⟩
 rw[h1];exact aBm ⟨U,aa⟩
theorem Vb{r:Bool}(h:k0 xs=r)(ap:xs.length<=8388608):al 280 [.one (.J 4 (xs.map Cell.e))] [.one (B r)]:=h▸aeY xs ap
def mv(g:b9)(r:aq):Bool:=!fE r||decide (r.op>=(g.nodes.length:Int))
def gP(g:b9)(xs:List aq):Bool:=!(xs.any (mv g))
theorem aeZ{r:aq}(h:fE r=true):0<=r.op:=by
 simp only[fE,cx,aw,cV]at h;omega
theorem ae0(g:b9)(xs:List aq)(ap:xs.length<=8388608):al 192 [.agg g.e,.one (.J 5 (xs.map aq.e))] [.one (B (gP g xs))]:=by
 have l:=gN (P:=prog) (c:=(ar f192 0)) xs (mv g) (fun i=>vz (g.nodes.map Node.e) g.az g.cap (xs.map aq.e) i) (X:=fun _ _=>FB false) e0 (cH 0)
  (fun i a ak h=>by
   simp only[mv,hG,ln]at h;have c:=tV a;rw[h.1]at c;exact aAA ⟨b5 (aT ak),bD,bK (aT ak),bE aq.e ak,c,rfl,bD,bK (aT ak),bE aq.e ak,by rw[bl];exact h.2,dj (aT ak) ap,aa⟩)
  (fun i a ak h=>by
   have c:=tV a;cases aA:fE a with
   | false=>
    rw[aA]at c;exact aAy ⟨b5 (aT ak),bD,bK (aT ak),bE aq.e ak,c,rfl,aa⟩
   | true=>
    rw[aA]at c;simp only[mv,aA,jC,kF]at h;exact aAz ⟨b5 (aT ak),bD,bK (aT ak),bE aq.e ak,c,rfl,bD,bK (aT ak),bE aq.e ak,by rw[bl];exact h,aa⟩)
  (aAB ⟨dT,aa⟩)
 unfold gP;rcases l with⟨_,_,h1,U⟩ | ⟨i,a,_,_,_,_,h1,U⟩
 ·rw[h1];exact aAD ⟨U,aa⟩
 rw[h1];exact aAC ⟨U,aa⟩
theorem Vc{g:b9}{r:aq}(h:fE r=true):(gY g r.op).isSome=!(decide (r.op>=(g.nodes.length:Int))):=by
 have bG:=aeZ h;unfold gY;rw[bm bG];by_cases aj:r.op>=(g.nodes.length:Int)
 ·rw[dt aj,List.getElem?_eq_none (by omega)];rfl
 rw[dQ aj,fJ (by omega)];rfl
theorem ae1(g:b9)(xs:List aq)(ay:g.sz<=8388608)(ap:xs.length<=8388608):al 189 [.agg g.e,.one (.J 5 (xs.map aq.e))] [.one (B (gP g xs))]:=by
 have l:=gN (P:=prog) (c:=(ar f189 0)) xs (mv g) (fun i=>vA (xs.map aq.e) i (g.nodes.map Node.e) g.az g.cap) (X:=fun _ _=>FC false) e0 (cH 0)
  (fun i a ak h=>by
   simp only[mv,hG,ln]at h;have c:=vG a;rw[h.1]at c;exact aAG ⟨b5 (aT ak),bD,bK (aT ak),bE aq.e ak,c,rfl,yZ g a.op true (by rw[Vc h.1,h.2];rfl) ay,rfl,dj (aT ak) ap,aa⟩)
  (fun i a ak h=>by
   have c:=vG a;cases aA:fE a with
   | false=>
    rw[aA]at c;exact aAE ⟨b5 (aT ak),bD,bK (aT ak),bE aq.e ak,c,rfl,aa⟩
   | true=>
    rw[aA]at c;simp only[mv,aA,jC,kF]at h;exact aAF ⟨b5 (aT ak),bD,bK (aT ak),bE aq.e ak,c,rfl,yZ g a.op false (by rw[Vc aA,h];rfl) ay,rfl,aa⟩)
  (aAH ⟨dT,aa⟩)
 unfold gP;rcases l with⟨_,_,h1,U⟩ | ⟨i,a,_,_,_,_,h1,U⟩
 ·rw[h1];exact aAJ ⟨U,aa⟩
 rw[h1];exact aAI ⟨U,aa⟩
theorem xD(g:b9)(xs:List aq)(r:Bool)(h:gP g xs=r)(_:g.sz<=8388608)(ap:xs.length<=8388608):al 192 [.agg g.e,.one (.J 5 (xs.map aq.e))] [.one (B r)]:=h▸ae0 g xs ap
theorem xE(g:b9)(xs:List aq)(r:Bool)(h:gP g xs=r)(ay:g.sz<=8388608)(ap:xs.length<=8388608):al 189 [.agg g.e,.one (.J 5 (xs.map aq.e))] [.one (B r)]:=h▸ae1 g xs ay ap
def jz(l:bw):Bool:=
 aw l.cap 1 4&&aw l.eX 0 l.cap&&aw l.back 0 l.cap&&(l.eX+l.back+l.queue.length==l.cap)&&aw l.fq 0 1000000000&&decide (0<=l.dy)&&(l.dy==l.fq-l.queue.length)&&!(l.queue.any fun r=>!fE r)
theorem ae2(xs:List aq)(ap:xs.length<=8388608):al 282 [.one (.J 5 (xs.map aq.e))] [.one (B (!(xs.any fun r=>!fE r)))]:=by
 have l:=gN (P:=prog) (c:=(ar f282 0)) xs (fun r=>!fE r) (fun i=>xA (xs.map aq.e) i) (X:=fun _ _=>Mz false) e0 (cH 0)
  (fun i a ak h=>aer ⟨b5 (aT ak),bD,bK (aT ak),bE aq.e ak,vG a,h,dj (aT ak) ap,aa⟩)
  (fun i a ak h=>aeq ⟨b5 (aT ak),bD,bK (aT ak),bE aq.e ak,vG a,h,aa⟩)
  (aes ⟨dT,aa⟩)
 rcases l with⟨_,_,h1,U⟩ | ⟨i,a,_,_,_,_,h1,U⟩
 ·rw[h1];exact aeu ⟨U,aa⟩
 rw[h1];exact aet ⟨U,aa⟩
theorem E9(l:bw)(ap:l.sz<=8388608)(uT:l.dy<=9223372036854775807):al 188 [.agg l.e] [.one (B (jz l))]:=by
 have aK:l.queue.length<=8388608:=ap;have c1:=lH l.cap 1 4;have c2:=lH l.eX 0 l.cap;have cM:=lH l.back 0 l.cap;have eK:=lH l.fq 0 1000000000;have hf:=ae2 l.queue aK;unfold jz;cases h1:aw l.cap 1 4 with
 | false=>rw[h1]at c1;exact aei ⟨c1,rfl,aa⟩
 | true=>
 cases U:aw l.eX 0 l.cap with
 | false=>rw[h1]at c1;rw[U]at c2;exact aej ⟨c1,rfl,c2,rfl,aa⟩
 | true=>
 cases ax:aw l.back 0 l.cap with
 | false=>rw[h1]at c1;rw[U]at c2;rw[ax]at cM;exact aek ⟨c1,rfl,c2,rfl,cM,rfl,aa⟩
 | true=>
 have cG:=h1;have bM:=U;have gj:=ax;simp only[aw,cV]at cG bM gj;rw[h1]at c1;rw[U]at c2;rw[ax]at cM;have g':aD .i64 (l.eX+l.back):=⟨by omega,by omega⟩
 have kf:aD .i64 (l.eX+l.back+(↑(l.queue.map aq.e).length:Int)):=⟨by simp only[bl];omega,by simp only[bl];omega⟩
 cases aF:(l.eX+l.back+(l.queue.length:Int)==l.cap) with
 | false=>exact ael ⟨c1,rfl,c2,rfl,cM,rfl,g',kf,by rw[bl];simpa using aF,aa⟩
 | true=>
 have v4:(l.eX+l.back+(↑(l.queue.map aq.e).length:Int) != l.cap)=false:=by rw[bl];simpa using aF
 cases aZ:aw l.fq 0 1000000000 with
 | false=>rw[aZ]at eK;exact aem ⟨c1,rfl,c2,rfl,cM,rfl,g',kf,v4,eK,rfl,aa⟩
 | true=>
 have kR:=aZ;simp only[aw,cV]at kR;rw[aZ]at eK;by_cases bB:l.dy<0
 ·rw[dQ (show ¬0<=l.dy by omega)];exact aen ⟨c1,rfl,c2,rfl,cM,rfl,g',kf,v4,eK,rfl,dt bB,aa⟩
 rw[dt (show 0<=l.dy by omega)];have x3:aD .i64 (l.fq-l.dy):=⟨by omega,by omega⟩
 ·by_cases bS:l.dy=l.fq-(l.queue.length:Int)
  ·rw[show (l.dy==l.fq-(l.queue.length:Int))=true from by simpa using bS];exact aep ⟨c1,rfl,c2,rfl,cM,rfl,g',kf,v4,eK,rfl,dQ bB,x3,by rw[bl];simp;omega,hf,aa⟩
  rw[show (l.dy==l.fq-(l.queue.length:Int))=false from by simpa using bS];exact aeo ⟨c1,rfl,c2,rfl,cM,rfl,g',kf,v4,eK,rfl,dQ bB,x3,by rw[bl];simp;omega,aa⟩
theorem E'(l:bw)(ap:l.sz<=8388608):al 191 [.agg l.e] [.one (B (jz l))]:=by
 have aK:l.queue.length<=8388608:=ap;have aY:=gN (P:=prog) (c:=(ar f191 0)) l.queue (fun r=>!fE r) (fun i=>wZ l.cap (l.queue.map aq.e) l.eX l.back l.fq l.dy i) (X:=fun _ _=>My false) e0 (cH 0)
  (fun i a ak h=>ad8 ⟨b5 (aT ak),bD,bK (aT ak),bE aq.e ak,tV a,h,dj (aT ak) aK,aa⟩)
  (fun i a ak h=>ad7 ⟨b5 (aT ak),bD,bK (aT ak),bE aq.e ak,tV a,h,aa⟩)
  (ad9 ⟨dT,aa⟩)
 unfold jz;rcases aY with⟨_,_,bG,aY⟩ | ⟨i,a,_,_,_,_,bG,aY⟩
 case inr=>
  rw[bG,jC,Bool.and_false];exact aea ⟨aY,aa⟩
 rw[bG,oN,wb];have c1:=jy l.cap 1 4;have c2:=jy l.eX 0 l.cap;have cM:=jy l.back 0 l.cap;have eK:=jy l.fq 0 1000000000;cases h1:aw l.cap 1 4 with
 | false=>rw[h1]at c1;exact aeh ⟨aY,c1,rfl,aa⟩
 | true=>
 cases U:aw l.eX 0 l.cap with
 | false=>rw[h1]at c1;rw[U]at c2;exact aeg ⟨aY,c1,rfl,c2,rfl,aa⟩
 | true=>
 cases ax:aw l.back 0 l.cap with
 | false=>rw[h1]at c1;rw[U]at c2;rw[ax]at cM;exact aef ⟨aY,c1,rfl,c2,rfl,cM,rfl,aa⟩
 | true=>
 have cG:=h1;have bM:=U;have gj:=ax;simp only[aw,cV]at cG bM gj;rw[h1]at c1;rw[U]at c2;rw[ax]at cM;have g':aD .i64 (l.eX+l.back):=⟨by omega,by omega⟩
 have kf:aD .i64 (l.eX+l.back+(↑(l.queue.map aq.e).length:Int)):=⟨by simp only[bl];omega,by simp only[bl];omega⟩
 cases aF:(l.eX+l.back+(l.queue.length:Int)==l.cap) with
 | false=>exact aee ⟨aY,c1,rfl,c2,rfl,cM,rfl,g',kf,by rw[bl];exact aF,aa⟩
 | true=>
 have v4:(l.eX+l.back+(↑(l.queue.map aq.e).length:Int)==l.cap)=true:=by rw[bl];exact aF
 cases aZ:aw l.fq 0 1000000000 with
 | false=>rw[aZ]at eK;exact aed ⟨aY,c1,rfl,c2,rfl,cM,rfl,g',kf,v4,eK,rfl,aa⟩
 | true=>
 have kR:=aZ;simp only[aw,cV]at kR;rw[aZ]at eK;have x3:aD .i64 (l.fq-(↑(l.queue.map aq.e).length:Int)):=⟨by simp only[bl];omega,by simp only[bl];omega⟩
 cases bS:(l.dy==l.fq-(l.queue.length:Int)) with
 | false=>
  rw[Bool.and_false];exact aec ⟨aY,c1,rfl,c2,rfl,cM,rfl,g',kf,v4,eK,rfl,x3,by rw[bl];exact bS,aa⟩
 | true=>
  rw[wb];exact aeb ⟨aY,c1,rfl,c2,rfl,cM,rfl,g',kf,v4,eK,rfl,x3,by rw[bl];exact bS,aa⟩
end Go.Proofs.YtdchjefneblpgaaGreat
namespace Go.Proofs.YtdchjefneblpgaaGreat
open Go.Sx Go.RowKit Go.Proofs.Tryz
def nL(xs:List aq)(i:Nat)(r:aq):Bool:=
 r.op != 0||r.bq.dC != 0||(match i with | 0=>false | j+1=>match xs[j]? with | some q=>decide (q.bq.bd>r.bq.bd) | none=>false)
theorem Vd{xs:List aq}{i:Nat}{a:aq}(ak:xs[i]?=some a)(h:nL xs i a=true):
  (a.op != 0)=true\/((a.op != 0)=false/\(a.bq.dC != 0)=true)\/((a.op != 0)=false/\(a.bq.dC != 0)=false/\∃j b,i=j+1/\xs[j]?=some b/\decide (b.bq.bd>a.bq.bd)=true):=by
 unfold nL at h;cases h1:(a.op != 0) with
 | true=>exact .inl rfl
 | false=>
 cases U:(a.bq.dC != 0) with
 | true=>exact .inr (.inl ⟨rfl,rfl⟩)
 | false=>
 rw[h1,U,kF,kF]at h;cases i with
 | zero=>cases h
 | succ j=>
  have a1:j<xs.length:=by have:=aT ak;omega
  obtain⟨b,av⟩:=c9 a1;simp only[av]at h;exact .inr (.inr ⟨rfl,rfl,j,b,rfl,av,h⟩)
theorem Ve{xs:List aq}{i:Nat}{a:aq}(ak:xs[i]?=some a)(h:nL xs i a=false):
  (a.op != 0)=false/\(a.bq.dC != 0)=false/\(i=0\/∃j b,i=j+1/\xs[j]?=some b/\decide (b.bq.bd>a.bq.bd)=false):=by
 unfold nL at h;rw[hG,hG]at h;obtain⟨⟨h1,U⟩,h⟩:=h;refine⟨h1,U,?_⟩;cases i with
 | zero=>exact .inl rfl
 | succ j=>
  have a1:j<xs.length:=by have:=aT ak;omega
  obtain⟨b,av⟩:=c9 a1;simp only[av]at h;exact .inr ⟨j,b,rfl,av,h⟩
theorem Fa{α:Type}(f:α->List D){xs:List α}{j:Nat}{b:α}(h:xs[j]?=some b):(xs.map f)[(((j+1:Nat):Int)-1).toNat]?=some (f b):=by
 rw[show (((j+1:Nat):Int)-1)=(j:Int) by omega];exact bE f h
theorem Fb{α β:Type}{f:α->β}{xs:List α}{j:Nat}{b:α}(h:xs[j]?=some b):(((j+1:Nat):Int)-1)<(↑(xs.map f).length:Int):=by
 have:=aT h;rw[bl];omega
def oE(n:Int):Bool:=!aw n (-1000000) 1000000
def mX(xs:List cR)(i:Nat)(d:cR):Bool:=!aw d.bd 0 3||(xs.take i).any (fun q=>q.bd==d.bd)
theorem gB{α β:Type}{f:α->β}{xs:List α}(h:(xs.length==4)=true):((↑(xs.map f).length:Int) != 4)=false:=by
 rw[bl,eq_of_beq h];rfl
theorem u3{α β:Type}{f:α->β}{xs:List α}(h:(xs.length==4)=false):((↑(xs.map f).length:Int) != 4)=true:=by
 rw[bl];have:=ne_of_beq_false h;simp only[bne_iff_ne,gy];omega
def fe(g:b9)(w:aP):Bool:=
 gP g w.queue&&(gP g w.cj&&(gP g w.bO&&(k0 w.cells&&((w.bL.length==4)&&((w.bU.length==4)&&((w.bx.length==4)&&(!anyI (nL w.bO) 0 w.bO&&(!(w.bL.any oE)&&!anyI (mX w.b8) 0 w.b8))))))))
variable{w:aP}
theorem aP.GY(h:w.sz<=8388608):w.cj.length<=8388608:=by simp only[aP.sz]at h;omega
theorem aP.DY(h:w.sz<=8388608):w.cells.length<=8388608:=by simp only[aP.sz]at h;omega
theorem aP.YV(h:w.sz<=8388608):w.bL.length<=8388608:=by simp only[aP.sz]at h;omega
theorem aP.QO(h:w.sz<=8388608):w.b8.length<=8388608:=by simp only[aP.sz]at h;omega
theorem ae3(w:aP)(ap:w.bO.length<=8388608):
  (anyI (nL w.bO) 0 w.bO=false/\c5 prog (ar f175 0) (px (w.queue.map aq.e) (w.cj.map aq.e) (w.bO.map aq.e) (w.cells.map Cell.e) (w.bL.map bh) (w.bU.map cD) (w.bx.map cD) (w.b8.map cR.e) 0) (.exit 0) (KG (w.queue.map aq.e) (w.cj.map aq.e) (w.bO.map aq.e) (w.cells.map Cell.e) (w.bL.map bh) (w.bU.map cD) (w.bx.map cD) (w.b8.map cR.e)))\/
  (anyI (nL w.bO) 0 w.bO=true/\c5 prog (ar f175 0) (px (w.queue.map aq.e) (w.cj.map aq.e) (w.bO.map aq.e) (w.cells.map Cell.e) (w.bL.map bh) (w.bU.map cD) (w.bx.map cD) (w.b8.map cR.e) 0) .ret (Cu false)):=
 su (P:=prog) (c:=(ar f175 0)) w.bO (nL w.bO) (fun i=>px (w.queue.map aq.e) (w.cj.map aq.e) (w.bO.map aq.e) (w.cells.map Cell.e) (w.bL.map bh) (w.bU.map cD) (w.bx.map cD) (w.b8.map cR.e) i) e0 (cH 0)
  (fun i a ak h=>by
   have hi:=aT ak;obtain⟨h1,U,rfl | ⟨j,b,rfl,av,ax⟩⟩:=Ve ak h
   ·exact aAV ⟨b5 (aT ak),bD,bK (aT ak),bE aq.e ak,h1,bD,bK (aT ak),bE aq.e ak,U,dQ (by omega),dj (aT ak) ap,aa⟩
   exact aAU ⟨b5 (aT ak),bD,bK (aT ak),bE aq.e ak,h1,bD,bK (aT ak),bE aq.e ak,U,dt (by omega),⟨by omega,by omega⟩,by omega,Fb av,Fa aq.e av,bD,bK (aT ak),bE aq.e ak,ax,dj (aT ak) ap,aa⟩)
  (fun i a ak h=>by
   have hi:=aT ak;rcases Vd ak h with h1 | ⟨h1,U⟩ | ⟨h1,U,j,b,rfl,av,ax⟩
   ·exact aAR ⟨b5 (aT ak),bD,bK (aT ak),bE aq.e ak,h1,aa⟩
   ·exact aAS ⟨b5 (aT ak),bD,bK (aT ak),bE aq.e ak,h1,bD,bK (aT ak),bE aq.e ak,U,aa⟩
   exact aAT ⟨b5 (aT ak),bD,bK (aT ak),bE aq.e ak,h1,bD,bK (aT ak),bE aq.e ak,U,dt (by omega),⟨by omega,by omega⟩,by omega,Fb av,Fa aq.e av,bD,bK (aT ak),bE aq.e ak,ax,aa⟩)
  (aAW ⟨dT,aa⟩)
theorem ae4(w:aP)(ap:w.b8.length<=8388608):
  (anyI (mX w.b8) 0 w.b8=false/\c5 prog (ar f175 2) (sw (w.queue.map aq.e) (w.cj.map aq.e) (w.bO.map aq.e) (w.cells.map Cell.e) (w.bL.map bh) (w.bU.map cD) (w.bx.map cD) (w.b8.map cR.e) 0) (.exit 4) Mu)\/
  (anyI (mX w.b8) 0 w.b8=true/\c5 prog (ar f175 2) (sw (w.queue.map aq.e) (w.cj.map aq.e) (w.bO.map aq.e) (w.cells.map Cell.e) (w.bL.map bh) (w.bU.map cD) (w.bx.map cD) (w.b8.map cR.e) 0) .ret (FD false)):=by
 have inner:∀(i:Nat) (a:cR),w.b8[i]?=some a->
   (((w.b8.take i).any (fun q=>q.bd==a.bd))=false/\c5 prog (ar f175 3) (tU (w.queue.map aq.e) (w.cj.map aq.e) (w.bO.map aq.e) (w.cells.map Cell.e) (w.bL.map bh) (w.bU.map cD) (w.bx.map cD) (w.b8.map cR.e) i 0) (.exit 6) (Mt (w.queue.map aq.e) (w.cj.map aq.e) (w.bO.map aq.e) (w.cells.map Cell.e) (w.bL.map bh) (w.bU.map cD) (w.bx.map cD) (w.b8.map cR.e) i))\/
   (((w.b8.take i).any (fun q=>q.bd==a.bd))=true/\c5 prog (ar f175 3) (tU (w.queue.map aq.e) (w.cj.map aq.e) (w.bO.map aq.e) (w.cells.map Cell.e) (w.bL.map bh) (w.bU.map cD) (w.bx.map cD) (w.b8.map cR.e) i 0) .ret (FE false)):=by
  intro i a ak;have hi:=aT ak;have hlen:(w.b8.take i).length=i:=by rw[ma];omega
  have hV:∀{k:Nat} {b:cR},(w.b8.take i)[k]?=some b->k<i/\w.b8[k]?=some b:=fun {k b} h=>by
   have hk:=aT h;rw[hlen]at hk;rw[gI,bm hk]at h;exact⟨hk,h⟩
  have l:=gN (P:=prog) (c:=(ar f175 3)) (w.b8.take i) (fun q=>q.bd==a.bd) (fun k=>tU (w.queue.map aq.e) (w.cj.map aq.e) (w.bO.map aq.e) (w.cells.map Cell.e) (w.bL.map bh) (w.bU.map cD) (w.bx.map cD) (w.b8.map cR.e) i k) (X:=fun _ _=>FE false) e0 (cH 6)
   (fun k b av h=>by
    obtain⟨hk,av⟩:=hV av;exact aAu ⟨dt (by omega),bD,bK (aT av),bE cR.e av,bD,bK (aT ak),bE cR.e ak,h,dj (aT av) ap,aa⟩)
   (fun k b av h=>by
    obtain⟨hk,av⟩:=hV av;exact aAt ⟨dt (by omega),bD,bK (aT av),bE cR.e av,bD,bK (aT ak),bE cR.e ak,h,aa⟩)
   (aAv ⟨dQ (by rw[hlen];omega),aa⟩)
  rcases l with⟨_,_,h1,U⟩ | ⟨_,_,_,_,_,_,h1,U⟩
  ·exact .inl ⟨h1,U⟩
  exact .inr ⟨h1,U⟩
 exact su (P:=prog) (c:=(ar f175 2)) w.b8 (mX w.b8) (fun i=>sw (w.queue.map aq.e) (w.cj.map aq.e) (w.bO.map aq.e) (w.cells.map Cell.e) (w.bL.map bh) (w.bU.map cD) (w.bx.map cD) (w.b8.map cR.e) i) e0 (cH 4)
  (fun i a ak h=>by
   simp only[mX,hG,ln]at h;rcases inner i a ak with⟨e,l⟩ | ⟨e,l⟩
   ·exact aAx ⟨b5 (aT ak),bD,bK (aT ak),bE cR.e ak,gb true h.1,rfl,l,dj (aT ak) ap,aa⟩
   rw[h.2]at e;cases e)
  (fun i a ak h=>by
   cases h1:aw a.bd 0 3 with
   | false=>exact aAs ⟨b5 (aT ak),bD,bK (aT ak),bE cR.e ak,gb false h1,rfl,aa⟩
   | true=>
    simp only[mX,h1,jC,kF]at h;rcases inner i a ak with⟨e,l⟩ | ⟨e,l⟩
    ·rw[h]at e;cases e
    exact aAw ⟨b5 (aT ak),bD,bK (aT ak),bE cR.e ak,gb true h1,rfl,l,aa⟩)
  (aew ⟨dT,aa⟩)
theorem Fc(g:b9)(w:aP)(ay:g.sz<=8388608)(hw:w.sz<=8388608):al 175 [.agg g.e,.agg w.e] [.one (B (fe g w))]:=by
 unfold fe;cases h1:gP g w.queue with
 | false=>exact aAK ⟨xD g _ _ h1 ay (aP.GO hw),rfl,aa⟩
 | true=>
 have c1:=xD g _ _ h1 ay (aP.GO hw);cases U:gP g w.cj with
 | false=>exact aAL ⟨c1,rfl,xD g _ _ U ay (aP.GY hw),rfl,aa⟩
 | true=>
 have c2:=xD g _ _ U ay (aP.GY hw);cases ax:gP g w.bO with
 | false=>exact aAM ⟨c1,rfl,c2,rfl,xD g _ _ ax ay (aP.yN hw),rfl,aa⟩
 | true=>
 have cM:=xD g _ _ ax ay (aP.yN hw);cases aF:k0 w.cells with
 | false=>exact aAN ⟨c1,rfl,c2,rfl,cM,rfl,Va aF (aP.DY hw),rfl,aa⟩
 | true=>
 have eK:=Va aF (aP.DY hw);cases aZ:(w.bL.length==4) with
 | false=>exact aAO ⟨c1,rfl,c2,rfl,cM,rfl,eK,rfl,u3 aZ,aa⟩
 | true=>
 cases bB:(w.bU.length==4) with
 | false=>exact aAP ⟨c1,rfl,c2,rfl,cM,rfl,eK,rfl,gB aZ,u3 bB,aa⟩
 | true=>
 cases bS:(w.bx.length==4) with
 | false=>exact aAQ ⟨c1,rfl,c2,rfl,cM,rfl,eK,rfl,gB aZ,gB bB,u3 bS,aa⟩
 | true=>
 have q4:w.bL.length=4:=eq_of_beq aZ;rcases ae3 w (aP.yN hw) with⟨dv,ku⟩ | ⟨dv,ku⟩
 case inr=>rw[dv];exact aAX ⟨c1,rfl,c2,rfl,cM,rfl,eK,rfl,gB aZ,gB bB,gB bS,ku,aa⟩
 have pg:=gN (P:=prog) (c:=(ar f175 1)) w.bL oE (fun i=>vB (w.queue.map aq.e) (w.cj.map aq.e) (w.bO.map aq.e) (w.cells.map Cell.e) (w.bL.map bh) (w.bU.map cD) (w.bx.map cD) (w.b8.map cR.e) i) (X:=fun _ _=>Mr false) e0 (cH 2)
  (fun i a ak h=>aAp ⟨dt (by have:=aT ak;omega),bD,bK (aT ak),bE bh ak,gb true (by simpa[oE]using h),rfl,dj (aT ak) (aP.YV hw),aa⟩)
  (fun i a ak h=>aAo ⟨dt (by have:=aT ak;omega),bD,bK (aT ak),bE bh ak,gb false (by simpa[oE]using h),rfl,aa⟩)
  (aAq ⟨dQ (by omega),aa⟩)
 rw[dv];rcases pg with⟨_,_,eu,pg⟩ | ⟨_,_,_,_,_,_,eu,pg⟩
 case inr=>rw[eu];exact aAr ⟨c1,rfl,c2,rfl,cM,rfl,eK,rfl,gB aZ,gB bB,gB bS,ku,pg,aa⟩
 rw[eu];rcases ae4 w (aP.QO hw) with⟨dW,wU⟩ | ⟨dW,wU⟩
 ·rw[dW];exact aey ⟨c1,rfl,c2,rfl,cM,rfl,eK,rfl,gB aZ,gB bB,gB bS,ku,pg,wU,aa⟩
 rw[dW];exact aex ⟨c1,rfl,c2,rfl,cM,rfl,eK,rfl,gB aZ,gB bB,gB bS,ku,pg,wU,aa⟩
end Go.Proofs.YtdchjefneblpgaaGreat
namespace Go.Proofs.YtdchjefneblpgaaGreat
open Go.Sx Go.RowKit Go.Proofs.Tryz
theorem ae5(w:aP)(ap:w.bO.length<=8388608):
  (anyI (nL w.bO) 0 w.bO=false/\c5 prog (ar f187 0) (pq (w.bO.map aq.e) 0 (w.queue.map aq.e) (w.cj.map aq.e) (w.bO.map aq.e) (w.cells.map Cell.e) (w.bL.map bh) (w.bU.map cD) (w.bx.map cD) (w.b8.map cR.e)) (.exit 0) (KD (w.queue.map aq.e) (w.cj.map aq.e) (w.bO.map aq.e) (w.cells.map Cell.e) (w.bL.map bh) (w.bU.map cD) (w.bx.map cD) (w.b8.map cR.e)))\/
  (anyI (nL w.bO) 0 w.bO=true/\c5 prog (ar f187 0) (pq (w.bO.map aq.e) 0 (w.queue.map aq.e) (w.cj.map aq.e) (w.bO.map aq.e) (w.cells.map Cell.e) (w.bL.map bh) (w.bU.map cD) (w.bx.map cD) (w.b8.map cR.e)) .ret (Cv false)):=
 su (P:=prog) (c:=(ar f187 0)) w.bO (nL w.bO) (fun i=>pq (w.bO.map aq.e) i (w.queue.map aq.e) (w.cj.map aq.e) (w.bO.map aq.e) (w.cells.map Cell.e) (w.bL.map bh) (w.bU.map cD) (w.bx.map cD) (w.b8.map cR.e)) e0 (cH 0)
  (fun i a ak h=>by
   have hi:=aT ak;obtain⟨h1,U,rfl | ⟨j,b,rfl,av,ax⟩⟩:=Ve ak h
   ·exact aeH ⟨b5 (aT ak),bD,bK (aT ak),bE aq.e ak,h1,U,dQ (by omega),dj (aT ak) ap,aa⟩
   exact aeG ⟨b5 (aT ak),bD,bK (aT ak),bE aq.e ak,h1,U,dt (by omega),⟨by omega,by omega⟩,by omega,Fb av,Fa aq.e av,ax,dj (aT ak) ap,aa⟩)
  (fun i a ak h=>by
   have hi:=aT ak;rcases Vd ak h with h1 | ⟨h1,U⟩ | ⟨h1,U,j,b,rfl,av,ax⟩
   ·exact aeD ⟨b5 (aT ak),bD,bK (aT ak),bE aq.e ak,h1,aa⟩
   ·exact aeE ⟨b5 (aT ak),bD,bK (aT ak),bE aq.e ak,h1,U,aa⟩
   exact aeF ⟨b5 (aT ak),bD,bK (aT ak),bE aq.e ak,h1,U,dt (by omega),⟨by omega,by omega⟩,by omega,Fb av,Fa aq.e av,ax,aa⟩)
  (aeI ⟨dT,aa⟩)
theorem Vf(xs:List cR)(i:Nat)(e:Int)(r:Bool)(h:(xs.take i).any (fun q=>q.bd==e)=r)(ap:xs.length<=8388608):al 281 [.one (.J 2 ((xs.map cR.e).take i)),.one (I e)] [.one (B r)]:=by
 have c:=VH (xs.take i) e (by rw[ma];omega);rw[pJ,h]at c;exact c
theorem agx(w:aP)(ap:w.b8.length<=8388608):
  (anyI (mX w.b8) 0 w.b8=false/\c5 prog (ar f187 2) (sx (w.b8.map cR.e) 0 (w.queue.map aq.e) (w.cj.map aq.e) (w.bO.map aq.e) (w.cells.map Cell.e) (w.bL.map bh) (w.bU.map cD) (w.bx.map cD) (w.b8.map cR.e)) (.exit 4) Mx)\/
  (anyI (mX w.b8) 0 w.b8=true/\c5 prog (ar f187 2) (sx (w.b8.map cR.e) 0 (w.queue.map aq.e) (w.cj.map aq.e) (w.bO.map aq.e) (w.cells.map Cell.e) (w.bL.map bh) (w.bU.map cD) (w.bx.map cD) (w.b8.map cR.e)) .ret (FF false)):=
 su (P:=prog) (c:=(ar f187 2)) w.b8 (mX w.b8) (fun i=>sx (w.b8.map cR.e) i (w.queue.map aq.e) (w.cj.map aq.e) (w.bO.map aq.e) (w.cells.map Cell.e) (w.bL.map bh) (w.bU.map cD) (w.bx.map cD) (w.b8.map cR.e)) e0 (cH 4)
  (fun i a ak h=>by
   have hi:=aT ak;simp only[mX,hG,ln]at h;exact aeT ⟨b5 (aT ak),bD,bK (aT ak),bE cR.e ak,hA true h.1,rfl,Int.le_refl 0,(bD:(0:Int)<=(i:Int)),(show (i:Int)<=_ by rw[bl];omega),Vf w.b8 i a.bd false h.2 ap,rfl,dj (aT ak) ap,aa⟩)
  (fun i a ak h=>by
   have hi:=aT ak;cases h1:aw a.bd 0 3 with
   | false=>exact aeR ⟨b5 (aT ak),bD,bK (aT ak),bE cR.e ak,hA false h1,rfl,aa⟩
   | true=>
    simp only[mX,h1,jC,kF]at h;exact aeS ⟨b5 (aT ak),bD,bK (aT ak),bE cR.e ak,hA true h1,rfl,Int.le_refl 0,(bD:(0:Int)<=(i:Int)),(show (i:Int)<=_ by rw[bl];omega),Vf w.b8 i a.bd true h ap,rfl,aa⟩)
  (aeU ⟨dT,aa⟩)
theorem Fe(g:b9)(w:aP)(ay:g.sz<=8388608)(hw:w.sz<=8388608):al 187 [.agg g.e,.agg w.e] [.one (B (fe g w))]:=by
 unfold fe;cases h1:gP g w.queue with
 | false=>exact aez ⟨xE g _ _ h1 ay (aP.GO hw),rfl,aa⟩
 | true=>
 have c1:=xE g _ _ h1 ay (aP.GO hw);cases U:gP g w.cj with
 | false=>exact aeA ⟨c1,rfl,xE g _ _ U ay (aP.GY hw),rfl,aa⟩
 | true=>
 have c2:=xE g _ _ U ay (aP.GY hw);cases ax:gP g w.bO with
 | false=>exact aeB ⟨c1,rfl,c2,rfl,xE g _ _ ax ay (aP.yN hw),rfl,aa⟩
 | true=>
 have cM:=xE g _ _ ax ay (aP.yN hw);cases aF:k0 w.cells with
 | false=>exact aeC ⟨c1,rfl,c2,rfl,cM,rfl,Vb aF (aP.DY hw),rfl,aa⟩
 | true=>
 have eK:=Vb aF (aP.DY hw);rcases ae5 w (aP.yN hw) with⟨dv,ku⟩ | ⟨dv,ku⟩
 case inr=>
  rw[dv];simp only[jC,Bool.false_and,Bool.and_false];exact aeJ ⟨c1,rfl,c2,rfl,cM,rfl,eK,rfl,ku,aa⟩
 cases aZ:(w.bL.length==4) with
 | false=>exact aeK ⟨c1,rfl,c2,rfl,cM,rfl,eK,rfl,ku,u3 aZ,aa⟩
 | true=>
 cases bB:(w.bU.length==4) with
 | false=>exact aeL ⟨c1,rfl,c2,rfl,cM,rfl,eK,rfl,ku,gB aZ,u3 bB,aa⟩
 | true=>
 cases bS:(w.bx.length==4) with
 | false=>exact aeM ⟨c1,rfl,c2,rfl,cM,rfl,eK,rfl,ku,gB aZ,gB bB,u3 bS,aa⟩
 | true=>
 have pg:=gN (P:=prog) (c:=(ar f187 1)) w.bL oE (fun i=>vC (w.queue.map aq.e) (w.cj.map aq.e) (w.bO.map aq.e) (w.cells.map Cell.e) (w.bL.map bh) (w.bU.map cD) (w.bx.map cD) (w.b8.map cR.e) i) (X:=fun _ _=>Mv false) e0 (cH 2)
  (fun i a ak h=>aeO ⟨b5 (aT ak),bD,bK (aT ak),bE bh ak,hA true (by simpa[oE]using h),rfl,dj (aT ak) (aP.YV hw),aa⟩)
  (fun i a ak h=>aeN ⟨b5 (aT ak),bD,bK (aT ak),bE bh ak,hA false (by simpa[oE]using h),rfl,aa⟩)
  (aeP ⟨dT,aa⟩)
 rw[dv];rcases pg with⟨_,_,eu,pg⟩ | ⟨_,_,_,_,_,_,eu,pg⟩
 case inr=>rw[eu];exact aeQ ⟨c1,rfl,c2,rfl,cM,rfl,eK,rfl,ku,gB aZ,gB bB,gB bS,pg,aa⟩
 rw[eu];rcases agx w (aP.QO hw) with⟨dW,wU⟩ | ⟨dW,wU⟩
 ·rw[dW];exact ad6 ⟨c1,rfl,c2,rfl,cM,rfl,eK,rfl,ku,gB aZ,gB bB,gB bS,pg,wU,aa⟩
 rw[dW];exact aeV ⟨c1,rfl,c2,rfl,cM,rfl,eK,rfl,ku,gB aZ,gB bB,gB bS,pg,wU,aa⟩
