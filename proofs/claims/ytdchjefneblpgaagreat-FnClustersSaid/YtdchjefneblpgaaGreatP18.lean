import Derived.Test.YtdchjefneblpgaaGreatP17
set_option linter.unusedVariables false
set_option linter.unusedSimpArgs false
namespace Go.Proofs.YtdchjefneblpgaaGreat
open Go.Sx Go.RowKit Go.Proofs.Tryz
def d'(g:bS)(cs:List Cell)(r:aB):List Cell×List aB×Bool:=match gj g r.op with | some x=>fo g cs r x | none=>(cs,[],false)
theorem Up(g:bS)(cs:List Cell)(r:aB)(av:g.sz<=8388608)(ag:cs.length<=8388608):aw 176 [.agg g.e,.one (.J 4 (cs.map Cell.e)),.agg r.e] [.one (.J 4 ((d' g cs r).1.map Cell.e)),.one (.J 5 ((d' g cs r).2.1.map aB.e)),.one (B (d' g cs r).2.2)]:=by
 unfold d';cases h:gj g r.op with
 | some x=>exact ag8 g cs r x av ag h
 | none=>exact ahw ⟨by simp<;>omega,by simp<;>omega,cM _ Cell.flat _,Em g r.op (⟨0,0,0,[]⟩,false) (by unfold uX;rw[h]) av,rfl,ad⟩
def pD(g:bS)(r:aB)(x:Node):Bool:=et g&&eL r&&x.kind==7&&decide (0<x.outs.length)&&!(gJ r.bq).2
def cw(g:bS)(r:aB):Bool:=match gj g r.op with | some x=>pD g r x | none=>false
theorem ag9(g:bS)(r:aB)(x:Node)(av:g.sz<=8388608)(aR:gj g r.op=some x):aw 177 [.agg g.e,.agg r.e] [.one (B (pD g r x))]:=by
 have c1:=Em g r.op (x,true) (by unfold uX;rw[aR]) av;have c2:=zd r.bq;have c6:=ze g av;rcases dp (et g) with aK | aK
 ·skip
  have iy:=tf r;rcases dp (eL r) with bp | bp
  ·skip
   rcases dp (x.kind==7) with b6 | b6
   ·skip
    rcases dp (decide ((↑(x.outs.map bb).length:Int)>0)) with dn | dn
    ·skip
     rw[show pD g r x=(!((gJ r.bq).2)) from by grind[pD]];exact afZ ⟨c1,c2,rfl,c6,aK,iy,bp,b6,dn,ad⟩
    skip
    rw[show pD g r x=false from by grind[pD]];exact ahr ⟨c1,c2,rfl,c6,aK,iy,bp,b6,dn,ad⟩
   skip
   rw[show pD g r x=false from by grind[pD]];exact ahs ⟨c1,c2,rfl,c6,aK,iy,bp,b6,ad⟩
  skip
  rw[show pD g r x=false from by grind[pD]];exact aht ⟨c1,c2,rfl,c6,aK,iy,bp,ad⟩
 skip
 rw[show pD g r x=false from by grind[pD]];exact ahu ⟨c1,c2,rfl,c6,aK,ad⟩
theorem Uq(g:bS)(r:aB)(av:g.sz<=8388608):aw 177 [.agg g.e,.agg r.e] [.one (B (cw g r))]:=by
 unfold cw;cases h:gj g r.op with
 | some x=>exact ag9 g r x av h
 | none=>exact ahv ⟨Em g r.op (⟨0,0,0,[]⟩,false) (by unfold uX;rw[h]) av,zd r.bq,rfl,ad⟩
theorem Lr{g:bS}(h:et g=true){op:Int}{x:Node}(aR:gj g op=some x):aL x=true:=by
 simp only[et,cm,fP]at h;unfold gj at aR;split at aR
 ·have:=BA h.2 op.toNat x aR;simp only[jd,fB,jx]at this;exact this.1.1
 cases aR
theorem aha{x:Node}(h:aL x=true):x.outs.length<=2:=by
 simp only[aL,cm,cr]at h;exact h.1.1.1.2
theorem ahb(kind:Int)(cs:List Cell)(x:Cell):(c5 kind cs x).1.length<=cs.length+1:=by
 have h1:=T5 cs x;have U:=T5 (cs.filter fun a=>!fN x a) x;have ax:=r9 (fun a=>!fN x a) cs;unfold c5;split
 ·split<;>simp<;>omega
 split
 ·unfold lb;split<;>simp<;>omega
 simp
theorem ahc{g:bS}(av:et g=true)(cs:List Cell)(r:aB):(d' g cs r).1.length<=cs.length+1/\(d' g cs r).2.1.length<=2:=by
 unfold d';cases h:gj g r.op with
 | none=>exact⟨by simp,by simp⟩
 | some x=>
  have aa:=aha (Lr av h);have aA:=ahb x.kind cs ⟨r.op,r.bq.bh,r.key,r.val⟩;have ai:∀s k v,(fv x s k v).length<=2:=fun s k v=>by simpa[fv]using aa
  simp only[fo];split
  ·split
   ·exact⟨by simp,by simp⟩
   split
   ·exact⟨aA,by simp⟩
   split
   ·refine⟨aA,?_⟩;cases (gJ r.bq).2 with
    | true=>exact ai _ _ _
    | false=>simp
   exact⟨aA,ai _ _ _⟩
  exact⟨by simp,by simp⟩
end Go.Proofs.YtdchjefneblpgaaGreat
namespace Go.Proofs.YtdchjefneblpgaaGreat
open Go.Sx Go.RowKit Go.Proofs.Tryz
def Ep(p:Cell×Cell):Bool:=decide (iK p.1 p.2>=0)
def kc(xs:List Cell):Bool:=!((xs.zip (xs.drop 1)).any Ep)
variable{xs:List Cell}
theorem B5{i:Nat}{p:Cell×Cell}(h:(xs.zip (xs.drop 1))[i]?=some p):xs[i]?=some p.1/\xs[i+1]?=some p.2:=by
 rw[List.getElem?_zip_eq_some]at h;obtain⟨h1,U⟩:=h;rw[ky,Nat.add_comm]at U;exact⟨h1,U⟩
theorem ahd(xs:List Cell)(ag:xs.length<=8388608):aw 266 [.one (.J 4 (xs.map Cell.e))] [.one (B (kc xs))]:=by
 have bM:∀i:Nat,(((i:Int)+1)-1).toNat=i:=fun i=>by omega
 have e1:∀i:Nat,(((i:Int)+1)).toNat=i+1:=fun i=>by omega
 have a6:(xs.zip (xs.drop 1)).length=xs.length-1:=by simp
 have l:=hM (P:=prog) (c:=(aq f266 0)) (xs.zip (xs.drop 1)) Ep (fun i=>uz (xs.map Cell.e) ((i:Int)+1)) (X:=fun _ _=>LY false) dZ (cC 0)
  (fun i a ae h=>by
   obtain⟨h1,U⟩:=B5 ae;have hi:=aP U;refine XU (uz (xs.map Cell.e)) (avg ⟨bU (by simp only[bA];omega),⟨by omega,by omega⟩,by omega,by simp only[bA];omega,by rw[bM,du,h1];rfl,by omega,by simp only[bA];omega,by rw[e1,du,U];rfl,EM a.1 a.2,h,⟨by omega,by omega⟩,ad⟩) (by omega))
  (fun i a ae h=>by
   obtain⟨h1,U⟩:=B5 ae;have hi:=aP U;exact avf ⟨bU (by simp only[bA];omega),⟨by omega,by omega⟩,by omega,by simp only[bA];omega,by rw[bM,du,h1];rfl,by omega,by simp only[bA];omega,by rw[e1,du,U];rfl,EM a.1 a.2,h,ad⟩)
  (avh ⟨bY (by rw[a6];simp only[bA];omega),ad⟩)
 unfold kc;rcases l with⟨_,_,h1,U⟩ | ⟨i,a,_,_,_,_,h1,U⟩
 ·rw[h1];exact avj ⟨U,ad⟩
 rw[h1];exact avi ⟨U,ad⟩
theorem TC{r:Bool}(h:kc xs=r)(ag:xs.length<=8388608):aw 266 [.one (.J 4 (xs.map Cell.e))] [.one (B r)]:=h▸ahd xs ag
theorem ahe(xs:List Cell)(ag:xs.length<=8388608):aw 280 [.one (.J 4 (xs.map Cell.e))] [.one (B (kc xs))]:=by
 have bM:∀i:Nat,(((i:Int)+1)-1).toNat=i:=fun i=>by omega
 have e1:∀i:Nat,(((i:Int)+1)).toNat=i+1:=fun i=>by omega
 have a6:(xs.zip (xs.drop 1)).length=xs.length-1:=by simp
 have l:=hM (P:=prog) (c:=(aq f280 0)) (xs.zip (xs.drop 1)) Ep (fun i=>uA (xs.map Cell.e) ((i:Int)+1)) (X:=fun _ _=>LZ false) dZ (cC 0)
  (fun i a ae h=>by
   obtain⟨h1,U⟩:=B5 ae;have hi:=aP U;refine XU (uA (xs.map Cell.e)) (avl ⟨bU (by simp only[bA];omega),⟨by omega,by omega⟩,by omega,by simp only[bA];omega,by rw[bM,du,h1];rfl,by omega,by simp only[bA];omega,by rw[e1,du,U];rfl,S0 a.1 a.2,h,⟨by omega,by omega⟩,ad⟩) (by omega))
  (fun i a ae h=>by
   obtain⟨h1,U⟩:=B5 ae;have hi:=aP U;exact avk ⟨bU (by simp only[bA];omega),⟨by omega,by omega⟩,by omega,by simp only[bA];omega,by rw[bM,du,h1];rfl,by omega,by simp only[bA];omega,by rw[e1,du,U];rfl,S0 a.1 a.2,h,ad⟩)
  (avm ⟨bY (by rw[a6];simp only[bA];omega),ad⟩)
 unfold kc;rcases l with⟨_,_,h1,U⟩ | ⟨i,a,_,_,_,_,h1,U⟩
 ·rw[h1];exact avo ⟨U,ad⟩
 rw[h1];exact avn ⟨U,ad⟩
theorem TD{r:Bool}(h:kc xs=r)(ag:xs.length<=8388608):aw 280 [.one (.J 4 (xs.map Cell.e))] [.one (B r)]:=h▸ahe xs ag
def jw(g:bS)(r:aB):Bool:=!eL r||decide (r.op>=(g.nodes.length:Int))
def fW(g:bS)(xs:List aB):Bool:=!(xs.any (jw g))
theorem ahf{r:aB}(h:eL r=true):0<=r.op:=by
 simp only[eL,cm,ar,cr]at h;omega
theorem ahg(g:bS)(xs:List aB)(ag:xs.length<=8388608):aw 192 [.agg g.e,.one (.J 5 (xs.map aB.e))] [.one (B (fW g xs))]:=by
 have l:=hM (P:=prog) (c:=(aq f192 0)) xs (jw g) (fun i=>uB (g.nodes.map Node.e) g.ap g.cap (xs.map aB.e) i) (X:=fun _ _=>EN false) dZ (cC 0)
  (fun i a ae h=>by
   simp only[jw,fB,jx]at h;have c:=tf a;rw[h.1]at c;exact auR ⟨bV (aP ae),bk,bm (aP ae),bl aB.e ae,c,rfl,bk,bm (aP ae),bl aB.e ae,by rw[bA];exact h.2,c3 (aP ae) ag,ad⟩)
  (fun i a ae h=>by
   have c:=tf a;cases aA:eL a with
   | false=>
    rw[aA]at c;exact auP ⟨bV (aP ae),bk,bm (aP ae),bl aB.e ae,c,rfl,ad⟩
   | true=>
    rw[aA]at c;simp only[jw,aA,jj,iU]at h;exact auQ ⟨bV (aP ae),bk,bm (aP ae),bl aB.e ae,c,rfl,bk,bm (aP ae),bl aB.e ae,by rw[bA];exact h,ad⟩)
  (auS ⟨dk,ad⟩)
 unfold fW;rcases l with⟨_,_,h1,U⟩ | ⟨i,a,_,_,_,_,h1,U⟩
 ·rw[h1];exact auU ⟨U,ad⟩
 rw[h1];exact auT ⟨U,ad⟩
theorem TE{g:bS}{r:aB}(h:eL r=true):(gj g r.op).isSome=!(decide (r.op>=(g.nodes.length:Int))):=by
 have bg:=ahf h;unfold gj;rw[bi bg];by_cases ak:r.op>=(g.nodes.length:Int)
 ·rw[bU ak,List.getElem?_eq_none (by omega)];rfl
 rw[bY ak,h4 (by omega)];rfl
theorem ahh(g:bS)(xs:List aB)(av:g.sz<=8388608)(ag:xs.length<=8388608):aw 189 [.agg g.e,.one (.J 5 (xs.map aB.e))] [.one (B (fW g xs))]:=by
 have l:=hM (P:=prog) (c:=(aq f189 0)) xs (jw g) (fun i=>uU (xs.map aB.e) i (g.nodes.map Node.e) g.ap g.cap) (X:=fun _ _=>EO false) dZ (cC 0)
  (fun i a ae h=>by
   simp only[jw,fB,jx]at h;have c:=zc a;rw[h.1]at c;exact auX ⟨bV (aP ae),bk,bm (aP ae),bl aB.e ae,c,rfl,T' g a.op true (by rw[TE h.1,h.2];rfl) av,rfl,c3 (aP ae) ag,ad⟩)
  (fun i a ae h=>by
   have c:=zc a;cases aA:eL a with
   | false=>
    rw[aA]at c;exact auV ⟨bV (aP ae),bk,bm (aP ae),bl aB.e ae,c,rfl,ad⟩
   | true=>
    rw[aA]at c;simp only[jw,aA,jj,iU]at h;exact auW ⟨bV (aP ae),bk,bm (aP ae),bl aB.e ae,c,rfl,T' g a.op false (by rw[TE aA,h];rfl) av,rfl,ad⟩)
  (auY ⟨dk,ad⟩)
 unfold fW;rcases l with⟨_,_,h1,U⟩ | ⟨i,a,_,_,_,_,h1,U⟩
 ·rw[h1];exact awq ⟨U,ad⟩
 rw[h1];exact awp ⟨U,ad⟩
theorem xl(g:bS)(xs:List aB)(r:Bool)(h:fW g xs=r)(_:g.sz<=8388608)(ag:xs.length<=8388608):aw 192 [.agg g.e,.one (.J 5 (xs.map aB.e))] [.one (B r)]:=h▸ahg g xs ag
theorem xm(g:bS)(xs:List aB)(r:Bool)(h:fW g xs=r)(av:g.sz<=8388608)(ag:xs.length<=8388608):aw 189 [.agg g.e,.one (.J 5 (xs.map aB.e))] [.one (B r)]:=h▸ahh g xs av ag
def jM(l:bD):Bool:=
 ar l.cap 1 4&&ar l.eM 0 l.cap&&ar l.back 0 l.cap&&(l.eM+l.back+l.queue.length==l.cap)&&ar l.eu 0 1000000000&&decide (0<=l.dv)&&(l.dv==l.eu-l.queue.length)&&!(l.queue.any fun r=>!eL r)
theorem ahi(xs:List aB)(ag:xs.length<=8388608):aw 282 [.one (.J 5 (xs.map aB.e))] [.one (B (!(xs.any fun r=>!eL r)))]:=by
 have l:=hM (P:=prog) (c:=(aq f282 0)) xs (fun r=>!eL r) (fun i=>wH (xs.map aB.e) i) (X:=fun _ _=>Lf false) dZ (cC 0)
  (fun i a ae h=>axA ⟨bV (aP ae),bk,bm (aP ae),bl aB.e ae,zc a,h,c3 (aP ae) ag,ad⟩)
  (fun i a ae h=>axz ⟨bV (aP ae),bk,bm (aP ae),bl aB.e ae,zc a,h,ad⟩)
  (axB ⟨dk,ad⟩)
 rcases l with⟨_,_,h1,U⟩ | ⟨i,a,_,_,_,_,h1,U⟩
 ·rw[h1];exact axD ⟨U,ad⟩
 rw[h1];exact axC ⟨U,ad⟩
theorem ahj(l:bD)(ag:l.sz<=8388608)(tZ:l.dv<=9223372036854775807):aw 188 [.agg l.e] [.one (B (jM l))]:=by
 have az:l.queue.length<=8388608:=ag;have c1:=kR l.cap 1 4;have c2:=kR l.eM 0 l.cap;have c6:=kR l.back 0 l.cap;have eG:=kR l.eu 0 1000000000;have iy:=ahi l.queue az;unfold jM;cases h1:ar l.cap 1 4 with
 | false=>rw[h1]at c1;exact axr ⟨c1,rfl,ad⟩
 | true=>
 cases U:ar l.eM 0 l.cap with
 | false=>rw[h1]at c1;rw[U]at c2;exact axs ⟨c1,rfl,c2,rfl,ad⟩
 | true=>
 cases ax:ar l.back 0 l.cap with
 | false=>rw[h1]at c1;rw[U]at c2;rw[ax]at c6;exact axt ⟨c1,rfl,c2,rfl,c6,rfl,ad⟩
 | true=>
 have cG:=h1;have cg:=U;have cE:=ax;simp only[ar,cr]at cG cg cE;rw[h1]at c1;rw[U]at c2;rw[ax]at c6;have mV:aG .i64 (l.eM+l.back):=⟨by omega,by omega⟩
 have mW:aG .i64 (l.eM+l.back+(↑(l.queue.map aB.e).length:Int)):=⟨by simp only[bA];omega,by simp only[bA];omega⟩
 cases aK:(l.eM+l.back+(l.queue.length:Int)==l.cap) with
 | false=>exact axu ⟨c1,rfl,c2,rfl,c6,rfl,mV,mW,by rw[bA];simpa using aK,ad⟩
 | true=>
 have v4:(l.eM+l.back+(↑(l.queue.map aB.e).length:Int) != l.cap)=false:=by rw[bA];simpa using aK
 cases a7:ar l.eu 0 1000000000 with
 | false=>rw[a7]at eG;exact axv ⟨c1,rfl,c2,rfl,c6,rfl,mV,mW,v4,eG,rfl,ad⟩
 | true=>
 have kb:=a7;simp only[ar,cr]at kb;rw[a7]at eG;by_cases bp:l.dv<0
 ·rw[bY (show ¬0<=l.dv by omega)];exact axw ⟨c1,rfl,c2,rfl,c6,rfl,mV,mW,v4,eG,rfl,bU bp,ad⟩
 rw[bU (show 0<=l.dv by omega)];have r4:aG .i64 (l.eu-l.dv):=⟨by omega,by omega⟩
 ·by_cases b6:l.dv=l.eu-(l.queue.length:Int)
  ·rw[show (l.dv==l.eu-(l.queue.length:Int))=true from by simpa using b6];exact axy ⟨c1,rfl,c2,rfl,c6,rfl,mV,mW,v4,eG,rfl,bY bp,r4,by rw[bA];simp;omega,iy,ad⟩
  rw[show (l.dv==l.eu-(l.queue.length:Int))=false from by simpa using b6];exact axx ⟨c1,rfl,c2,rfl,c6,rfl,mV,mW,v4,eG,rfl,bY bp,r4,by rw[bA];simp;omega,ad⟩
theorem Er(l:bD)(ag:l.sz<=8388608):aw 191 [.agg l.e] [.one (B (jM l))]:=by
 have az:l.queue.length<=8388608:=ag;have aW:=hM (P:=prog) (c:=(aq f191 0)) l.queue (fun r=>!eL r) (fun i=>wx l.cap (l.queue.map aB.e) l.eM l.back l.eu l.dv i) (X:=fun _ _=>Le false) dZ (cC 0)
  (fun i a ae h=>avR ⟨bV (aP ae),bk,bm (aP ae),bl aB.e ae,tf a,h,c3 (aP ae) az,ad⟩)
  (fun i a ae h=>avQ ⟨bV (aP ae),bk,bm (aP ae),bl aB.e ae,tf a,h,ad⟩)
  (avS ⟨dk,ad⟩)
 unfold jM;rcases aW with⟨_,_,bg,aW⟩ | ⟨i,a,_,_,_,_,bg,aW⟩
 case inr=>
  rw[bg,jj,Bool.and_false];exact avT ⟨aW,ad⟩
 rw[bg,pR,tA];have c1:=iJ l.cap 1 4;have c2:=iJ l.eM 0 l.cap;have c6:=iJ l.back 0 l.cap;have eG:=iJ l.eu 0 1000000000;cases h1:ar l.cap 1 4 with
 | false=>rw[h1]at c1;exact axq ⟨aW,c1,rfl,ad⟩
 | true=>
 cases U:ar l.eM 0 l.cap with
 | false=>rw[h1]at c1;rw[U]at c2;exact axp ⟨aW,c1,rfl,c2,rfl,ad⟩
 | true=>
 cases ax:ar l.back 0 l.cap with
 | false=>rw[h1]at c1;rw[U]at c2;rw[ax]at c6;exact avY ⟨aW,c1,rfl,c2,rfl,c6,rfl,ad⟩
 | true=>
 have cG:=h1;have cg:=U;have cE:=ax;simp only[ar,cr]at cG cg cE;rw[h1]at c1;rw[U]at c2;rw[ax]at c6;have mV:aG .i64 (l.eM+l.back):=⟨by omega,by omega⟩
 have mW:aG .i64 (l.eM+l.back+(↑(l.queue.map aB.e).length:Int)):=⟨by simp only[bA];omega,by simp only[bA];omega⟩
 cases aK:(l.eM+l.back+(l.queue.length:Int)==l.cap) with
 | false=>exact avX ⟨aW,c1,rfl,c2,rfl,c6,rfl,mV,mW,by rw[bA];exact aK,ad⟩
 | true=>
 have v4:(l.eM+l.back+(↑(l.queue.map aB.e).length:Int)==l.cap)=true:=by rw[bA];exact aK
 cases a7:ar l.eu 0 1000000000 with
 | false=>rw[a7]at eG;exact avW ⟨aW,c1,rfl,c2,rfl,c6,rfl,mV,mW,v4,eG,rfl,ad⟩
 | true=>
 have kb:=a7;simp only[ar,cr]at kb;rw[a7]at eG;have r4:aG .i64 (l.eu-(↑(l.queue.map aB.e).length:Int)):=⟨by simp only[bA];omega,by simp only[bA];omega⟩
 cases b6:(l.dv==l.eu-(l.queue.length:Int)) with
 | false=>
  rw[Bool.and_false];exact avV ⟨aW,c1,rfl,c2,rfl,c6,rfl,mV,mW,v4,eG,rfl,r4,by rw[bA];exact b6,ad⟩
 | true=>
  rw[tA];exact avU ⟨aW,c1,rfl,c2,rfl,c6,rfl,mV,mW,v4,eG,rfl,r4,by rw[bA];exact b6,ad⟩
end Go.Proofs.YtdchjefneblpgaaGreat
namespace Go.Proofs.YtdchjefneblpgaaGreat
open Go.Sx Go.RowKit Go.Proofs.Tryz
def lz(xs:List aB)(i:Nat)(r:aB):Bool:=
 r.op != 0||r.bq.di != 0||(match i with | 0=>false | j+1=>match xs[j]? with | some q=>decide (q.bq.bh>r.bq.bh) | none=>false)
theorem TF{xs:List aB}{i:Nat}{a:aB}(ae:xs[i]?=some a)(h:lz xs i a=true):
  (a.op != 0)=true\/((a.op != 0)=false/\(a.bq.di != 0)=true)\/((a.op != 0)=false/\(a.bq.di != 0)=false/\∃j b,i=j+1/\xs[j]?=some b/\decide (b.bq.bh>a.bq.bh)=true):=by
 unfold lz at h;cases h1:(a.op != 0) with
 | true=>exact .inl rfl
 | false=>
 cases U:(a.bq.di != 0) with
 | true=>exact .inr (.inl ⟨rfl,rfl⟩)
 | false=>
 rw[h1,U,iU,iU]at h;cases i with
 | zero=>cases h
 | succ j=>
  have bd:j<xs.length:=by have:=aP ae;omega
  obtain⟨b,aj⟩:=db bd;simp only[aj]at h;exact .inr (.inr ⟨rfl,rfl,j,b,rfl,aj,h⟩)
theorem TG{xs:List aB}{i:Nat}{a:aB}(ae:xs[i]?=some a)(h:lz xs i a=false):
  (a.op != 0)=false/\(a.bq.di != 0)=false/\(i=0\/∃j b,i=j+1/\xs[j]?=some b/\decide (b.bq.bh>a.bq.bh)=false):=by
 unfold lz at h;rw[fB,fB]at h;obtain⟨⟨h1,U⟩,h⟩:=h;refine⟨h1,U,?_⟩;cases i with
 | zero=>exact .inl rfl
 | succ j=>
  have bd:j<xs.length:=by have:=aP ae;omega
  obtain⟨b,aj⟩:=db bd;simp only[aj]at h;exact .inr ⟨j,b,rfl,aj,h⟩
theorem Es{α:Type}(f:α->List D){xs:List α}{j:Nat}{b:α}(h:xs[j]?=some b):(xs.map f)[(((j+1:Nat):Int)-1).toNat]?=some (f b):=by
 rw[show (((j+1:Nat):Int)-1)=(j:Int) by omega];exact bl f h
theorem Et{α β:Type}{f:α->β}{xs:List α}{j:Nat}{b:α}(h:xs[j]?=some b):(((j+1:Nat):Int)-1)<(↑(xs.map f).length:Int):=by
 have:=aP h;rw[bA];omega
def nU(n:Int):Bool:=!ar n (-1000000) 1000000
def l'(xs:List cx)(i:Nat)(d:cx):Bool:=!ar d.bh 0 3||(xs.take i).any (fun q=>q.bh==d.bh)
theorem fL{α β:Type}{f:α->β}{xs:List α}(h:(xs.length==4)=true):((↑(xs.map f).length:Int) != 4)=false:=by
 rw[bA,eq_of_beq h];rfl
theorem uj{α β:Type}{f:α->β}{xs:List α}(h:(xs.length==4)=false):((↑(xs.map f).length:Int) != 4)=true:=by
 rw[bA];have:=ne_of_beq_false h;simp only[bne_iff_ne,hc];omega
def e7(g:bS)(w:aQ):Bool:=
 fW g w.queue&&(fW g w.b3&&(fW g w.bK&&(kc w.cells&&((w.bG.length==4)&&((w.bN.length==4)&&((w.bB.length==4)&&(!anyI (lz w.bK) 0 w.bK&&(!(w.bG.any nU)&&!anyI (l' w.b') 0 w.b'))))))))
variable{w:aQ}
theorem aQ.Ge(h:w.sz<=8388608):w.b3.length<=8388608:=by simp only[aQ.sz]at h;omega
theorem aQ.Dn(h:w.sz<=8388608):w.cells.length<=8388608:=by simp only[aQ.sz]at h;omega
theorem aQ.XR(h:w.sz<=8388608):w.bG.length<=8388608:=by simp only[aQ.sz]at h;omega
theorem aQ.Pw(h:w.sz<=8388608):w.b'.length<=8388608:=by simp only[aQ.sz]at h;omega
theorem ahk(w:aQ)(ag:w.bK.length<=8388608):
  (anyI (lz w.bK) 0 w.bK=false/\c' prog (aq f175 0) (oL (w.queue.map aB.e) (w.b3.map aB.e) (w.bK.map aB.e) (w.cells.map Cell.e) (w.bG.map bb) (w.bN.map cy) (w.bB.map cy) (w.b'.map cx.e) 0) (.exit 0) (JH (w.queue.map aB.e) (w.b3.map aB.e) (w.bK.map aB.e) (w.cells.map Cell.e) (w.bG.map bb) (w.bN.map cy) (w.bB.map cy) (w.b'.map cx.e)))\/
  (anyI (lz w.bK) 0 w.bK=true/\c' prog (aq f175 0) (oL (w.queue.map aB.e) (w.b3.map aB.e) (w.bK.map aB.e) (w.cells.map Cell.e) (w.bG.map bb) (w.bN.map cy) (w.bB.map cy) (w.b'.map cx.e) 0) .ret (Ba false)):=
 ux (P:=prog) (c:=(aq f175 0)) w.bK (lz w.bK) (fun i=>oL (w.queue.map aB.e) (w.b3.map aB.e) (w.bK.map aB.e) (w.cells.map Cell.e) (w.bG.map bb) (w.bN.map cy) (w.bB.map cy) (w.b'.map cx.e) i) dZ (cC 0)
  (fun i a ae h=>by
   have hi:=aP ae;obtain⟨h1,U,rfl | ⟨j,b,rfl,aj,ax⟩⟩:=TG ae h
   ·exact awC ⟨bV (aP ae),bk,bm (aP ae),bl aB.e ae,h1,bk,bm (aP ae),bl aB.e ae,U,bY (by omega),c3 (aP ae) ag,ad⟩
   exact awB ⟨bV (aP ae),bk,bm (aP ae),bl aB.e ae,h1,bk,bm (aP ae),bl aB.e ae,U,bU (by omega),⟨by omega,by omega⟩,by omega,Et aj,Es aB.e aj,bk,bm (aP ae),bl aB.e ae,ax,c3 (aP ae) ag,ad⟩)
  (fun i a ae h=>by
   have hi:=aP ae;rcases TF ae h with h1 | ⟨h1,U⟩ | ⟨h1,U,j,b,rfl,aj,ax⟩
   ·exact awy ⟨bV (aP ae),bk,bm (aP ae),bl aB.e ae,h1,ad⟩
   ·exact awz ⟨bV (aP ae),bk,bm (aP ae),bl aB.e ae,h1,bk,bm (aP ae),bl aB.e ae,U,ad⟩
   exact awA ⟨bV (aP ae),bk,bm (aP ae),bl aB.e ae,h1,bk,bm (aP ae),bl aB.e ae,U,bU (by omega),⟨by omega,by omega⟩,by omega,Et aj,Es aB.e aj,bk,bm (aP ae),bl aB.e ae,ax,ad⟩)
  (awD ⟨dk,ad⟩)
theorem ahl(w:aQ)(ag:w.b'.length<=8388608):
  (anyI (l' w.b') 0 w.b'=false/\c' prog (aq f175 2) (rN (w.queue.map aB.e) (w.b3.map aB.e) (w.bK.map aB.e) (w.cells.map Cell.e) (w.bG.map bb) (w.bN.map cy) (w.bB.map cy) (w.b'.map cx.e) 0) (.exit 4) L3)\/
  (anyI (l' w.b') 0 w.b'=true/\c' prog (aq f175 2) (rN (w.queue.map aB.e) (w.b3.map aB.e) (w.bK.map aB.e) (w.cells.map Cell.e) (w.bG.map bb) (w.bN.map cy) (w.bB.map cy) (w.b'.map cx.e) 0) .ret (EP false)):=by
 have inner:∀(i:Nat) (a:cx),w.b'[i]?=some a->
   (((w.b'.take i).any (fun q=>q.bh==a.bh))=false/\c' prog (aq f175 3) (td (w.queue.map aB.e) (w.b3.map aB.e) (w.bK.map aB.e) (w.cells.map Cell.e) (w.bG.map bb) (w.bN.map cy) (w.bB.map cy) (w.b'.map cx.e) i 0) (.exit 6) (L2 (w.queue.map aB.e) (w.b3.map aB.e) (w.bK.map aB.e) (w.cells.map Cell.e) (w.bG.map bb) (w.bN.map cy) (w.bB.map cy) (w.b'.map cx.e) i))\/
   (((w.b'.take i).any (fun q=>q.bh==a.bh))=true/\c' prog (aq f175 3) (td (w.queue.map aB.e) (w.b3.map aB.e) (w.bK.map aB.e) (w.cells.map Cell.e) (w.bG.map bb) (w.bN.map cy) (w.bB.map cy) (w.b'.map cx.e) i 0) .ret (EQ false)):=by
  intro i a ae;have hi:=aP ae;have hlen:(w.b'.take i).length=i:=by rw[qW];omega
  have ha:∀{k:Nat} {b:cx},(w.b'.take i)[k]?=some b->k<i/\w.b'[k]?=some b:=fun {k b} h=>by
   have hk:=aP h;rw[hlen]at hk;rw[kX,bi hk]at h;exact⟨hk,h⟩
  have l:=hM (P:=prog) (c:=(aq f175 3)) (w.b'.take i) (fun q=>q.bh==a.bh) (fun k=>td (w.queue.map aB.e) (w.b3.map aB.e) (w.bK.map aB.e) (w.cells.map Cell.e) (w.bG.map bb) (w.bN.map cy) (w.bB.map cy) (w.b'.map cx.e) i k) (X:=fun _ _=>EQ false) dZ (cC 6)
   (fun k b aj h=>by
    obtain⟨hk,aj⟩:=ha aj;exact awL ⟨bU (by omega),bk,bm (aP aj),bl cx.e aj,bk,bm (aP ae),bl cx.e ae,h,c3 (aP aj) ag,ad⟩)
   (fun k b aj h=>by
    obtain⟨hk,aj⟩:=ha aj;exact awK ⟨bU (by omega),bk,bm (aP aj),bl cx.e aj,bk,bm (aP ae),bl cx.e ae,h,ad⟩)
   (awM ⟨bY (by rw[hlen];omega),ad⟩)
  rcases l with⟨_,_,h1,U⟩ | ⟨_,_,_,_,_,_,h1,U⟩
  ·exact .inl ⟨h1,U⟩
  exact .inr ⟨h1,U⟩
 exact ux (P:=prog) (c:=(aq f175 2)) w.b' (l' w.b') (fun i=>rN (w.queue.map aB.e) (w.b3.map aB.e) (w.bK.map aB.e) (w.cells.map Cell.e) (w.bG.map bb) (w.bN.map cy) (w.bB.map cy) (w.b'.map cx.e) i) dZ (cC 4)
  (fun i a ae h=>by
   simp only[l',fB,jx]at h;rcases inner i a ae with⟨e,l⟩ | ⟨e,l⟩
   ·exact awO ⟨bV (aP ae),bk,bm (aP ae),bl cx.e ae,fD true h.1,rfl,l,c3 (aP ae) ag,ad⟩
   rw[h.2]at e;cases e)
  (fun i a ae h=>by
   cases h1:ar a.bh 0 3 with
   | false=>exact awJ ⟨bV (aP ae),bk,bm (aP ae),bl cx.e ae,fD false h1,rfl,ad⟩
   | true=>
    simp only[l',h1,jj,iU]at h;rcases inner i a ae with⟨e,l⟩ | ⟨e,l⟩
    ·rw[h]at e;cases e
    exact awN ⟨bV (aP ae),bk,bm (aP ae),bl cx.e ae,fD true h1,rfl,l,ad⟩)
  (avZ ⟨dk,ad⟩)
theorem Eu(g:bS)(w:aQ)(av:g.sz<=8388608)(hw:w.sz<=8388608):aw 175 [.agg g.e,.agg w.e] [.one (B (e7 g w))]:=by
 unfold e7;cases h1:fW g w.queue with
 | false=>exact awr ⟨xl g _ _ h1 av (aQ.F7 hw),rfl,ad⟩
 | true=>
 have c1:=xl g _ _ h1 av (aQ.F7 hw);cases U:fW g w.b3 with
 | false=>exact aws ⟨c1,rfl,xl g _ _ U av (aQ.Ge hw),rfl,ad⟩
 | true=>
 have c2:=xl g _ _ U av (aQ.Ge hw);cases ax:fW g w.bK with
 | false=>exact awt ⟨c1,rfl,c2,rfl,xl g _ _ ax av (aQ.yC hw),rfl,ad⟩
 | true=>
 have c6:=xl g _ _ ax av (aQ.yC hw);cases aK:kc w.cells with
 | false=>exact awu ⟨c1,rfl,c2,rfl,c6,rfl,TC aK (aQ.Dn hw),rfl,ad⟩
 | true=>
 have eG:=TC aK (aQ.Dn hw);cases a7:(w.bG.length==4) with
 | false=>exact awv ⟨c1,rfl,c2,rfl,c6,rfl,eG,rfl,uj a7,ad⟩
 | true=>
 cases bp:(w.bN.length==4) with
 | false=>exact aww ⟨c1,rfl,c2,rfl,c6,rfl,eG,rfl,fL a7,uj bp,ad⟩
 | true=>
 cases b6:(w.bB.length==4) with
 | false=>exact awx ⟨c1,rfl,c2,rfl,c6,rfl,eG,rfl,fL a7,fL bp,uj b6,ad⟩
 | true=>
 have sP:w.bG.length=4:=eq_of_beq a7;rcases ahk w (aQ.yC hw) with⟨dn,jH⟩ | ⟨dn,jH⟩
 case inr=>rw[dn];exact awE ⟨c1,rfl,c2,rfl,c6,rfl,eG,rfl,fL a7,fL bp,fL b6,jH,ad⟩
 have oy:=hM (P:=prog) (c:=(aq f175 1)) w.bG nU (fun i=>uV (w.queue.map aB.e) (w.b3.map aB.e) (w.bK.map aB.e) (w.cells.map Cell.e) (w.bG.map bb) (w.bN.map cy) (w.bB.map cy) (w.b'.map cx.e) i) (X:=fun _ _=>L0 false) dZ (cC 2)
  (fun i a ae h=>awG ⟨bU (by have:=aP ae;omega),bk,bm (aP ae),bl bb ae,fD true (by simpa[nU]using h),rfl,c3 (aP ae) (aQ.XR hw),ad⟩)
  (fun i a ae h=>awF ⟨bU (by have:=aP ae;omega),bk,bm (aP ae),bl bb ae,fD false (by simpa[nU]using h),rfl,ad⟩)
  (awH ⟨bY (by omega),ad⟩)
 rw[dn];rcases oy with⟨_,_,eF,oy⟩ | ⟨_,_,_,_,_,_,eF,oy⟩
 case inr=>rw[eF];exact awI ⟨c1,rfl,c2,rfl,c6,rfl,eG,rfl,fL a7,fL bp,fL b6,jH,oy,ad⟩
 rw[eF];rcases ahl w (aQ.Pw hw) with⟨dY,wm⟩ | ⟨dY,wm⟩
 ·rw[dY];exact av1 ⟨c1,rfl,c2,rfl,c6,rfl,eG,rfl,fL a7,fL bp,fL b6,jH,oy,wm,ad⟩
 rw[dY];exact av0 ⟨c1,rfl,c2,rfl,c6,rfl,eG,rfl,fL a7,fL bp,fL b6,jH,oy,wm,ad⟩
end Go.Proofs.YtdchjefneblpgaaGreat
namespace Go.Proofs.YtdchjefneblpgaaGreat
open Go.Sx Go.RowKit Go.Proofs.Tryz
theorem ahm(w:aQ)(ag:w.bK.length<=8388608):
  (anyI (lz w.bK) 0 w.bK=false/\c' prog (aq f187 0) (oG (w.bK.map aB.e) 0 (w.queue.map aB.e) (w.b3.map aB.e) (w.bK.map aB.e) (w.cells.map Cell.e) (w.bG.map bb) (w.bN.map cy) (w.bB.map cy) (w.b'.map cx.e)) (.exit 0) (JG (w.queue.map aB.e) (w.b3.map aB.e) (w.bK.map aB.e) (w.cells.map Cell.e) (w.bG.map bb) (w.bN.map cy) (w.bB.map cy) (w.b'.map cx.e)))\/
  (anyI (lz w.bK) 0 w.bK=true/\c' prog (aq f187 0) (oG (w.bK.map aB.e) 0 (w.queue.map aB.e) (w.b3.map aB.e) (w.bK.map aB.e) (w.cells.map Cell.e) (w.bG.map bb) (w.bN.map cy) (w.bB.map cy) (w.b'.map cx.e)) .ret (Bb false)):=
 ux (P:=prog) (c:=(aq f187 0)) w.bK (lz w.bK) (fun i=>oG (w.bK.map aB.e) i (w.queue.map aB.e) (w.b3.map aB.e) (w.bK.map aB.e) (w.cells.map Cell.e) (w.bG.map bb) (w.bN.map cy) (w.bB.map cy) (w.b'.map cx.e)) dZ (cC 0)
  (fun i a ae h=>by
   have hi:=aP ae;obtain⟨h1,U,rfl | ⟨j,b,rfl,aj,ax⟩⟩:=TG ae h
   ·exact awa ⟨bV (aP ae),bk,bm (aP ae),bl aB.e ae,h1,U,bY (by omega),c3 (aP ae) ag,ad⟩
   exact av9 ⟨bV (aP ae),bk,bm (aP ae),bl aB.e ae,h1,U,bU (by omega),⟨by omega,by omega⟩,by omega,Et aj,Es aB.e aj,ax,c3 (aP ae) ag,ad⟩)
  (fun i a ae h=>by
   have hi:=aP ae;rcases TF ae h with h1 | ⟨h1,U⟩ | ⟨h1,U,j,b,rfl,aj,ax⟩
   ·exact av6 ⟨bV (aP ae),bk,bm (aP ae),bl aB.e ae,h1,ad⟩
   ·exact av7 ⟨bV (aP ae),bk,bm (aP ae),bl aB.e ae,h1,U,ad⟩
   exact av8 ⟨bV (aP ae),bk,bm (aP ae),bl aB.e ae,h1,U,bU (by omega),⟨by omega,by omega⟩,by omega,Et aj,Es aB.e aj,ax,ad⟩)
  (awb ⟨dk,ad⟩)
theorem TH(xs:List cx)(i:Nat)(e:Int)(r:Bool)(h:(xs.take i).any (fun q=>q.bh==e)=r)(ag:xs.length<=8388608):aw 281 [.one (.J 2 ((xs.map cx.e).take i)),.one (I e)] [.one (B r)]:=by
 have c:=au7 (xs.take i) e (by rw[qW];omega);rw[qX,h]at c;exact c
theorem ahn(w:aQ)(ag:w.b'.length<=8388608):
  (anyI (l' w.b') 0 w.b'=false/\c' prog (aq f187 2) (rO (w.b'.map cx.e) 0 (w.queue.map aB.e) (w.b3.map aB.e) (w.bK.map aB.e) (w.cells.map Cell.e) (w.bG.map bb) (w.bN.map cy) (w.bB.map cy) (w.b'.map cx.e)) (.exit 4) Ld)\/
  (anyI (l' w.b') 0 w.b'=true/\c' prog (aq f187 2) (rO (w.b'.map cx.e) 0 (w.queue.map aB.e) (w.b3.map aB.e) (w.bK.map aB.e) (w.cells.map Cell.e) (w.bG.map bb) (w.bN.map cy) (w.bB.map cy) (w.b'.map cx.e)) .ret (ER false)):=
 ux (P:=prog) (c:=(aq f187 2)) w.b' (l' w.b') (fun i=>rO (w.b'.map cx.e) i (w.queue.map aB.e) (w.b3.map aB.e) (w.bK.map aB.e) (w.cells.map Cell.e) (w.bG.map bb) (w.bN.map cy) (w.bB.map cy) (w.b'.map cx.e)) dZ (cC 4)
  (fun i a ae h=>by
   have hi:=aP ae;simp only[l',fB,jx]at h;exact awm ⟨bV (aP ae),bk,bm (aP ae),bl cx.e ae,jL true h.1,rfl,Int.le_refl 0,(bk:(0:Int)<=(i:Int)),(show (i:Int)<=_ by rw[bA];omega),TH w.b' i a.bh false h.2 ag,rfl,c3 (aP ae) ag,ad⟩)
  (fun i a ae h=>by
   have hi:=aP ae;cases h1:ar a.bh 0 3 with
   | false=>exact awk ⟨bV (aP ae),bk,bm (aP ae),bl cx.e ae,jL false h1,rfl,ad⟩
   | true=>
    simp only[l',h1,jj,iU]at h;exact awl ⟨bV (aP ae),bk,bm (aP ae),bl cx.e ae,jL true h1,rfl,Int.le_refl 0,(bk:(0:Int)<=(i:Int)),(show (i:Int)<=_ by rw[bA];omega),TH w.b' i a.bh true h ag,rfl,ad⟩)
  (awn ⟨dk,ad⟩)
theorem TI(g:bS)(w:aQ)(av:g.sz<=8388608)(hw:w.sz<=8388608):aw 187 [.agg g.e,.agg w.e] [.one (B (e7 g w))]:=by
 unfold e7;cases h1:fW g w.queue with
 | false=>exact av2 ⟨xm g _ _ h1 av (aQ.F7 hw),rfl,ad⟩
 | true=>
 have c1:=xm g _ _ h1 av (aQ.F7 hw);cases U:fW g w.b3 with
 | false=>exact av3 ⟨c1,rfl,xm g _ _ U av (aQ.Ge hw),rfl,ad⟩
 | true=>
 have c2:=xm g _ _ U av (aQ.Ge hw);cases ax:fW g w.bK with
 | false=>exact av4 ⟨c1,rfl,c2,rfl,xm g _ _ ax av (aQ.yC hw),rfl,ad⟩
 | true=>
 have c6:=xm g _ _ ax av (aQ.yC hw);cases aK:kc w.cells with
 | false=>exact av5 ⟨c1,rfl,c2,rfl,c6,rfl,TD aK (aQ.Dn hw),rfl,ad⟩
 | true=>
 have eG:=TD aK (aQ.Dn hw);rcases ahm w (aQ.yC hw) with⟨dn,jH⟩ | ⟨dn,jH⟩
 case inr=>
  rw[dn];simp only[jj,Bool.false_and,Bool.and_false];exact awc ⟨c1,rfl,c2,rfl,c6,rfl,eG,rfl,jH,ad⟩
 cases a7:(w.bG.length==4) with
 | false=>exact awd ⟨c1,rfl,c2,rfl,c6,rfl,eG,rfl,jH,uj a7,ad⟩
 | true=>
 cases bp:(w.bN.length==4) with
 | false=>exact awe ⟨c1,rfl,c2,rfl,c6,rfl,eG,rfl,jH,fL a7,uj bp,ad⟩
 | true=>
 cases b6:(w.bB.length==4) with
 | false=>exact awf ⟨c1,rfl,c2,rfl,c6,rfl,eG,rfl,jH,fL a7,fL bp,uj b6,ad⟩
 | true=>
 have oy:=hM (P:=prog) (c:=(aq f187 1)) w.bG nU (fun i=>uW (w.queue.map aB.e) (w.b3.map aB.e) (w.bK.map aB.e) (w.cells.map Cell.e) (w.bG.map bb) (w.bN.map cy) (w.bB.map cy) (w.b'.map cx.e) i) (X:=fun _ _=>Lb false) dZ (cC 2)
  (fun i a ae h=>awh ⟨bV (aP ae),bk,bm (aP ae),bl bb ae,jL true (by simpa[nU]using h),rfl,c3 (aP ae) (aQ.XR hw),ad⟩)
  (fun i a ae h=>awg ⟨bV (aP ae),bk,bm (aP ae),bl bb ae,jL false (by simpa[nU]using h),rfl,ad⟩)
  (awi ⟨dk,ad⟩)
 rw[dn];rcases oy with⟨_,_,eF,oy⟩ | ⟨_,_,_,_,_,_,eF,oy⟩
 case inr=>rw[eF];exact awj ⟨c1,rfl,c2,rfl,c6,rfl,eG,rfl,jH,fL a7,fL bp,fL b6,oy,ad⟩
 rw[eF];rcases ahn w (aQ.Pw hw) with⟨dY,wm⟩ | ⟨dY,wm⟩
 ·rw[dY];exact avP ⟨c1,rfl,c2,rfl,c6,rfl,eG,rfl,jH,fL a7,fL bp,fL b6,oy,wm,ad⟩
 rw[dY];exact awo ⟨c1,rfl,c2,rfl,c6,rfl,eG,rfl,jH,fL a7,fL bp,fL b6,oy,wm,ad⟩
end Go.Proofs.YtdchjefneblpgaaGreat
namespace Go.Proofs.YtdchjefneblpgaaGreat
open Go.Sx Go.RowKit Go.Proofs.Tryz
variable{c:a8}
theorem p0(h:c.sz<=8388608):c.aC.sz<=8388608:=by simp only[a8.sz]at h;omega
theorem TJ(h:c.sz<=8388608):c.tokens.length<=8388608:=by simp only[a8.sz,eZ]at h;omega
theorem Ev(h:c.sz<=8388608):c.news.length<=8388608:=by simp only[a8.sz,eZ]at h;omega
def jN(g:bS)(i:Nat)(l:bD):Bool:=
 !jM l||((l.cap != g.cap)||(!fW g l.queue||((i:Int).tdiv g.ap==(i:Int).tmod g.ap&&decide ((l.queue.length:Int)>0))))
def kS(n:Int)(t:bT):Bool:=!ar t.place 0 (n-1)||((!t.going&&t.place != 0)||!ar t.sum (-1000000) 1000000)
def kU(n:Int)(x:cb):Bool:=!ar x.dest 0 (n-1)||!ar x.bh 0 3
def cK(c:a8):Bool:=
 et c.aC&&(((c.ap.length:Int)==c.aC.ap)&&(((c.bR.length:Int)==c.aC.ap*c.aC.ap)&&((c.tokens.length==4)&&(!(c.ap.any fun w=>!e7 c.aC w)&&(!(anyI (jN c.aC) 0 c.bR)&&(!(c.tokens.any (kS c.aC.ap))&&!(c.news.any (kU c.aC.ap))))))))
theorem je{g:bS}(h:et g=true):1<=g.ap/\g.ap<=4:=by
 simp only[et,cm,ar,cr]at h;omega
theorem zf(i:Nat)(n:Int)(hi:i<=8388608)(aR:1<=n):aG .i64 ((i:Int).tdiv n):=by
 have h1:0<=(i:Int).tdiv n:=Int.tdiv_nonneg (by omega) (by omega);have U:(i:Int).tdiv n<=(i:Int):=Int.tdiv_le_self _ (by omega);exact⟨by omega,by omega⟩
theorem aho(h:c.wf){l:bD}(ag:l∈c.bR):l.dv<=9223372036854775807:=by
 have:=(a8.Jq h ag).PG;simp only[aG]at this;exact this.2
def hS(c:a8):Prop:=∀l∈c.bR,l.dv<=9223372036854775807
theorem hS.of(h:c.wf):hS c:=fun _ ag=>aho h ag
theorem ahp(c:a8)(ak:c.sz<=8388608)(aR:(c.ap.length:Int)=c.aC.ap):
  ((c.ap.any fun w=>!e7 c.aC w)=false/\c' prog (aq f56 0) (s4 (c.aC.nodes.map Node.e) c.aC.ap c.aC.cap (c.ap.map aQ.e) (c.bR.map bD.e) (c.tokens.map bT.e) (c.news.map cb.e) 0) (.exit 0) (JI (c.aC.nodes.map Node.e) c.aC.ap c.aC.cap (c.ap.map aQ.e) (c.bR.map bD.e) (c.tokens.map bT.e) (c.news.map cb.e)))\/
  ((c.ap.any fun w=>!e7 c.aC w)=true/\c' prog (aq f56 0) (s4 (c.aC.nodes.map Node.e) c.aC.ap c.aC.cap (c.ap.map aQ.e) (c.bR.map bD.e) (c.tokens.map bT.e) (c.news.map cb.e) 0) .ret (ES false)):=by
 have ag:=a8.zF ak;have l:=hM (P:=prog) (c:=(aq f56 0)) c.ap (fun w=>!e7 c.aC w) (fun i=>s4 (c.aC.nodes.map Node.e) c.aC.ap c.aC.cap (c.ap.map aQ.e) (c.bR.map bD.e) (c.tokens.map bT.e) (c.news.map cb.e) i) (X:=fun _ _=>ES false) dZ (cC 0)
  (fun i a ae h=>by
   have k:=Eu c.aC a (p0 ak) (a8.zG ak (cS ae));rw[show e7 c.aC a=true by simpa using h]at k;exact axJ ⟨bU (by have:=aP ae;omega),bk,bm (aP ae),bl aQ.e ae,k,rfl,c3 (aP ae) ag,ad⟩)
  (fun i a ae h=>by
   have k:=Eu c.aC a (p0 ak) (a8.zG ak (cS ae));rw[show e7 c.aC a=false by simpa using h]at k;exact axI ⟨bU (by have:=aP ae;omega),bk,bm (aP ae),bl aQ.e ae,k,rfl,ad⟩)
  (axK ⟨bY (by omega),ad⟩)
 rcases l with⟨_,_,h1,U⟩ | ⟨_,_,_,_,_,_,h1,U⟩
 ·exact .inl ⟨h1,U⟩
 exact .inr ⟨h1,U⟩
theorem ahq(c:a8)(ak:c.sz<=8388608)(hw:hS c)(aR:1<=c.aC.ap):
  (anyI (jN c.aC) 0 c.bR=false/\c' prog (aq f56 1) (l8 c.aC.ap 0 (c.aC.nodes.map Node.e) c.aC.ap c.aC.cap (c.ap.map aQ.e) (c.bR.map bD.e) (c.tokens.map bT.e) (c.news.map cb.e)) (.exit 2) (Bc c.aC.ap (c.aC.nodes.map Node.e) c.aC.ap c.aC.cap (c.ap.map aQ.e) (c.bR.map bD.e) (c.tokens.map bT.e) (c.news.map cb.e)))\/
  (anyI (jN c.aC) 0 c.bR=true/\c' prog (aq f56 1) (l8 c.aC.ap 0 (c.aC.nodes.map Node.e) c.aC.ap c.aC.cap (c.ap.map aQ.e) (c.bR.map bD.e) (c.tokens.map bT.e) (c.news.map cb.e)) .ret (za false)):=by
 have ag:=a8.Jr ak;have mG:∀(i:Nat) (a:bD),c.bR[i]?=some a->∀r,jM a=r->aw 191 [.agg a.e] [.one (B r)]:=fun i a ae r h=>h▸Er a (a8.D3 ak (cS ae))
 have hy:∀(i:Nat) (a:bD),c.bR[i]?=some a->∀r,fW c.aC a.queue=r->aw 192 [.agg c.aC.e,.one (.J 5 (a.queue.map aB.e))] [.one (B r)]:=fun i a ae r h=>xl c.aC _ r h (p0 ak) (a8.D3 ak (cS ae))
 exact ux (P:=prog) (c:=(aq f56 1)) c.bR (jN c.aC) (fun i=>l8 c.aC.ap i (c.aC.nodes.map Node.e) c.aC.ap c.aC.cap (c.ap.map aQ.e) (c.bR.map bD.e) (c.tokens.map bT.e) (c.news.map cb.e)) dZ (cC 2)
  (fun i a ae h=>by
   have hi:=aP ae;simp only[jN,fB,jx]at h;obtain⟨h1,U,ax,aK⟩:=h;cases a7:((i:Int).tdiv c.aC.ap==(i:Int).tmod c.aC.ap) with
   | true=>
    rw[a7,na]at aK;exact aw0 ⟨bV (aP ae),bk,bm (aP ae),bl bD.e ae,mG i a ae _ h1,rfl,U,hy i a ae _ ax,rfl,by omega,zf i _ (by omega) aR,by omega,a7,by rw[bA];exact aK,c3 hi ag,ad⟩
   | false=>exact aw1 ⟨bV (aP ae),bk,bm (aP ae),bl bD.e ae,mG i a ae _ h1,rfl,U,hy i a ae _ ax,rfl,by omega,zf i _ (by omega) aR,by omega,a7,c3 hi ag,ad⟩)
  (fun i a ae h=>by
   have hi:=aP ae;cases h1:jM a with
   | false=>exact axM ⟨bV (aP ae),bk,bm (aP ae),bl bD.e ae,mG i a ae _ h1,rfl,ad⟩
   | true=>
   cases U:(a.cap != c.aC.cap) with
   | true=>exact axN ⟨bV (aP ae),bk,bm (aP ae),bl bD.e ae,mG i a ae _ h1,rfl,U,ad⟩
   | false=>
   cases ax:fW c.aC a.queue with
   | false=>exact axO ⟨bV (aP ae),bk,bm (aP ae),bl bD.e ae,mG i a ae _ h1,rfl,U,hy i a ae _ ax,rfl,ad⟩
   | true=>
   simp only[jN,h1,U,ax,jj,iU,cm]at h;exact awZ ⟨bV (aP ae),bk,bm (aP ae),bl bD.e ae,mG i a ae _ h1,rfl,U,hy i a ae _ ax,rfl,by omega,zf i _ (by omega) aR,by omega,h.1,by rw[bA];exact h.2,ad⟩)
  (aw2 ⟨dk,ad⟩)
theorem agR(c:a8)(ak:c.sz<=8388608)(aR:1<=c.aC.ap/\c.aC.ap<=4):
  ((c.tokens.any (kS c.aC.ap))=false/\c' prog (aq f56 2) (mO c.aC.ap (c.aC.nodes.map Node.e) c.aC.ap c.aC.cap (c.ap.map aQ.e) (c.bR.map bD.e) (c.tokens.map bT.e) (c.news.map cb.e) 0) (.exit 4) (ET c.aC.ap (c.aC.nodes.map Node.e) c.aC.ap c.aC.cap (c.ap.map aQ.e) (c.bR.map bD.e) (c.tokens.map bT.e) (c.news.map cb.e)))\/
  ((c.tokens.any (kS c.aC.ap))=true/\c' prog (aq f56 2) (mO c.aC.ap (c.aC.nodes.map Node.e) c.aC.ap c.aC.cap (c.ap.map aQ.e) (c.bR.map bD.e) (c.tokens.map bT.e) (c.news.map cb.e) 0) .ret (xd false)):=by
 have ag:=TJ ak;have l:=hM (P:=prog) (c:=(aq f56 2)) c.tokens (kS c.aC.ap) (fun i=>mO c.aC.ap (c.aC.nodes.map Node.e) c.aC.ap c.aC.cap (c.ap.map aQ.e) (c.bR.map bD.e) (c.tokens.map bT.e) (c.news.map cb.e) i) (X:=fun _ _=>xd false) dZ (cC 4)
  (fun i a ae h=>by
   have hi:=aP ae;simp only[kS,fB,jx]at h;obtain⟨h1,U,ax⟩:=h;cases av:a.going with
   | false=>
    rw[av,pR,na]at U;exact aw7 ⟨bV (aP ae),bk,bm (aP ae),bl bT.e ae,⟨by omega,by omega⟩,fD true h1,rfl,bk,bm (aP ae),bl bT.e ae,by rw[av];rfl,bk,bm (aP ae),bl bT.e ae,U,bk,bm (aP ae),bl bT.e ae,fD true ax,rfl,c3 hi ag,ad⟩
   | true=>exact aw9 ⟨bV (aP ae),bk,bm (aP ae),bl bT.e ae,⟨by omega,by omega⟩,fD true h1,rfl,bk,bm (aP ae),bl bT.e ae,by rw[av];rfl,bk,bm (aP ae),bl bT.e ae,fD true ax,rfl,c3 hi ag,ad⟩)
  (fun i a ae h=>by
   have hi:=aP ae;cases h1:ar a.place 0 (c.aC.ap-1) with
   | false=>exact aw4 ⟨bV (aP ae),bk,bm (aP ae),bl bT.e ae,⟨by omega,by omega⟩,fD false h1,rfl,ad⟩
   | true=>
   simp only[kS,h1,jj,iU]at h;cases av:a.going with
   | false=>
    rw[av,pR,na]at h;cases U:(a.place != 0) with
    | true=>exact aw5 ⟨bV (aP ae),bk,bm (aP ae),bl bT.e ae,⟨by omega,by omega⟩,fD true h1,rfl,bk,bm (aP ae),bl bT.e ae,by rw[av];rfl,bk,bm (aP ae),bl bT.e ae,U,ad⟩
    | false=>
     rw[U,iU]at h;exact aw6 ⟨bV (aP ae),bk,bm (aP ae),bl bT.e ae,⟨by omega,by omega⟩,fD true h1,rfl,bk,bm (aP ae),bl bT.e ae,by rw[av];rfl,bk,bm (aP ae),bl bT.e ae,U,bk,bm (aP ae),bl bT.e ae,fD false (by simpa using h),rfl,ad⟩
   | true=>
    rw[av,jj,Bool.false_and,iU]at h;exact aw8 ⟨bV (aP ae),bk,bm (aP ae),bl bT.e ae,⟨by omega,by omega⟩,fD true h1,rfl,bk,bm (aP ae),bl bT.e ae,by rw[av];rfl,bk,bm (aP ae),bl bT.e ae,fD false (by simpa using h),rfl,ad⟩)
  (axa ⟨dk,ad⟩)
 rcases l with⟨_,_,h1,U⟩ | ⟨_,_,_,_,_,_,h1,U⟩
 ·exact .inl ⟨h1,U⟩
 exact .inr ⟨h1,U⟩
theorem agS(c:a8)(ak:c.sz<=8388608)(aR:1<=c.aC.ap/\c.aC.ap<=4):
  ((c.news.any (kU c.aC.ap))=false/\c' prog (aq f56 3) (rP c.aC.ap (c.aC.nodes.map Node.e) c.aC.ap c.aC.cap (c.ap.map aQ.e) (c.bR.map bD.e) (c.tokens.map bT.e) (c.news.map cb.e) 0) (.exit 6) Lg)\/
  ((c.news.any (kU c.aC.ap))=true/\c' prog (aq f56 3) (rP c.aC.ap (c.aC.nodes.map Node.e) c.aC.ap c.aC.cap (c.ap.map aQ.e) (c.bR.map bD.e) (c.tokens.map bT.e) (c.news.map cb.e) 0) .ret (B0 false)):=by
 have ag:=Ev ak;have l:=hM (P:=prog) (c:=(aq f56 3)) c.news (kU c.aC.ap) (fun i=>rP c.aC.ap (c.aC.nodes.map Node.e) c.aC.ap c.aC.cap (c.ap.map aQ.e) (c.bR.map bD.e) (c.tokens.map bT.e) (c.news.map cb.e) i) (X:=fun _ _=>B0 false) dZ (cC 6)
  (fun i a ae h=>by
   have hi:=aP ae;simp only[kU,fB,jx]at h;exact axe ⟨bV (aP ae),bk,bm (aP ae),bl cb.e ae,⟨by omega,by omega⟩,fD true h.1,rfl,bk,bm (aP ae),bl cb.e ae,fD true h.2,rfl,c3 hi ag,ad⟩)
  (fun i a ae h=>by
   have hi:=aP ae;cases h1:ar a.dest 0 (c.aC.ap-1) with
   | false=>exact axc ⟨bV (aP ae),bk,bm (aP ae),bl cb.e ae,⟨by omega,by omega⟩,fD false h1,rfl,ad⟩
   | true=>
    simp only[kU,h1,jj,iU]at h;exact axd ⟨bV (aP ae),bk,bm (aP ae),bl cb.e ae,⟨by omega,by omega⟩,fD true h1,rfl,bk,bm (aP ae),bl cb.e ae,fD false (by simpa using h),rfl,ad⟩)
  (axf ⟨dk,ad⟩)
 rcases l with⟨_,_,h1,U⟩ | ⟨_,_,_,_,_,_,h1,U⟩
 ·exact .inl ⟨h1,U⟩
 exact .inr ⟨h1,U⟩
theorem Ls(c:a8)(ak:c.sz<=8388608)(hw:hS c):aw 56 [.agg c.e] [.one (B (cK c))]:=by
 have av:=ze c.aC (p0 ak);unfold cK;cases h1:et c.aC with
 | false=>rw[h1]at av;exact axE ⟨av,rfl,ad⟩
 | true=>
 rw[h1]at av;have aR:=je h1;have az:aG .i64 (c.aC.ap*c.aC.ap):=by
  have ax:c.aC.ap=1\/c.aC.ap=2\/c.aC.ap=3\/c.aC.ap=4:=by omega
  rcases ax with ax | ax | ax | ax<;>(rw[ax];exact⟨by decide,by decide⟩)
 cases U:((c.ap.length:Int)==c.aC.ap) with
 | false=>exact axF ⟨av,rfl,by rw[bA];simpa using U,ad⟩
 | true=>
 have v2:((↑(c.ap.map aQ.e).length:Int) != c.aC.ap)=false:=by rw[bA];simpa using U
 cases ax:((c.bR.length:Int)==c.aC.ap*c.aC.ap) with
 | false=>exact axG ⟨av,rfl,v2,az,by rw[bA];simpa using ax,ad⟩
 | true=>
 have v3:((↑(c.bR.map bD.e).length:Int) != c.aC.ap*c.aC.ap)=false:=by rw[bA];simpa using ax
 cases aK:(c.tokens.length==4) with
 | false=>exact axH ⟨av,rfl,v2,az,v3,uj aK,ad⟩
 | true=>
 rcases ahp c ak (eq_of_beq U) with⟨a7,ox⟩ | ⟨a7,ox⟩
 case inr=>rw[a7];exact axL ⟨av,rfl,v2,az,v3,fL aK,ox,ad⟩
 rw[a7];rcases ahq c ak hw aR.1 with⟨bp,qn⟩ | ⟨bp,qn⟩
 case inr=>rw[bp];exact aw3 ⟨av,rfl,v2,az,v3,fL aK,ox,qn,ad⟩
 rw[bp];rcases agR c ak aR with⟨b6,sX⟩ | ⟨b6,sX⟩
 case inr=>rw[b6];exact axb ⟨av,rfl,v2,az,v3,fL aK,ox,qn,sX,ad⟩
 rw[b6];rcases agS c ak aR with⟨dn,jH⟩ | ⟨dn,jH⟩
 ·rw[dn];exact axh ⟨av,rfl,v2,az,v3,fL aK,ox,qn,sX,jH,ad⟩
 rw[dn];exact axg ⟨av,rfl,v2,az,v3,fL aK,ox,qn,sX,jH,ad⟩
theorem agT(c:a8)(ak:c.sz<=8388608)(aR:(c.ap.length:Int)=c.aC.ap):
  ((c.ap.any fun w=>!e7 c.aC w)=false/\c' prog (aq f55 0) (s5 c.aC.ap (c.ap.map aQ.e) 0 (c.aC.nodes.map Node.e) c.aC.ap c.aC.cap (c.ap.map aQ.e) (c.bR.map bD.e) (c.tokens.map bT.e) (c.news.map cb.e)) (.exit 0) (JJ c.aC.ap (c.aC.nodes.map Node.e) c.aC.ap c.aC.cap (c.ap.map aQ.e) (c.bR.map bD.e) (c.tokens.map bT.e) (c.news.map cb.e)))\/
  ((c.ap.any fun w=>!e7 c.aC w)=true/\c' prog (aq f55 0) (s5 c.aC.ap (c.ap.map aQ.e) 0 (c.aC.nodes.map Node.e) c.aC.ap c.aC.cap (c.ap.map aQ.e) (c.bR.map bD.e) (c.tokens.map bT.e) (c.news.map cb.e)) .ret (EU false)):=by
 have ag:=a8.zF ak;have l:=hM (P:=prog) (c:=(aq f55 0)) c.ap (fun w=>!e7 c.aC w) (fun i=>s5 c.aC.ap (c.ap.map aQ.e) i (c.aC.nodes.map Node.e) c.aC.ap c.aC.cap (c.ap.map aQ.e) (c.bR.map bD.e) (c.tokens.map bT.e) (c.news.map cb.e)) (X:=fun _ _=>EU false) dZ (cC 0)
  (fun i a ae h=>by
   have k:=TI c.aC a (p0 ak) (a8.zG ak (cS ae));rw[show e7 c.aC a=true by simpa using h]at k;exact axn ⟨bV (aP ae),bk,bm (aP ae),bl aQ.e ae,k,rfl,c3 (aP ae) ag,ad⟩)
  (fun i a ae h=>by
   have k:=TI c.aC a (p0 ak) (a8.zG ak (cS ae));rw[show e7 c.aC a=false by simpa using h]at k;exact axm ⟨bV (aP ae),bk,bm (aP ae),bl aQ.e ae,k,rfl,ad⟩)
  (axo ⟨dk,ad⟩)
 rcases l with⟨_,_,h1,U⟩ | ⟨_,_,_,_,_,_,h1,U⟩
 ·exact .inl ⟨h1,U⟩
 exact .inr ⟨h1,U⟩
theorem agU(c:a8)(ak:c.sz<=8388608)(hw:hS c)(aR:1<=c.aC.ap):
  (anyI (jN c.aC) 0 c.bR=false/\c' prog (aq f55 1) (l9 c.aC.ap (c.bR.map bD.e) 0 (c.aC.nodes.map Node.e) c.aC.ap c.aC.cap (c.ap.map aQ.e) (c.bR.map bD.e) (c.tokens.map bT.e) (c.news.map cb.e)) (.exit 2) (B1 c.aC.ap (c.aC.nodes.map Node.e) c.aC.ap c.aC.cap (c.ap.map aQ.e) (c.bR.map bD.e) (c.tokens.map bT.e) (c.news.map cb.e)))\/
  (anyI (jN c.aC) 0 c.bR=true/\c' prog (aq f55 1) (l9 c.aC.ap (c.bR.map bD.e) 0 (c.aC.nodes.map Node.e) c.aC.ap c.aC.cap (c.ap.map aQ.e) (c.bR.map bD.e) (c.tokens.map bT.e) (c.news.map cb.e)) .ret (zb false)):=by
 have ag:=a8.Jr ak;have mG:∀(i:Nat) (a:bD),c.bR[i]?=some a->∀r,jM a=r->aw 188 [.agg a.e] [.one (B r)]:=fun i a ae r h=>h▸ahj a (a8.D3 ak (cS ae)) (hw _ (cS ae))
 have hy:∀(i:Nat) (a:bD),c.bR[i]?=some a->∀r,fW c.aC a.queue=r->aw 189 [.agg c.aC.e,.one (.J 5 (a.queue.map aB.e))] [.one (B r)]:=fun i a ae r h=>xm c.aC _ r h (p0 ak) (a8.D3 ak (cS ae))
 exact ux (P:=prog) (c:=(aq f55 1)) c.bR (jN c.aC) (fun i=>l9 c.aC.ap (c.bR.map bD.e) i (c.aC.nodes.map Node.e) c.aC.ap c.aC.cap (c.ap.map aQ.e) (c.bR.map bD.e) (c.tokens.map bT.e) (c.news.map cb.e)) dZ (cC 2)
  (fun i a ae h=>by
   have hi:=aP ae;simp only[jN,fB,jx]at h;obtain⟨h1,U,ax,aK⟩:=h;cases a7:((i:Int).tdiv c.aC.ap==(i:Int).tmod c.aC.ap) with
   | true=>
    rw[a7,na]at aK;exact awU ⟨bV (aP ae),bk,bm (aP ae),bl bD.e ae,mG i a ae _ h1,rfl,U,hy i a ae _ ax,rfl,by omega,zf i _ (by omega) aR,by omega,a7,by rw[bA];exact aK,c3 hi ag,ad⟩
   | false=>exact awV ⟨bV (aP ae),bk,bm (aP ae),bl bD.e ae,mG i a ae _ h1,rfl,U,hy i a ae _ ax,rfl,by omega,zf i _ (by omega) aR,by omega,a7,c3 hi ag,ad⟩)
  (fun i a ae h=>by
   have hi:=aP ae;cases h1:jM a with
   | false=>exact awQ ⟨bV (aP ae),bk,bm (aP ae),bl bD.e ae,mG i a ae _ h1,rfl,ad⟩
   | true=>
   cases U:(a.cap != c.aC.cap) with
   | true=>exact awR ⟨bV (aP ae),bk,bm (aP ae),bl bD.e ae,mG i a ae _ h1,rfl,U,ad⟩
   | false=>
   cases ax:fW c.aC a.queue with
   | false=>exact awS ⟨bV (aP ae),bk,bm (aP ae),bl bD.e ae,mG i a ae _ h1,rfl,U,hy i a ae _ ax,rfl,ad⟩
   | true=>
   simp only[jN,h1,U,ax,jj,iU,cm]at h;exact awT ⟨bV (aP ae),bk,bm (aP ae),bl bD.e ae,mG i a ae _ h1,rfl,U,hy i a ae _ ax,rfl,by omega,zf i _ (by omega) aR,by omega,h.1,by rw[bA];exact h.2,ad⟩)
  (awW ⟨dk,ad⟩)
theorem agV(c:a8)(ak:c.sz<=8388608)(aR:1<=c.aC.ap/\c.aC.ap<=4):
  ((c.tokens.any (kS c.aC.ap))=false/\c' prog (aq f55 2) (mP c.aC.ap (c.tokens.map bT.e) 0 (c.aC.nodes.map Node.e) c.aC.ap c.aC.cap (c.ap.map aQ.e) (c.bR.map bD.e) (c.tokens.map bT.e) (c.news.map cb.e)) (.exit 4) (EV c.aC.ap (c.aC.nodes.map Node.e) c.aC.ap c.aC.cap (c.ap.map aQ.e) (c.bR.map bD.e) (c.tokens.map bT.e) (c.news.map cb.e)))\/
  ((c.tokens.any (kS c.aC.ap))=true/\c' prog (aq f55 2) (mP c.aC.ap (c.tokens.map bT.e) 0 (c.aC.nodes.map Node.e) c.aC.ap c.aC.cap (c.ap.map aQ.e) (c.bR.map bD.e) (c.tokens.map bT.e) (c.news.map cb.e)) .ret (xe false)):=by
 have ag:=TJ ak;have l:=hM (P:=prog) (c:=(aq f55 2)) c.tokens (kS c.aC.ap) (fun i=>mP c.aC.ap (c.tokens.map bT.e) i (c.aC.nodes.map Node.e) c.aC.ap c.aC.cap (c.ap.map aQ.e) (c.bR.map bD.e) (c.tokens.map bT.e) (c.news.map cb.e)) (X:=fun _ _=>xe false) dZ (cC 4)
  (fun i a ae h=>by
   have hi:=aP ae;simp only[kS,fB,jx]at h;obtain⟨h1,U,ax⟩:=h;cases av:a.going with
   | false=>
    rw[av,pR,na]at U;exact ads ⟨bV (aP ae),bk,bm (aP ae),bl bT.e ae,⟨by omega,by omega⟩,jL true h1,rfl,by rw[av];rfl,U,jL true ax,rfl,c3 hi ag,ad⟩
   | true=>exact adu ⟨bV (aP ae),bk,bm (aP ae),bl bT.e ae,⟨by omega,by omega⟩,jL true h1,rfl,by rw[av];rfl,jL true ax,rfl,c3 hi ag,ad⟩)
  (fun i a ae h=>by
   have hi:=aP ae;cases h1:ar a.place 0 (c.aC.ap-1) with
   | false=>exact awY ⟨bV (aP ae),bk,bm (aP ae),bl bT.e ae,⟨by omega,by omega⟩,jL false h1,rfl,ad⟩
   | true=>
   simp only[kS,h1,jj,iU]at h;cases av:a.going with
   | false=>
    rw[av,pR,na]at h;cases U:(a.place != 0) with
    | true=>exact adq ⟨bV (aP ae),bk,bm (aP ae),bl bT.e ae,⟨by omega,by omega⟩,jL true h1,rfl,by rw[av];rfl,U,ad⟩
    | false=>
     rw[U,iU]at h;exact adr ⟨bV (aP ae),bk,bm (aP ae),bl bT.e ae,⟨by omega,by omega⟩,jL true h1,rfl,by rw[av];rfl,U,jL false (by simpa using h),rfl,ad⟩
   | true=>
    rw[av,jj,Bool.false_and,iU]at h;exact adt ⟨bV (aP ae),bk,bm (aP ae),bl bT.e ae,⟨by omega,by omega⟩,jL true h1,rfl,by rw[av];rfl,jL false (by simpa using h),rfl,ad⟩)
  (adv ⟨dk,ad⟩)
 rcases l with⟨_,_,h1,U⟩ | ⟨_,_,_,_,_,_,h1,U⟩
 ·exact .inl ⟨h1,U⟩
 exact .inr ⟨h1,U⟩
theorem agW(c:a8)(ak:c.sz<=8388608)(aR:1<=c.aC.ap/\c.aC.ap<=4):
  ((c.news.any (kU c.aC.ap))=false/\c' prog (aq f55 3) (rQ c.aC.ap (c.news.map cb.e) 0) (.exit 6) Lh)\/
  ((c.news.any (kU c.aC.ap))=true/\c' prog (aq f55 3) (rQ c.aC.ap (c.news.map cb.e) 0) .ret (B2 false)):=by
 have ag:=Ev ak;have l:=hM (P:=prog) (c:=(aq f55 3)) c.news (kU c.aC.ap) (fun i=>rQ c.aC.ap (c.news.map cb.e) i) (X:=fun _ _=>B2 false) dZ (cC 6)
  (fun i a ae h=>by
   have hi:=aP ae;simp only[kU,fB,jx]at h;exact adz ⟨bV (aP ae),bk,bm (aP ae),bl cb.e ae,⟨by omega,by omega⟩,jL true h.1,rfl,jL true h.2,rfl,c3 hi ag,ad⟩)
  (fun i a ae h=>by
   have hi:=aP ae;cases h1:ar a.dest 0 (c.aC.ap-1) with
   | false=>exact adx ⟨bV (aP ae),bk,bm (aP ae),bl cb.e ae,⟨by omega,by omega⟩,jL false h1,rfl,ad⟩
   | true=>
    simp only[kU,h1,jj,iU]at h;exact ady ⟨bV (aP ae),bk,bm (aP ae),bl cb.e ae,⟨by omega,by omega⟩,jL true h1,rfl,jL false (by simpa using h),rfl,ad⟩)
  (adA ⟨dk,ad⟩)
 rcases l with⟨_,_,h1,U⟩ | ⟨_,_,_,_,_,_,h1,U⟩
 ·exact .inl ⟨h1,U⟩
 exact .inr ⟨h1,U⟩
theorem agX(c:a8)(ak:c.sz<=8388608)(hw:hS c):aw 55 [.agg c.e] [.one (B (cK c))]:=by
 have av:=Uh c.aC (p0 ak);unfold cK;cases h1:et c.aC with
 | false=>rw[h1]at av;exact axi ⟨av,rfl,ad⟩
 | true=>
 rw[h1]at av;have aR:=je h1;have az:aG .i64 (c.aC.ap*c.aC.ap):=by
  have ax:c.aC.ap=1\/c.aC.ap=2\/c.aC.ap=3\/c.aC.ap=4:=by omega
  rcases ax with ax | ax | ax | ax<;>(rw[ax];exact⟨by decide,by decide⟩)
 cases U:((c.ap.length:Int)==c.aC.ap) with
 | false=>exact axj ⟨av,rfl,by rw[bA];simpa using U,ad⟩
 | true=>
 have v2:((↑(c.ap.map aQ.e).length:Int) != c.aC.ap)=false:=by rw[bA];simpa using U
 cases ax:((c.bR.length:Int)==c.aC.ap*c.aC.ap) with
 | false=>exact axk ⟨av,rfl,v2,az,by rw[bA];simpa using ax,ad⟩
 | true=>
 have v3:((↑(c.bR.map bD.e).length:Int) != c.aC.ap*c.aC.ap)=false:=by rw[bA];simpa using ax
 cases aK:(c.tokens.length==4) with
 | false=>exact axl ⟨av,rfl,v2,az,v3,uj aK,ad⟩
 | true=>
 rcases agT c ak (eq_of_beq U) with⟨a7,ox⟩ | ⟨a7,ox⟩
 case inr=>rw[a7];exact awP ⟨av,rfl,v2,az,v3,fL aK,ox,ad⟩
 rw[a7];rcases agU c ak hw aR.1 with⟨bp,qn⟩ | ⟨bp,qn⟩
 case inr=>rw[bp];exact awX ⟨av,rfl,v2,az,v3,fL aK,ox,qn,ad⟩
 rw[bp];rcases agV c ak aR with⟨b6,sX⟩ | ⟨b6,sX⟩
 case inr=>rw[b6];exact adw ⟨av,rfl,v2,az,v3,fL aK,ox,qn,sX,ad⟩
 rw[b6];rcases agW c ak aR with⟨dn,jH⟩ | ⟨dn,jH⟩
 ·rw[dn];exact adC ⟨av,rfl,v2,az,v3,fL aK,ox,qn,sX,jH,ad⟩
 rw[dn];exact adB ⟨av,rfl,v2,az,v3,fL aK,ox,qn,sX,jH,ad⟩
