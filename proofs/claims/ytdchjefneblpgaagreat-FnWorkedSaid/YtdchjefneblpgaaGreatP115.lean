import Derived.Test.YtdchjefneblpgaaGreatP52
import Derived.Test.YtdchjefneblpgaaGreatP79
import Derived.Test.YtdchjefneblpgaaGreatGO
set_option linter.unusedVariables false
set_option linter.unusedSimpArgs false
namespace Go.Proofs.YtdchjefneblpgaaGreat
open Go.Sx Go.RowKit Go.Proofs.Tryz
theorem ajl(b:List Int)(ar:Bytes b):∃(x:bd) (w:Int),(BB x/\x.sz<=8400)/\av 143 [.one (.J 1 (b.map hK))] [.agg x.e,.one (I w)]:=by
 obtain⟨c,ai,k2⟩:=alY b ar;obtain⟨d1,x,cC,ag,bM⟩:=ah6 b c ai;obtain⟨d2,w,cc,hw,b2⟩:=kS b d1 [0,0,1,1,2,3,-1,9223372036854775807] cC (by simp);exact⟨x,w,ag,agf ⟨k2,bM,b2,aa⟩⟩
theorem ajm{c:bd}{p:dd}(h:(eJ c p).2=false):(eJ c p).1=c:=by
 rcases SM c p with⟨_,k⟩ | ⟨_,k,_⟩
 ·exact k
 rw[k]at h;cases h
def xO:bX:=⟨[⟨1,0,0,[]⟩],2,1⟩
def wU:aG:=⟨0,⟨0,0⟩,1,0⟩
theorem as0:nG xO [wU]=true:=by decide +kernel
theorem as1:(hr (kU xO [wU]) 1).2=true:=by decide +kernel
theorem ajn:mV [.agg [.J 4 [[I 1,I 0,I 0,.v (.slice none 0 0)]],I 2,I 1],.one (.J 5 [[I 0,I 0,I 0,I 1,I 0]])] [.agg xO.e,.one (.J 5 ([wU].map aG.e))]:=
 .cons (.agg (.cons (.J 4 (.cons (.cons (.refl _) (.cons (.refl _) (.cons (.refl _) (.cons (.nil 1) .nil)))) .nil)) (jU.refl _))) (.cons (.one (.refl _)) .nil)
end Go.Proofs.YtdchjefneblpgaaGreat
namespace Go.Proofs.YtdchjefneblpgaaGreat
open Go.Sx Go.RowKit Go.Proofs.Tryz
theorem ajo(c:bd)(w:Int)(ai:c.sz<=8388608)(hw:gA c):av 45 [.agg c.e,.one (I w)] [.agg (fH c w).1.e,.one (B (fH c w).2)]:=
 aiW ⟨Az c ai hw,Ta c w ai,aa⟩
theorem ajp(c:bd)(w:Int)(ai:c.sz<=8388608)(hw:gA c):av 46 [.agg c.e,.one (I w)] [.agg (hr c w).1.e,.one (B (hr c w).2)]:=
 aiX ⟨Az c ai hw,Tb c w ai,aa⟩
theorem asP(c:bd)(w:Int):eJ c ⟨1,w,0⟩=fH c w:=rfl
theorem asQ(c:bd)(w:Int):eJ c ⟨2,w,0⟩=hr c w:=rfl
theorem ajq{c:bd}{w:Int}(h:(fH c w).2=true):∃x,c9 c w=some x/\(fH c w).1=setW c w (eo c.aF x).1:=by
 unfold fH at h ⊢;by_cases hk:cQ c=true
 ·rw[br hk]at h ⊢;cases ag:c9 c w with
  | none=>rw[ag]at h;cases h
  | some x=>exact⟨x,rfl,rfl⟩
 rw[bh hk]at h;cases h
theorem ajr(c d:bd)(w:Int)(f:Bool)(ai:c.sz<=8388608)(al:d.az.length=c.az.length)(aj:∀i:Nat,(i:Int)≠w->d.az[i]?=c.az[i]?):
  c3 prog (aq f6 0) (tO (c.aF.nodes.map Node.e) c.aF.az c.aF.cap (c.az.map aS.e) (c.bZ.map bD.e) (c.tokens.map b0.e) (c.news.map ca.e) w (d.aF.nodes.map Node.e) d.aF.az d.aF.cap (d.az.map aS.e) (d.bZ.map bD.e) (d.tokens.map b0.e) (d.news.map ca.e) f 0) (.exit 0)
   (KD (c.aF.nodes.map Node.e) c.aF.az c.aF.cap (c.az.map aS.e) (c.bZ.map bD.e) (c.tokens.map b0.e) (c.news.map ca.e) w (d.aF.nodes.map Node.e) d.aF.az d.aF.cap (d.az.map aS.e) (d.bZ.map bD.e) (d.tokens.map b0.e) (d.news.map ca.e) f):=by
 have sY:c.az.length<=8388608:=by
  have:=xq (sz:=aS.sz) (xs:=c.az) (m:=8388608) (by simp only[bd.sz]at ai;omega);exact this
 refine eY (P:=prog) (c:=(aq f6 0)) (cM 0) c.az.length (fun i:Nat=>tO (c.aF.nodes.map Node.e) c.aF.az c.aF.cap (c.az.map aS.e) (c.bZ.map bD.e) (c.tokens.map b0.e) (c.news.map ca.e) w (d.aF.nodes.map Node.e) d.aF.az d.aF.cap (d.az.map aS.e) (d.bZ.map bD.e) (d.tokens.map b0.e) (d.news.map ca.e) f i) (fun i hi=>?_) (ajj ⟨dG,aa⟩);by_cases h:(i:Int)=w
 ·exact aji ⟨b' hi,by simp[h],df hi sY,aa⟩
 obtain⟨a,ah⟩:=c0 hi;have aD:d.az[i]?=some a:=by rw[aj i h];exact ah
 exact ajh ⟨b' hi,by simp[h],bF,bI (by omega),bG aS.e aD,bF,bI hi,bG aS.e ah,KB a (bd.AQ ai (eA ah)),rfl,df hi sY,aa⟩
theorem ai1(b:List Int)(ar:∀a∈b,(fun n=>0<=n/\n<=255) a):av 6 [.one (.J 1 (b.map hK))] [.one (B true)]:=by
 by_cases B':(b.length:Int)>1048576
 ·have:=Qc (b.map hK) trivial;rw[j' (by simpa using B')]at this;exact ajf ⟨this,rfl,aa⟩
 have big:=Qc (b.map hK) trivial;rw[lE (by simpa using B')]at big;have wy:Bytes b:=⟨by omega,ar⟩
 obtain⟨c,w,⟨kQ,b1⟩,Wc⟩:=ajl b wy;have ko:=agh ⟨Wc,aa⟩;have gc:gA c:=fun l al=>(kQ.l l al).2
 have atw:=JD c ⟨1,w,0⟩;have z2:=JD c ⟨2,w,0⟩;have f1:=fun h=>ajm (c:=c) (p:=⟨1,w,0⟩) h
 rw[asP]at atw f1;rw[asQ]at z2;have eO:=ag2 c w (by omega) gc;have a2:=ajo c w (by omega) gc;have a3:=S6 c w (by omega) gc;have a4:=ajp c w (by omega) gc;have s1:=KC (fH c w).1 (by omega);have s2:=KC (hr c w).1 (by omega);have nw:=(PQ xO [wU] (by decide)).args ajn;rw[Kc as0]at nw;have e5:(kU xO [wU]).sz<=100:=by decide +kernel
 have i1:=S6 (kU xO [wU]) 1 (by omega) (Ri _ _);rw[as1]at i1;cases h1:(fH c w).2 with
 | false=>
  rw[h1]at eO a2;have jO:av 35 [.agg (fH c w).1.e,.agg c.e] [.one (B true)]:=by rw[f1 h1];exact KC c (by omega)
  exact ajg ⟨big,rfl,ko,eO,a2,a3,a4,by simp,s1,rfl,by simp,s2,rfl,nw,i1,rfl,jO,rfl,aa⟩
 | true=>
  obtain⟨x,ag,e1⟩:=ajq h1;rw[h1]at eO a2;obtain⟨w0,w1,j9⟩:=nW ag;obtain⟨v0,v1,v2⟩:=j7 ag;have di:=bd.AQ (c:=c) (by omega) (eA v2);have eN:=JC c.aF x;have au:c.aF.sz<=8388608:=bd.lL (by omega);have as7:=Tj c.aF x au di;have Nk:x.sz<=8400:=tx (sz:=aS.sz) (xs:=c.az) (m:=8400) (by simp only[bd.sz]at b1;omega) (eA v2);have al:(fH c w).1.az.length=c.az.length:=by rw[e1];exact e5 ..
  have l:=ajr c (fH c w).1 w true (by omega) al (fun i hi=>by
   rw[e1];change (c.az.set w.toNat _)[i]?=_;rw[List.getElem?_set_ne (by omega)])
  have bl:(fH c w).1.az[w.toNat]?=some (eo c.aF x).1:=by
   rw[e1];exact D' v2
  have lh:((fH c w).1.az.map aS.e)[w.toNat]?=some (eo c.aF x).1.e:=by rw[dj,bl];rfl
  exact ajk ⟨big,rfl,ko,eO,a2,a3,a4,by simp,s1,rfl,by simp,s2,rfl,nw,i1,rfl,l,w0,w1,j9,as7,w0,by rw[bk,al,<-bk (f:=aS.e)];exact w1,lh,KB _ (by omega),rfl,aa⟩
