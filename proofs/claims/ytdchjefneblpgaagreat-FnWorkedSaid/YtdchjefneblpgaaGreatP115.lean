import Derived.Test.YtdchjefneblpgaaGreatP52
import Derived.Test.YtdchjefneblpgaaGreatP79
import Derived.Test.YtdchjefneblpgaaGreatGO
set_option linter.unusedVariables false
set_option linter.unusedSimpArgs false
namespace Go.Proofs.YtdchjefneblpgaaGreat
open Go.Sx Go.RowKit Go.Proofs.Tryz
theorem aiJ(b:List Int)(aw:Bytes b):∃(x:bb) (w:Int),(A8 x/\x.sz<=8400)/\ar 143 [.one (.J 1 (b.map hl))] [.agg x.e,.one (I w)]:=by
 obtain⟨c,al,kG⟩:=alm b aw;obtain⟨d1,x,cy,ak,bK⟩:=ahv b c al;obtain⟨d2,w,ca,hw,b2⟩:=kx b d1 [0,0,1,1,2,3,-1,9223372036854775807] cy (by simp);exact⟨x,w,ak,afC ⟨kG,bK,b2,aa⟩⟩
theorem aiK{c:bb}{p:c9}(h:(eB c p).2=false):(eB c p).1=c:=by
 rcases SQ c p with⟨_,k⟩ | ⟨_,k,_⟩
 ·exact k
 rw[k]at h;cases h
def xl:bR:=⟨[⟨1,0,0,[]⟩],2,1⟩
def wq:aB:=⟨0,⟨0,0⟩,1,0⟩
theorem asv:m' xl [wq]=true:=by decide +kernel
theorem asw:(gV (ky xl [wq]) 1).2=true:=by decide +kernel
theorem aiL:mw [.agg [.J 4 [[I 1,I 0,I 0,.v (.slice none 0 0)]],I 2,I 1],.one (.J 5 [[I 0,I 0,I 0,I 1,I 0]])] [.agg xl.e,.one (.J 5 ([wq].map aB.e))]:=
 .cons (.agg (.cons (.J 4 (.cons (.cons (.refl _) (.cons (.refl _) (.cons (.refl _) (.cons (.nil 1) .nil)))) .nil)) (jv.refl _))) (.cons (.one (.refl _)) .nil)
end Go.Proofs.YtdchjefneblpgaaGreat
namespace Go.Proofs.YtdchjefneblpgaaGreat
open Go.Sx Go.RowKit Go.Proofs.Tryz
theorem aiM(c:bb)(w:Int)(al:c.sz<=8388608)(hw:gb c):ar 45 [.agg c.e,.one (I w)] [.agg (ft c w).1.e,.one (B (ft c w).2)]:=
 aij ⟨z6 c al hw,SD c w al,aa⟩
theorem aiN(c:bb)(w:Int)(al:c.sz<=8388608)(hw:gb c):ar 46 [.agg c.e,.one (I w)] [.agg (gV c w).1.e,.one (B (gV c w).2)]:=
 aik ⟨z6 c al hw,SE c w al,aa⟩
theorem asj(c:bb)(w:Int):eB c ⟨1,w,0⟩=ft c w:=rfl
theorem asl(c:bb)(w:Int):eB c ⟨2,w,0⟩=gV c w:=rfl
theorem aiO{c:bb}{w:Int}(h:(ft c w).2=true):∃x,cZ c w=some x/\(ft c w).1=setW c w (ec c.aC x).1:=by
 unfold ft at h ⊢;by_cases hk:cM c=true
 ·rw[bM hk]at h ⊢;cases ak:cZ c w with
  | none=>rw[ak]at h;cases h
  | some x=>exact⟨x,rfl,rfl⟩
 rw[bG hk]at h;cases h
theorem aiP(c d:bb)(w:Int)(f:Bool)(al:c.sz<=8388608)(ap:d.ay.length=c.ay.length)(ai:∀i:Nat,(i:Int)≠w->d.ay[i]?=c.ay[i]?):
  cW prog (ao f6 0) (tu (c.aC.nodes.map Node.e) c.aC.ay c.aC.cap (c.ay.map aR.e) (c.bV.map bu.e) (c.tokens.map bW.e) (c.news.map b7.e) w (d.aC.nodes.map Node.e) d.aC.ay d.aC.cap (d.ay.map aR.e) (d.bV.map bu.e) (d.tokens.map bW.e) (d.news.map b7.e) f 0) (.exit 0)
   (KA (c.aC.nodes.map Node.e) c.aC.ay c.aC.cap (c.ay.map aR.e) (c.bV.map bu.e) (c.tokens.map bW.e) (c.news.map b7.e) w (d.aC.nodes.map Node.e) d.aC.ay d.aC.cap (d.ay.map aR.e) (d.bV.map bu.e) (d.tokens.map bW.e) (d.news.map b7.e) f):=by
 have sF:c.ay.length<=8388608:=by
  have:=wW (sz:=aR.sz) (xs:=c.ay) (m:=8388608) (by simp only[bb.sz]at al;omega);exact this
 refine eN (P:=prog) (c:=(ao f6 0)) (cH 0) c.ay.length (fun i:Nat=>tu (c.aC.nodes.map Node.e) c.aC.ay c.aC.cap (c.ay.map aR.e) (c.bV.map bu.e) (c.tokens.map bW.e) (c.news.map b7.e) w (d.aC.nodes.map Node.e) d.aC.ay d.aC.cap (d.ay.map aR.e) (d.bV.map bu.e) (d.tokens.map bW.e) (d.news.map b7.e) f i) (fun i hi=>?_) (aiH ⟨dz,aa⟩);by_cases h:(i:Int)=w
 ·exact aiG ⟨b6 hi,by simp[h],dc hi sF,aa⟩
 obtain⟨a,ag⟩:=cS hi;have aG:d.ay[i]?=some a:=by rw[ai i h];exact ag
 exact aiF ⟨b6 hi,by simp[h],bw,bE (by omega),bA aR.e aG,bw,bE hi,bA aR.e ag,Ky a (bb.Am al (eA ag)),rfl,dc hi sF,aa⟩
theorem aiQ(b:List Int)(aw:∀a∈b,(fun n=>0<=n/\n<=255) a):ar 6 [.one (.J 1 (b.map hl))] [.one (B true)]:=by
 by_cases BF:(b.length:Int)>1048576
 ·have:=PI (b.map hl) trivial;rw[kh (by simpa using BF)]at this;exact aiD ⟨this,rfl,aa⟩
 have big:=PI (b.map hl) trivial;rw[mv (by simpa using BF)]at big;have vT:Bytes b:=⟨by omega,aw⟩
 obtain⟨c,w,⟨ku,as2⟩,VL⟩:=aiJ b vT;have j3:=afD ⟨VL,aa⟩;have gc:gb c:=fun l ap=>(ku.l l ap).2
 have as1:=JO c ⟨1,w,0⟩;have z2:=JO c ⟨2,w,0⟩;have f1:=fun h=>aiK (c:=c) (p:=⟨1,w,0⟩) h
 rw[asj]at as1 f1;rw[asl]at z2;have eE:=agZ c w (by omega) gc;have a2:=aiM c w (by omega) gc;have a3:=Sy c w (by omega) gc;have a4:=aiN c w (by omega) gc;have s1:=Kz (ft c w).1 (by omega);have s2:=Kz (gV c w).1 (by omega);have nw:=(Pl xl [wq] (by decide)).args aiL;rw[Im asv]at nw;have auW:(ky xl [wq]).sz<=100:=by decide +kernel
 have i1:=Sy (ky xl [wq]) 1 (by omega) (Po _ _);rw[asw]at i1;cases h1:(ft c w).2 with
 | false=>
  rw[h1]at eE a2;have jr:ar 35 [.agg (ft c w).1.e,.agg c.e] [.one (B true)]:=by rw[f1 h1];exact Kz c (by omega)
  exact aiE ⟨big,rfl,j3,eE,a2,a3,a4,by simp,s1,rfl,by simp,s2,rfl,nw,i1,rfl,jr,rfl,aa⟩
 | true=>
  obtain⟨x,ak,e1⟩:=aiO h1;rw[h1]at eE a2;obtain⟨w0,w1,jL⟩:=nv ak;obtain⟨v0,v1,v2⟩:=jJ ak;have dN:=bb.Am (c:=c) (by omega) (eA v2);have auX:=JN c.aC x;have av:c.aC.sz<=8388608:=bb.ln (by omega);have asC:=SM c.aC x av dN;have atL:x.sz<=8400:=ta (sz:=aR.sz) (xs:=c.ay) (m:=8400) (by simp only[bb.sz]at as2;omega) (eA v2);have ap:(ft c w).1.ay.length=c.ay.length:=by rw[e1];exact gp ..
  have l:=aiP c (ft c w).1 w true (by omega) ap (fun i hi=>by
   rw[e1];change (c.ay.set w.toNat _)[i]?=_;rw[List.getElem?_set_ne (by omega)])
  have bD:(ft c w).1.ay[w.toNat]?=some (ec c.aC x).1:=by
   rw[e1];exact Ku v2
  have kY:((ft c w).1.ay.map aR.e)[w.toNat]?=some (ec c.aC x).1.e:=by rw[dr,bD];rfl
  exact aiI ⟨big,rfl,j3,eE,a2,a3,a4,by simp,s1,rfl,by simp,s2,rfl,nw,i1,rfl,l,w0,w1,jL,asC,w0,by rw[cf,ap,<-cf (f:=aR.e)];exact w1,kY,Ky _ (by omega),rfl,aa⟩
