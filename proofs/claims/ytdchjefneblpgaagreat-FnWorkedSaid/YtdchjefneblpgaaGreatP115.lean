import Derived.Test.YtdchjefneblpgaaGreatP52
import Derived.Test.YtdchjefneblpgaaGreatP79
import Derived.Test.YtdchjefneblpgaaGreatGO
set_option linter.unusedVariables false
set_option linter.unusedSimpArgs false
namespace Go.Proofs.YtdchjefneblpgaaGreat
open Go.Sx Go.RowKit Go.Proofs.Tryz
theorem aiF(b:List Int)(aw:Bytes b):∃(x:bb) (w:Int),(A6 x/\x.sz<=8400)/\ar 143 [.one (.J 1 (b.map hh))] [.agg x.e,.one (I w)]:=by
 obtain⟨c,al,kF⟩:=alh b aw;obtain⟨d1,x,cy,ak,bK⟩:=ahr b c al;obtain⟨d2,w,ca,hw,b2⟩:=kx b d1 [0,0,1,1,2,3,-1,9223372036854775807] cy (by simp);exact⟨x,w,ak,afy ⟨kF,bK,b2,aa⟩⟩
theorem aiG{c:bb}{p:c9}(h:(eB c p).2=false):(eB c p).1=c:=by
 rcases SP c p with⟨_,k⟩ | ⟨_,k,_⟩
 ·exact k
 rw[k]at h;cases h
def xl:bR:=⟨[⟨1,0,0,[]⟩],2,1⟩
def wo:aB:=⟨0,⟨0,0⟩,1,0⟩
theorem asr:mZ xl [wo]=true:=by decide +kernel
theorem ass:(gU (ky xl [wo]) 1).2=true:=by decide +kernel
theorem aiH:mv [.agg [.J 4 [[I 1,I 0,I 0,.v (.slice none 0 0)]],I 2,I 1],.one (.J 5 [[I 0,I 0,I 0,I 1,I 0]])] [.agg xl.e,.one (.J 5 ([wo].map aB.e))]:=
 .cons (.agg (.cons (.J 4 (.cons (.cons (.refl _) (.cons (.refl _) (.cons (.refl _) (.cons (.nil 1) .nil)))) .nil)) (jt.refl _))) (.cons (.one (.refl _)) .nil)
end Go.Proofs.YtdchjefneblpgaaGreat
namespace Go.Proofs.YtdchjefneblpgaaGreat
open Go.Sx Go.RowKit Go.Proofs.Tryz
theorem aiI(c:bb)(w:Int)(al:c.sz<=8388608)(hw:gb c):ar 45 [.agg c.e,.one (I w)] [.agg (ft c w).1.e,.one (B (ft c w).2)]:=
 aie ⟨zZ c al hw,SC c w al,aa⟩
theorem aiJ(c:bb)(w:Int)(al:c.sz<=8388608)(hw:gb c):ar 46 [.agg c.e,.one (I w)] [.agg (gU c w).1.e,.one (B (gU c w).2)]:=
 aif ⟨zZ c al hw,SD c w al,aa⟩
theorem asf(c:bb)(w:Int):eB c ⟨1,w,0⟩=ft c w:=rfl
theorem asg(c:bb)(w:Int):eB c ⟨2,w,0⟩=gU c w:=rfl
theorem aiK{c:bb}{w:Int}(h:(ft c w).2=true):∃x,cZ c w=some x/\(ft c w).1=setW c w (ec c.aC x).1:=by
 unfold ft at h ⊢;by_cases hk:cM c=true
 ·rw[bM hk]at h ⊢;cases ak:cZ c w with
  | none=>rw[ak]at h;cases h
  | some x=>exact⟨x,rfl,rfl⟩
 rw[bG hk]at h;cases h
theorem aiL(c d:bb)(w:Int)(f:Bool)(al:c.sz<=8388608)(ap:d.ay.length=c.ay.length)(ai:∀i:Nat,(i:Int)≠w->d.ay[i]?=c.ay[i]?):
  cV prog (ao f6 0) (tr (c.aC.nodes.map Node.e) c.aC.ay c.aC.cap (c.ay.map aR.e) (c.bW.map bu.e) (c.tokens.map bV.e) (c.news.map b7.e) w (d.aC.nodes.map Node.e) d.aC.ay d.aC.cap (d.ay.map aR.e) (d.bW.map bu.e) (d.tokens.map bV.e) (d.news.map b7.e) f 0) (.exit 0)
   (Kz (c.aC.nodes.map Node.e) c.aC.ay c.aC.cap (c.ay.map aR.e) (c.bW.map bu.e) (c.tokens.map bV.e) (c.news.map b7.e) w (d.aC.nodes.map Node.e) d.aC.ay d.aC.cap (d.ay.map aR.e) (d.bW.map bu.e) (d.tokens.map bV.e) (d.news.map b7.e) f):=by
 have sF:c.ay.length<=8388608:=by
  have:=wV (sz:=aR.sz) (xs:=c.ay) (m:=8388608) (by simp only[bb.sz]at al;omega);exact this
 refine eN (P:=prog) (c:=(ao f6 0)) (cH 0) c.ay.length (fun i:Nat=>tr (c.aC.nodes.map Node.e) c.aC.ay c.aC.cap (c.ay.map aR.e) (c.bW.map bu.e) (c.tokens.map bV.e) (c.news.map b7.e) w (d.aC.nodes.map Node.e) d.aC.ay d.aC.cap (d.ay.map aR.e) (d.bW.map bu.e) (d.tokens.map bV.e) (d.news.map b7.e) f i) (fun i hi=>?_) (aiD ⟨dz,aa⟩);by_cases h:(i:Int)=w
 ·exact aiC ⟨b6 hi,by simp[h],dc hi sF,aa⟩
 obtain⟨a,ah⟩:=cS hi;have aG:d.ay[i]?=some a:=by rw[ai i h];exact ah
 exact aiB ⟨b6 hi,by simp[h],bw,bE (by omega),bA aR.e aG,bw,bE hi,bA aR.e ah,Kx a (bb.Ak al (eA ah)),rfl,dc hi sF,aa⟩
theorem aiM(b:List Int)(aw:∀a∈b,(fun n=>0<=n/\n<=255) a):ar 6 [.one (.J 1 (b.map hh))] [.one (B true)]:=by
 by_cases BD:(b.length:Int)>1048576
 ·have:=PG (b.map hh) trivial;rw[kh (by simpa using BD)]at this;exact aiz ⟨this,rfl,aa⟩
 have big:=PG (b.map hh) trivial;rw[mu (by simpa using BD)]at big;have vR:Bytes b:=⟨by omega,aw⟩
 obtain⟨c,w,⟨ku,asZ⟩,VK⟩:=aiF b vR;have j3:=afz ⟨VK,aa⟩;have gc:gb c:=fun l ap=>(ku.l l ap).2
 have asX:=JN c ⟨1,w,0⟩;have z2:=JN c ⟨2,w,0⟩;have f1:=fun h=>aiG (c:=c) (p:=⟨1,w,0⟩) h
 rw[asf]at asX f1;rw[asg]at z2;have eE:=agV c w (by omega) gc;have a2:=aiI c w (by omega) gc;have a3:=Sw c w (by omega) gc;have a4:=aiJ c w (by omega) gc;have s1:=Ky (ft c w).1 (by omega);have s2:=Ky (gU c w).1 (by omega);have nw:=(Pj xl [wo] (by decide)).args aiH;rw[Il asr]at nw;have auW:(ky xl [wo]).sz<=100:=by decide +kernel
 have i1:=Sw (ky xl [wo]) 1 (by omega) (Pm _ _);rw[ass]at i1;cases h1:(ft c w).2 with
 | false=>
  rw[h1]at eE a2;have jo:ar 35 [.agg (ft c w).1.e,.agg c.e] [.one (B true)]:=by rw[f1 h1];exact Ky c (by omega)
  exact aiA ⟨big,rfl,j3,eE,a2,a3,a4,by simp,s1,rfl,by simp,s2,rfl,nw,i1,rfl,jo,rfl,aa⟩
 | true=>
  obtain⟨x,ak,e1⟩:=aiK h1;rw[h1]at eE a2;obtain⟨w0,w1,jK⟩:=nu ak;obtain⟨v0,v1,v2⟩:=jI ak;have dN:=bb.Ak (c:=c) (by omega) (eA v2);have auX:=JM c.aC x;have av:c.aC.sz<=8388608:=bb.lk (by omega);have asy:=SL c.aC x av dN;have atL:x.sz<=8400:=s' (sz:=aR.sz) (xs:=c.ay) (m:=8400) (by simp only[bb.sz]at asZ;omega) (eA v2);have ap:(ft c w).1.ay.length=c.ay.length:=by rw[e1];exact gp ..
  have l:=aiL c (ft c w).1 w true (by omega) ap (fun i hi=>by
   rw[e1];change (c.ay.set w.toNat _)[i]?=_;rw[List.getElem?_set_ne (by omega)])
  have bD:(ft c w).1.ay[w.toNat]?=some (ec c.aC x).1:=by
   rw[e1];exact Ks v2
  have kV:((ft c w).1.ay.map aR.e)[w.toNat]?=some (ec c.aC x).1.e:=by rw[dr,bD];rfl
  exact aiE ⟨big,rfl,j3,eE,a2,a3,a4,by simp,s1,rfl,by simp,s2,rfl,nw,i1,rfl,l,w0,w1,jK,asy,w0,by rw[cm,ap,<-cm (f:=aR.e)];exact w1,kV,Kx _ (by omega),rfl,aa⟩
