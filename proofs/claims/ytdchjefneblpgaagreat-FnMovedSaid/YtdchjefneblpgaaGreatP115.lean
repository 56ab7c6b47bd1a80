import Derived.Test.YtdchjefneblpgaaGreatP52
import Derived.Test.YtdchjefneblpgaaGreatP79
import Derived.Test.YtdchjefneblpgaaGreatGO
set_option linter.unusedVariables false
set_option linter.unusedSimpArgs false
namespace Go.Proofs.YtdchjefneblpgaaGreat
open Go.Sx Go.RowKit
theorem ai2(c:bb)(w:Int)(ah:c.sz<=8388608)(hw:fw c):av 29 [.agg c.e,.one (I w)] [.agg (gl c w).1.e,.one (B (gl c w).2)]:=
 agY ⟨xS c ah hw,TT c w ah,aa⟩
theorem ai3(c:bb)(a b:Int)(ah:c.sz<=8388608)(hw:fw c):av 32 [.agg c.e,.one (I a),.one (I b)] [.agg (gm c a b).1.e,.one (B (gm c a b).2)]:=
 agZ ⟨xS c ah hw,TU c a b ah,aa⟩
theorem ai4(c:bb)(a b:Int)(ah:c.sz<=8388608)(hw:fw c):av 34 [.agg c.e,.one (I a),.one (I b)] [.agg (gJ c a b).1.e,.one (B (gJ c a b).2)]:=
 ag0 ⟨xS c ah hw,TV c a b ah,aa⟩
theorem ai5(b:List Int)(aq:Bytes b):∃(x:bb) (w:Int),(yf x/\x.sz<=8400)/\av 143 [.one (.J 1 (b.map hd))] [.agg x.e,.one (I w)]:=by
 obtain⟨c,ah,iv⟩:=PA b aq;obtain⟨d1,x,cn,ag,bI⟩:=Uc b c ah;obtain⟨d2,w,ca,hw,bZ⟩:=ke b d1 [0,0,1,1,2,3,-1,9223372036854775807] cn (by simp);exact⟨x,w,ag,aeZ ⟨iv,bI,bZ,aa⟩⟩
theorem ai6(b:List Int)(aq:Bytes b):∃(x:bb) (w v:Int),(yf x/\x.sz<=8400)/\av 152 [.one (.J 1 (b.map hd))] [.agg x.e,.one (I w),.one (I v)]:=by
 obtain⟨c,ah,iv⟩:=PA b aq;obtain⟨d1,x,cn,ag,bI⟩:=Uc b c ah;obtain⟨d2,w,ca,hw,bZ⟩:=ke b d1 [0,0,1,2,3,-1] cn (by simp);obtain⟨d3,v,cB,bA,ch⟩:=ke b d2 [1,1,0,2,3,-1] ca (by simp);exact⟨x,w,v,ag,agr ⟨iv,bI,bZ,ch,aa⟩⟩
theorem asc(c:bb)(w:Int):eF c ⟨3,w,0⟩=gl c w:=rfl
theorem asd(c:bb)(a b:Int):eF c ⟨4,a,b⟩=gm c a b:=rfl
theorem ase(c:bb)(a b:Int):eF c ⟨5,a,b⟩=gJ c a b:=rfl
theorem TM{c:bb}{p:df}(h:(eF c p).2=false):(eF c p).1=c:=by
 rcases S7 c p with⟨_,k⟩ | ⟨_,k,_⟩
 ·exact k
 rw[k]at h;cases h
def qf:b1:=⟨[⟨1,0,0,[]⟩],2,1⟩
def pS:aA:=⟨0,⟨0,0⟩,1,0⟩
theorem asp:nG qf [pS]=true:=by decide +kernel
theorem asq:(gW (iZ qf [pS]) 1).2=true:=by decide +kernel
theorem Lo:(gW (iZ qf [pS]) 1).1.ay.length=2:=by decide +kernel
theorem asr:((gW (iZ qf [pS]) 1).1.ay[1]?).map (fun w=>w.queue.length)=some 1:=by decide +kernel
theorem ai7:mZ [.agg [.J 4 [[I 1,I 0,I 0,.v (.slice none 0 0)]],I 2,I 1],.one (.J 5 [[I 0,I 0,I 0,I 1,I 0]])] [.agg qf.e,.one (.J 5 ([pS].map aA.e))]:=
 .cons (.agg (.cons (.J 4 (.cons (.cons (.refl _) (.cons (.refl _) (.cons (.refl _) (.cons (.nil 1) .nil)))) .nil)) (jN.refl _))) (.cons (.one (.refl _)) .nil)
theorem ai8(b:List Int)(aq:∀a∈b,(fun n=>0<=n/\n<=255) a):av 4 [.one (.J 1 (b.map hd))] [.one (B true)]:=by
 by_cases Nb:(b.length:Int)>1048576
 ·have:=P5 (b.map hd) trivial;rw[j3 (by simpa using Nb)]at this;exact aiX ⟨this,rfl,aa⟩
 have big:=P5 (b.map hd) trivial;rw[ly (by simpa using Nb)]at big;have yF:Bytes b:=⟨by omega,aq⟩
 obtain⟨c,w,⟨kO,b0⟩,Wg⟩:=ai5 b yF;have BV:=ags ⟨Wg,aa⟩;obtain⟨d,u,v,⟨bk,bu⟩,Wh⟩:=ai6 b yF;have lC:=agt ⟨Wh,aa⟩;have gc:fw c:=fun l ak=>(kO.l l ak).2
 have B3:fw d:=fun l ak=>(bk.l l ak).2
 have asV:=D7 c ⟨3,w,0⟩;have z2:=D7 d ⟨4,u,v⟩;have z3:=D7 d ⟨5,u,v⟩;have f1:=fun h=>TM (c:=c) (p:=⟨3,w,0⟩) h
 have f2:=fun h=>TM (c:=d) (p:=⟨4,u,v⟩) h
 rw[asc]at asV f1;rw[asd]at z2 f2;rw[ase]at z3;have eC:=aiP c w (by omega) gc;have a2:=ai2 c w (by omega) gc;have a3:=aiQ d u v (by omega) B3;have a4:=ai3 d u v (by omega) B3;have a5:=aiR d u v (by omega) B3;have BI:=ai4 d u v (by omega) B3;have s1:=xw (gl c w).1 (by omega);have s2:=xw (gm d u v).1 (by omega);have Eo:=xw (gJ d u v).1 (by omega);have r5:=Ax (gl c w).1 (by omega);have u':=Ax c (by omega);have va:=Ax (gm d u v).1 (by omega);have te:=Ax d (by omega);have zu:=Ax (gJ d u v).1 (by omega);rw[aiB]at r5;rw[aiC]at va;rw[aiD]at zu;have e1:=xv (nU c) (Q7 (by omega));have e2:=xv (nU d) (Q7 (by omega));have nw:=(Q8 qf [pS] (by decide)).args ai7;rw[Kb asp]at nw;have fb:(iZ qf [pS]).sz<=100:=by decide +kernel
 have i1:=aiO (iZ qf [pS]) 1 (by omega) (Ra _ _);rw[asq]at i1;obtain⟨x,ag⟩:=cY (xs:=(gW (iZ qf [pS]) 1).1.ay) (i:=1) (by rw[Lo];omega);have aC:=asr;rw[ag]at aC;simp only[l3,aQ]at aC;have Ev:((((gW (iZ qf [pS]) 1).1.ay.map aP.e).length:Int)==2)=true:=by rw[bm,Lo];rfl
 have Ew:(1:Int)<((((gW (iZ qf [pS]) 1).1.ay.map aP.e).length:Nat):Int):=by rw[bm,Lo];decide
 have fin:av 4 [.one (.J 1 (b.map hd))] [.one (B (((x.queue.map aA.e).length:Int)==1))]:=by
  cases h1:(gl c w).2 with
  | true=>
   rw[h1]at eC a2;cases U:(gm d u v).2 with
   | true=>
    rw[U]at a3 a4;exact aiY ⟨big,rfl,BV,eC,a2,lC,a3,a4,a5,BI,by simp,s1,rfl,by simp,s2,rfl,by simp,Eo,rfl,nw,i1,r5,u',e1,rfl,va,te,e2,rfl,zu,te,e2,rfl,rfl,rfl,rfl,Ev,by decide,Ew,bF aP.e (i:=1) ag,aa⟩
   | false=>
    rw[U]at a3 a4;have Ln:av 35 [.agg (gm d u v).1.e,.agg d.e] [.one (B true)]:=by rw[f2 U];exact xw d (by omega)
    exact aiZ ⟨big,rfl,BV,eC,a2,lC,a3,a4,a5,BI,by simp,s1,rfl,by simp,s2,rfl,by simp,Eo,rfl,nw,i1,r5,u',e1,rfl,va,te,e2,rfl,zu,te,e2,rfl,rfl,rfl,Ln,rfl,rfl,Ev,by decide,Ew,bF aP.e (i:=1) ag,aa⟩
  | false=>
   rw[h1]at eC a2;have mQ:av 35 [.agg (gl c w).1.e,.agg c.e] [.one (B true)]:=by rw[f1 h1];exact xw c (by omega)
   cases U:(gm d u v).2 with
   | true=>
    rw[U]at a3 a4;exact ai0 ⟨big,rfl,BV,eC,a2,lC,a3,a4,a5,BI,by simp,s1,rfl,by simp,s2,rfl,by simp,Eo,rfl,nw,i1,r5,u',e1,rfl,va,te,e2,rfl,zu,te,e2,rfl,rfl,mQ,rfl,rfl,rfl,Ev,by decide,Ew,bF aP.e (i:=1) ag,aa⟩
   | false=>
    rw[U]at a3 a4;have Ln:av 35 [.agg (gm d u v).1.e,.agg d.e] [.one (B true)]:=by rw[f2 U];exact xw d (by omega)
    exact ai1 ⟨big,rfl,BV,eC,a2,lC,a3,a4,a5,BI,by simp,s1,rfl,by simp,s2,rfl,by simp,Eo,rfl,nw,i1,r5,u',e1,rfl,va,te,e2,rfl,zu,te,e2,rfl,rfl,mQ,rfl,rfl,Ln,rfl,rfl,Ev,by decide,Ew,bF aP.e (i:=1) ag,aa⟩
 have:(((x.queue.map aA.e).length:Int)==1)=true:=by rw[bm,aC];rfl
 rwa[this]at fin
