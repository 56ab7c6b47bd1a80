import Derived.Test.YtdchjefneblpgaaGreatP112
import Derived.Test.YtdchjefneblpgaaGreatGO
set_option linter.unusedVariables false
set_option linter.unusedSimpArgs false
namespace Go.Proofs.YtdchjefneblpgaaGreat
open Go.Sx Go.RowKit Go.Proofs.Tryz
def zo(n:Int)(l:bC):Int:=BV (BV (n+l.fh)+l.back)
def UT(c:aU):Int:=c.bQ.foldl zo 0
theorem aiY(n:Int)(l:bC):BV (n+BV (l.fh+l.back))=zo n l:=by
 simp only[zo,BV,IntKind.wrap_i64];omega
theorem aiZ(c:aU)(ad:c.sz<=8388608):aK 107 [.agg c.e] [.one (I (UT c))]:=by
 have af:=aU.xY ad;have l:=ef (P:=prog) (c:=(az f107 0)) (cL 0) c.bQ.length (fun i:Nat=>Bo (c.aF.nodes.map Node.e) c.aF.ap c.aF.cap (c.ap.map aP.e) (c.bQ.map bC.e) (c.tokens.map b'.e) (c.news.map cA.e) i (jw zo 0 c.bQ i)) (fun i hi=>by
  obtain⟨a,ag⟩:=dv hi;rw[sS ag];exact aaW ⟨cg hi,bG,bJ hi,bF bC.e ag,bG,bJ hi,bF bC.e ag,cY hi af,aj⟩) (aaX ⟨dH,aj⟩)
 rw[AS,PY]at l;exact aaY ⟨l,aj⟩
theorem ai0(c:aU)(ad:c.sz<=8388608):aK 106 [.agg c.e] [.one (I (UT c))]:=by
 have af:=aU.xY ad;have l:=ef (P:=prog) (c:=(az f106 0)) (cL 0) c.bQ.length (fun i:Nat=>Bp (c.bQ.map bC.e) i (jw zo 0 c.bQ i)) (fun i hi=>by
  obtain⟨a,ag⟩:=dv hi;rw[sS ag,<-aiY];exact aaZ ⟨cg hi,bG,bJ hi,bF bC.e ag,cY hi af,aj⟩) (aa0 ⟨dH,aj⟩)
 rw[AS,PY]at l;exact aa1 ⟨l,aj⟩
theorem UU(a b:bD)(r:Bool)(h:mN a b=r):aK 241 [.agg a.e,.agg b.e] [.one (B r)]:=h▸QE a b
theorem ai1(xs:List bD)(s:bD)(af:xs.length<=8388608):aK 111 [.one (.J 2 (xs.map bD.e)),.agg s.e] [.one (B (ahead xs s))]:=by
 have l:=jb (P:=prog) (c:=(az f111 0)) xs (fun a=>mN a s) (fun i=>wA (xs.map bD.e) s.a8 s.cD i) (X:=fun _ _=>Ju true) hd (cL 0)
  (fun i a ag h=>amC ⟨cg (bh ag),bG,bJ (bh ag),bF bD.e ag,UU a s false h,rfl,cY (bh ag) af,aj⟩)
  (fun i a ag h=>amB ⟨cg (bh ag),bG,bJ (bh ag),bF bD.e ag,UU a s true h,rfl,aj⟩)
  (amD ⟨dH,aj⟩)
 unfold ahead;rcases l with⟨_,_,h1,U⟩ | ⟨i,a,_,_,_,_,h1,U⟩
 ·rw[h1];exact amF ⟨U,aj⟩
 rw[h1];exact amE ⟨U,aj⟩
theorem ai2(b:List Int)(ah:Bytes b):∃x:aU,(xm x/\x.sz<=8400)/\aK 102 [.one (.J 1 (b.map hq))] [.agg x.e]:=by
 obtain⟨c,ad,jI⟩:=J7 b ah;obtain⟨d,x,_,aa,bB⟩:=KZ b c ad;exact⟨x,aa,ahy ⟨jI,bB,aj⟩⟩
theorem ai3(b:List Int)(ah:Bytes b):∃(x:aU) (e:Int),x.sz<=1300000/\aK 112 [.one (.J 1 (b.map hq))] [.agg x.e,.one (I e)]:=by
 obtain⟨c,ad,jI⟩:=J7 b ah;obtain⟨d1,x,cd,⟨aL,aR⟩,bB⟩:=KZ b c ad;obtain⟨d2,f,bY,bV⟩:=AE b d1 2 cd (by omega);obtain⟨d3,v,cr,bj,cb⟩:=dQ b d2 5 bY (by omega);cases f with
 | true=>
  have cO:=T5 x 100 (by omega) aL.dO;have p':=ai6 x 100;exact⟨_,v-1,by omega,ahA ⟨jI,bB,bV,rfl,cO,ahz ⟨cb,⟨by omega,by omega⟩,aj⟩,aj⟩⟩
 | false=>exact⟨x,v-1,by omega,ahC ⟨jI,bB,bV,rfl,ahB ⟨cb,⟨by omega,by omega⟩,aj⟩,aj⟩⟩
def Fk:aU:=⟨⟨[],0,0⟩,[⟨[⟨0,⟨0,0⟩,3,0⟩],[],[],[],[],[],[],[]⟩],[],[],[]⟩
theorem ai4:n0 [.agg [.v (.slice none 0 0),I 0,I 0,.J 8 [[.J 5 [[I 0,I 0,I 0,I 3,I 0]],.v (.slice none 0 0),.v (.slice none 0 0),.v (.slice none 0 0),.v (.slice none 0 0),.v (.slice none 0 0),.v (.slice none 0 0),.v (.slice none 0 0)]],.v (.slice none 0 0),.v (.slice none 0 0),.v (.slice none 0 0)]] [.agg Fk.e]:=
 .cons (.agg (.cons (.nil 4) (.cons (.refl _) (.cons (.refl _) (.cons (.J 8 (.cons (.cons (.refl _) (.cons (.nil 5) (.cons (.nil 5) (.cons (.nil 4) (.cons (.nil 1) (.cons (.nil 1) (.cons (.nil 1) (.cons (.nil 2) .nil)))))))) .nil)) (.cons (.nil 6) (.cons (.nil 5) (.cons (.nil 3) .nil)))))))) .nil
theorem aiE(b:List Int)(ah:∀a∈b,(fun n=>0<=n/\n<=255) a):aK 11 [.one (.J 1 (b.map hq))] [.one (B true)]:=by
 by_cases CV:(b.length:Int)>1048576
 ·have:=PE (b.map hq) trivial;rw[ji (by simpa using CV)]at this;exact aiU ⟨this,rfl,aj⟩
 have big:=PE (b.map hq) trivial;rw[mu (by simpa using CV)]at big;have od:Bytes b:=⟨by omega,ah⟩
 obtain⟨c,⟨_,asI⟩,lm⟩:=ai2 b od;obtain⟨d,e,asK,o4⟩:=ai3 b od;obtain⟨x,k,asL,Wx⟩:=ai7 b od;have Ww:=agN ⟨ahw ⟨Wx,aj⟩,aj⟩;have af:=Ee (c:=c) (by omega);have st:aK 109 [.one (.J 2 ((pv c).map bD.e)),.one (.J 2 ((pv c).map bD.e))] [.one (B true)]:=by
  have k:=aol (pv c) (pv c) (QJ (by omega));rwa[dU rfl]at k
 have a':=ef (P:=prog) (c:=(az f11 0)) (cL 0) (lB c).length (fun i:Nat=>Bl (b.map hq) ((lB c).map aA.e) ((pv c).map bD.e) i) (fun i hi=>by
  obtain⟨a,ag⟩:=dv hi;have k:=ai1 (pv c) a.bc (QJ (by omega));rw[aoG c (c8 ag)]at k;exact aiV ⟨cg hi,bG,bJ hi,bF aA.e ag,k,rfl,cY hi af,aj⟩) (aiW ⟨dH,aj⟩)
 have one:=(Ef Fk (by decide)).args ai4;have fin:(((lB Fk).map aA.e).length:Int)=1:=by rw[bp,Kz];rfl
 have t:aK 11 [.one (.J 1 (b.map hq))] [.one (B ((((lB Fk).map aA.e).length:Int)==1))]:=aiX ⟨big,rfl,lm,Ef c (by omega),KA c (by omega),Ue _ af,rfl,Sp c (by omega),Sn c (by omega),Uf (x7 (by omega)),rfl,ai0 c (by omega),aiZ c (by omega),by simp,aoD c (by omega),aoC c (by omega),st,rfl,a',o4,Ww,ap7 d e (by omega),ap6 d e (by omega),Uf (ap5 (by omega)),rfl,apf x k (by omega),KA x (by omega),Kv (lB x) k (Ee (by omega)),Ue (Kx x k) (ape (by omega)),rfl,one,aj⟩;rw[fin]at t;exact t
