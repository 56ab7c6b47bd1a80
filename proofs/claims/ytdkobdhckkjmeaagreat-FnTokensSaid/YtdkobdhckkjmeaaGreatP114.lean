import Derived.Test.YtdkobdhckkjmeaaGreatP52
import Derived.Test.YtdkobdhckkjmeaaGreatP79
import Derived.Test.YtdkobdhckkjmeaaGreatP47
import Derived.Test.YtdkobdhckkjmeaaGreatP21
import Derived.Test.YtdkobdhckkjmeaaGreatC6
import Derived.Test.YtdkobdhckkjmeaaGreatGO
set_option linter.unusedVariables false
set_option linter.unusedSimpArgs false
namespace Go.Proofs.YtdkobdhckkjmeaaGreat
open Go.Sx Go.RowKit Go.Proofs.Tryz
theorem Nums.got'{c:Cluster}(h:Nums c):GotLe c:=fun l hl=>(h.l l hl).2
def goingOf(c:Cluster):Nat:=(c.tokens.filter Token.going).length
theorem Cluster.toks{c:Cluster}(h:c.sz≤8388608):c.tokens.length≤8388608:=by simp only[Cluster.sz]at h;omega
theorem impl_TokensGoing_ret(c:Cluster)(hc:c.sz≤8388608):Rt 45 [.agg c.e] [.one (I (goingOf c:Nat))]:=by
 have hl:=Cluster.toks hc;have l:=qao (P:=prog) (c:=(qaa f45 0)) (qaf 0) c.tokens.length (fun i:Nat=>impl_TokensGoing_L0 (c.tokens.map Token.e) i (((c.tokens.take i).filter Token.going).length:Nat)) (fun i hi=>by
  obtain⟨a,ha⟩:=qal hi;have hf:=qju Token.going c.tokens i;have hs:=qeY Token.going ha;by_cases hp:Token.going a=true
  ·rw[zp hp]at hs;rw[hs,zab];exact impl_TokensGoing_L0_s0 ⟨lt1 hi,lt0,lt2 hi,qac Token.e ha,hp,⟨by omega,by omega⟩,up1 hi hl,trivial⟩
  ·rw[zo hp,zaa]at hs;rw[hs];exact impl_TokensGoing_L0_s1 ⟨lt1 hi,lt0,lt2 hi,qac Token.e ha,zQ.2 hp,up1 hi hl,trivial⟩) (impl_TokensGoing_L0_x2 ⟨ge1,trivial⟩)
 rw[zC]at l;exact impl_TokensGoing_p0 ⟨l,trivial⟩
theorem spec_TokensGoing_ret(c:Cluster)(hc:c.sz≤8388608):Rt 46 [.agg c.e] [.one (I (goingOf c:Nat))]:=by
 have hl:=Cluster.toks hc;have l:=qao (P:=prog) (c:=(qaa f46 0)) (qaf 0) c.tokens.length (fun i:Nat=>spec_TokensGoing_L0 (c.graph.nodes.map Node.e) c.graph.workers c.graph.cap (c.workers.map Worker.e) (c.links.map Link.e) (c.tokens.map Token.e) (c.news.map News.e) i (((c.tokens.take i).filter Token.going).length:Nat)) (fun i hi=>by
  obtain⟨a,ha⟩:=qal hi;have hf:=qju Token.going c.tokens i;have hs:=qeY Token.going ha;by_cases hp:Token.going a=true
  ·rw[zp hp]at hs;rw[hs,zab];exact spec_TokensGoing_L0_s0 ⟨lt1 hi,lt0,lt2 hi,qac Token.e ha,hp,⟨by omega,by omega⟩,up1 hi hl,trivial⟩
  ·rw[zo hp,zaa]at hs;rw[hs];exact spec_TokensGoing_L0_s1 ⟨lt1 hi,lt0,lt2 hi,qac Token.e ha,zQ.2 hp,up1 hi hl,trivial⟩) (spec_TokensGoing_L0_x2 ⟨ge1,trivial⟩)
 rw[zC]at l;exact spec_TokensGoing_p0 ⟨l,trivial⟩
def roundsAt(c:Cluster)(e:Int):Bool:=match c.workers with | []=>false | w::_=>qaz w e
theorem spec_RoundsDone_all(c:Cluster)(e:Int)(hc:c.sz≤8388608):Rt 44 [.agg c.e,.one (I e)] [.one (B (roundsAt c e))]:=by
 obtain⟨g,ws,ls,ts,ns⟩:=c;cases ws with
 | nil=>exact spec_RoundsDone_p1 ⟨by simp,trivial⟩
 | cons w ws=>
  have hw:w.sz≤8388608:=Cluster.worker_sz hc (by simp);exact qKV ⟨by simp only[zb,zq,gt_iff_lt,zi];omega,by omega,by simp only[zb,zq];omega,rfl,qEf w e hw,trivial⟩
theorem impl_RoundsDone_all(c:Cluster)(e:Int)(hc:c.sz≤8388608):Rt 43 [.agg c.e,.one (I e)] [.one (B (roundsAt c e))]:=by
 obtain⟨g,ws,ls,ts,ns⟩:=c;cases ws with
 | nil=>exact impl_RoundsDone_p1 ⟨by simp,trivial⟩
 | cons w ws=>
  have hw:w.sz≤8388608:=Cluster.worker_sz hc (by simp);exact impl_RoundsDone_p0 ⟨by simp only[zb,zq,gt_iff_lt,zi];omega,by omega,by simp only[zb,zq];omega,rfl,qri w e hw,trivial⟩
theorem token_true{c:Cluster}{e:Int}(h:(qbc c e).2=true):∃(t:Token) (x:Worker),tAt c e=some t∧wAt c t.place=some x∧wAt c 0≠none∧qbc c e=tokenAt c e t x:=by
 unfold qbc at h ⊢;by_cases hk:(qai c&&inR e 0 3)=true
 ·rw[zp hk]at h ⊢;cases h0:wAt c 0 with
  | none=>rw[h0]at h;cases h
  | some x0=>
   cases ht:tAt c e with
   | none=>rw[h0,ht]at h;cases h
   | some t=>
    rw[h0,ht]at h;dsimp only at h ⊢;by_cases hd:qaz x0 e=true
    ·rw[zp hd]at h;cases h
    ·rw[zo hd]at h ⊢;cases hx:wAt c t.place with
     | none=>rw[hx]at h;cases h
     | some x=>exact⟨t,x,rfl,hx,by simp,rfl⟩
 ·rw[zo hk]at h;cases h
theorem token_false{c:Cluster}{e:Int}(h:(qbc c e).2=false):(qbc c e).1=c:=by
 unfold qbc at h ⊢;split at h
 ·rename_i hk;rw[zp hk];split at h
  ·rename_i x0 t h0 ht;split at h
   ·rename_i hd;rw[zp hd]
   ·rename_i hd;rw[zo hd];cases hx:wAt c t.place with
    | none=>rfl
    | some x=>
     rw[hx]at h;dsimp only at h ⊢;rcases qcY c e t x with⟨_,k⟩ | ⟨k,_⟩
     ·exact k
     ·rw[k]at h;cases h
  ·rfl
 ·rename_i hk;rw[zo hk]
theorem def_same(e:Int):∀(ws vs:List Worker) (a:Int),ws.map Worker.sums=vs.map Worker.sums→ws.foldl (defF e) a=vs.foldl (defF e) a
 | [],[],_,_=>rfl
 | [],v::vs,_,h=>by simp at h
 | w::ws,[],_,h=>by simp at h
 | w::ws,v::vs,a,h=>by
  simp only[zav,zbr]at h;rw[List.foldl_cons,List.foldl_cons,show defF e a w=defF e a v by unfold defF;rw[h.1]];exact def_same e ws vs _ h.2
theorem sums_set{ws:List Worker}{i:Nat}{x y:Worker}(hx:ws[i]?=some x)(h:y.sums=x.sums):(ws.set i y).map Worker.sums=ws.map Worker.sums:=by
 rw[zau,h];exact qie (by rw[zr,hx];rfl)
theorem def_token{c:Cluster}{e:Int}:qfq (qbc c e).1 e=qfq c e:=by
 cases h:(qbc c e).2 with
 | false=>rw[token_false h]
 | true=>
  obtain⟨t,x,_,hx,_,k⟩:=token_true h;rw[k];unfold qfq;refine def_same e _ _ 0 ?_;have hw:=(qaC hx).2.2;rcases qcY c e t x with⟨_,k⟩ | ⟨_,_,⟨_,k⟩ | ⟨_,_,k⟩ | ⟨_,hn,_,k⟩ | ⟨_,_,_,k⟩⟩<;>rw[k]
  ·exact sums_set (x:=x) (y:=qaA x e) hw rfl
  ·exact sums_set (x:=x) (y:=qaA x e) hw rfl
  ·have hz:t.place=0:=by have:=(qaC hx).1;omega
   rw[hz]at hw;exact sums_set (x:=x) (y:=told x e (t.capped||x.caps.getD e.toNat false)) hw rfl
  ·rfl
theorem toks_token{c:Cluster}{e:Int}:(qbc c e).1.tokens.length=c.tokens.length:=by
 cases h:(qbc c e).2 with
 | false=>rw[token_false h]
 | true=>
  obtain⟨t,x,_,hx,_,k⟩:=token_true h;rw[k];have st:∀u:Token,(c.tokens.set e.toNat u).length=c.tokens.length:=fun u=>zn ..
  rcases qcY c e t x with⟨_,k⟩ | ⟨_,_,⟨_,k⟩ | ⟨_,_,k⟩ | ⟨_,hn,_,k⟩ | ⟨_,_,_,k⟩⟩<;>rw[k]<;>exact st _
theorem pass_token{c:Cluster}{e:Int}{t:Token}{x:Worker}(h:(tokenAt c e t x).2=true):qbF x e=true:=by
 rcases qcY c e t x with⟨k,_⟩ | ⟨_,k,_⟩
 ·rw[k]at h;cases h
 ·exact k
def oneT:Graph:=⟨[⟨1,0,0,[]⟩],1,1⟩
theorem oneTNew:newOk oneT []=true:=by decide +kernel
theorem oneT1:(qbc (qaI oneT []) 2).2=true:=by decide +kernel
theorem oneT2:(qbc (qbc (qaI oneT []) 2).1 2).2=true:=by decide +kernel
theorem oneT3:roundsAt (qbc (qbc (qaI oneT []) 2).1 2).1 2=true:=by decide +kernel
theorem oneT4:roundsAt (qbc (qaI oneT []) 2).1 2=false:=by decide +kernel
theorem oneTArgs:FitAs [.agg [.sl 4 [[I 1,I 0,I 0,.v (.slice none 0 0)]],I 1,I 1],.one (.v (.slice none 0 0))] [.agg oneT.e,.one (.sl 5 (([]:List Record).map Record.e))]:=
 .cons (.agg (.cons (.sl 4 (.cons (.cons (.refl _) (.cons (.refl _) (.cons (.refl _) (.cons (.nil 1) .nil)))) .nil)) (FitE.refl _))) (.cons (.one (.nil 5)) .nil)
theorem got_token(c:Cluster)(e:Int)(h:GotLe c):GotLe (qbc c e).1:=by
 cases hb:(qbc c e).2 with
 | false=>rw[token_false hb];exact h
 | true=>
  obtain⟨t,x,_,_,_,k⟩:=token_true hb;rw[k];exact (qJM c e t x).got h
theorem sz_token(c:Cluster)(e:Int):(qbc c e).1.sz≤c.sz+4:=qso c ⟨6,e,0⟩
theorem law_Tokens(b:List Int)(hb:∀a∈b,(fun n=>0≤n∧n≤255) a):Rt 7 [.one (.sl 1 (b.map eU))] [.one (B true)]:=by
 by_cases hbig:(b.length:Int)>1048576
 ·have:=qku (b.map eU) trivial;rw[zap (by simpa using hbig)]at this;exact laws_FnTokens_p0 ⟨this,rfl,trivial⟩
 have big:=qku (b.map eU) trivial;rw[zt (by simpa using hbig)]at big;have hB:Bytes b:=⟨by omega,hb⟩
 obtain⟨cu,hcu,r0⟩:=qp0 b hB;obtain⟨d1,c,o1,⟨nc,zc⟩,r1⟩:=spec_l14Any_ret b cu hcu;obtain⟨d2,e,o2,he,r2⟩:=qwv b d1 [0,0,1,2,3,-1,4] o1 (by simp);have dr:=spec_DrawTokenStep_p0 ⟨r0,r1,r2,trivial⟩;have gc:=nc.got';have zx:=sz_token c e;have t1:=qMr c e (by omega) gc;have t2:=spec_TokenStep_ret c e (by omega) gc;have sx:=qPG (qbc c e).1 (by omega);have q1:=impl_RoundsDone_all c e (by omega);have q2:=spec_RoundsDone_all c e (by omega);have q3:=impl_TokensGoing_ret c (by omega);have q4:=spec_TokensGoing_ret c (by omega);have q5:=qHM c e (by omega);have q6:=qHL c e (by omega);have nw:=(qsT oneT [] (by decide)).args oneTArgs;rw[qka oneTNew]at nw;have g0:=qsV oneT [];have g1:=got_token (qaI oneT []) 2 g0;have z0:(qaI oneT []).sz≤100:=by decide +kernel
 have z1:=sz_token (qaI oneT []) 2;have z2:=sz_token (qbc (qaI oneT []) 2).1 2;have a1:=qMr (qaI oneT []) 2 (by omega) g0;have a2:=qMr (qbc (qaI oneT []) 2).1 2 (by omega) g1;have a3:=spec_RoundsDone_all (qbc (qbc (qaI oneT []) 2).1 2).1 2 (by omega);have a4:=spec_RoundsDone_all (qbc (qaI oneT []) 2).1 2 (by omega);rw[oneT1]at a1;rw[oneT2]at a2;rw[oneT3]at a3;rw[oneT4]at a4;cases hk:(qbc c e).2 with
 | false=>
  rw[hk]at t1 t2;have hx:=token_false hk;have sc:=qPG c (by omega);have sc2:Rt 33 [.agg (qbc c e).1.e,.agg c.e] [.one (B true)]:=by rw[hx];exact sc
  exact laws_FnTokens_p6 ⟨big,rfl,dr,t1,t2,by simp,sx,rfl,q1,q2,by simp,q3,q4,by simp,q5,q6,by simp,nw,a1,a2,rfl,rfl,a3,rfl,a4,rfl,sc2,rfl,trivial⟩
 | true=>
  rw[hk]at t1 t2;obtain⟨t,x,ht,hx,_,k⟩:=token_true hk;obtain⟨tE0,tE1,tE2⟩:=qs2 ht;obtain⟨wE0,wE1,wE2⟩:=qb1 hx;have hp:=pass_token (k▸hk);have pa:=qs0 x e true hp (qcc hx (by omega));have tl:(((qbc c e).1.tokens.map Token.e).length:Int)=((c.tokens.map Token.e).length:Nat):=by rw[zb,zb,toks_token]
  have q7:=spec_RoundsDone_all (qbc c e).1 e (by omega);cases hr:roundsAt (qbc c e).1 e with
  | false=>
   rw[hr]at q7;exact laws_FnTokens_p8 ⟨big,rfl,dr,t1,t2,by simp,sx,rfl,q1,q2,by simp,q3,q4,by simp,q5,q6,by simp,nw,a1,a2,rfl,rfl,a3,rfl,a4,rfl,rfl,by rw[tl];simp,tE0,tE1,tE2,wE0,wE1,wE2,pa,rfl,q7,rfl,trivial⟩
  | true=>
   rw[hr]at q7;have q8:=qHL (qbc c e).1 e (by omega);rw[def_token]at q8;have fin:Rt 7 [.one (.sl 1 (b.map eU))] [.one (B (qfq c e==qfq c e))]:=laws_FnTokens_p9 ⟨big,rfl,dr,t1,t2,by simp,sx,rfl,q1,q2,by simp,q3,q4,by simp,q5,q6,by simp,nw,a1,a2,rfl,rfl,a3,rfl,a4,rfl,rfl,by rw[tl];simp,tE0,tE1,tE2,wE0,wE1,wE2,pa,rfl,q7,rfl,q6,q8,trivial⟩;rwa[zby]at fin
