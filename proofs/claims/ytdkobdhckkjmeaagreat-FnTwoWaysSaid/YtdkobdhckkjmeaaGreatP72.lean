/- Capped: what the program computes. -/
import Derived.Test.YtdkobdhckkjmeaaGreatP18
import Derived.Test.YtdkobdhckkjmeaaGreatP55
import Derived.Test.YtdkobdhckkjmeaaGreatGW
import Derived.Test.YtdkobdhckkjmeaaGreatP42
import Derived.Test.YtdkobdhckkjmeaaGreatP43
set_option linter.unusedVariables false
set_option linter.unusedSimpArgs false
namespace Go.Proofs.YtdkobdhckkjmeaaGreat
open Go.Sx Go.RowKit Go.Proofs.Tryz
theorem qO6{g:Graph}{op:Int}{x:Node}(h:qaN g op=some x):0≤op∧op<(↑(g.nodes.map Node.e).length:Int)∧(g.nodes.map Node.e)[op.toNat]?=some x.e:=by
 unfold qaN at h;split at h
 ·have:=lt_of h;exact⟨‹_›,by rw[zb];omega,qad Node.e h⟩
 ·cases h
theorem qO7(g:Graph)(r:Record)(hg:g.sz≤8388608):Rt 292 [.agg g.e,.agg r.e] [.one (B (capped g r))]:=by
 have k:=qfm g hg;have kr:=qdt r;have nt:=qmA r.stamp;cases h1:qax g with
 | false=>
  rw[h1]at k;rw[show capped g r=false by unfold capped;split<;>simp[qbH,h1]];exact qD8 ⟨k,rfl,trivial⟩
 | true=>
 rw[h1]at k;cases h2:qaC r with
 | false=>
  rw[h2]at kr;rw[show capped g r=false by unfold capped;split<;>simp[qbH,h2]];exact qD9 ⟨k,rfl,kr,rfl,trivial⟩
 | true=>
 rw[h2]at kr;cases h3:qaN g r.op with
 | none=>
  rw[show capped g r=false by unfold capped;rw[h3]];exact qEa ⟨k,rfl,kr,rfl,qgn g r.op false (by rw[h3];rfl) hg,rfl,trivial⟩
 | some x=>
  obtain⟨m1,m2,m3⟩:=qO6 h3;have ni:=qgn g r.op true (by rw[h3];rfl) hg;rw[show capped g r=qbH g r x by unfold capped;rw[h3]];cases h4:(x.kind==7) with
  | false=>
   rw[show qbH g r x=false by simp[qbH,h4]];exact qEd ⟨k,rfl,kr,rfl,ni,rfl,m1,m2,m3,nt,h4,trivial⟩
  | true=>
  by_cases h5:0<x.outs.length
  ·rw[show qbH g r x=!(qaG r.stamp).2 by simp[qbH,h1,h2,h4,h5]];exact qEb ⟨k,rfl,kr,rfl,ni,rfl,m1,m2,m3,nt,h4,dT (by rw[zb];omega),trivial⟩
  ·rw[show qbH g r x=false by simp[qbH,h5]];exact qEc ⟨k,rfl,kr,rfl,ni,rfl,m1,m2,m3,nt,h4,dF (by rw[zb];omega),trivial⟩
end Go.Proofs.YtdkobdhckkjmeaaGreat
namespace Go.Proofs.YtdkobdhckkjmeaaGreat
open Go.Sx Go.RowKit Go.Proofs.Tryz
section
variable {xs : List Record} {r : Record} {t : List Record}
theorem qdI(h:xs=r::t):((xs.map Record.e).drop 1).take ((xs.map Record.e).length-1)=t.map Record.e:=by subst h;exact zbk (by simp)
theorem qcr(h:xs=r::t):(0:Int)<(↑(xs.map Record.e).length:Int):=by subst h;simp only[zb,zq];omega
theorem qcZ(h:xs=r::t):(xs.map Record.e)[0]?=some r.e:=by subst h;rfl
theorem len_t(h:xs=r::t):((↑(xs.map Record.e).length:Int)==0)=false:=by
 have:=qcr h;rw[zQ,zcc,zE];omega
theorem len_f(h:xs=[]):((↑(xs.map Record.e).length:Int)==0)=true:=by subst h;rfl
theorem pos_t(h:xs=r::t):decide ((↑(xs.map Record.e).length:Int)>0)=true:=dT (qcr h)
theorem pos_f(h:xs=[]):decide ((↑(xs.map Record.e).length:Int)>0)=false:=by subst h;rfl
theorem cut_a:(0:Int)≤(some (1:Int)).getD 0:=by decide
theorem cut_b(h:xs=r::t):(some (1:Int)).getD 0≤(none:Option Int).getD (↑(xs.map Record.e).length:Int):=by
 have:=qcr h;simp only[zV,Option.getD_none];omega
theorem cut_c{l:List (List D)}:(none:Option Int).getD (↑l.length:Int)≤(↑l.length:Int):=by simp
end
theorem one_m{xs:List Record}{a:List D}(h:xs.length≤8388608):((xs.map Record.e).length+[a].length)*40≤140737488355328:=by simp;omega
theorem one_x{xs:List Record}{a:List D}(h:xs.length≤8388608):(xs.map Record.e).length+[a].length≤9223372036854775807:=by simp;omega
theorem qtZ(a:Int)(q:List Record)(r:Record)(b c d e:Int):Link.e ⟨a,q++[r],b,c,d,e⟩=[I a,.sl 5 (q.map Record.e++[r.e]),I b,I c,I d,I e]:=by
 simp only[Link.e,zU];rfl
theorem qg1{l:Link}(h:qbq l=true):(0≤l.credits∧l.credits≤4)∧(0≤l.back∧l.back≤4)∧(0≤l.sent∧l.sent≤1000000000)∧(0≤l.got∧l.got≤1000000000)∧l.queue.length≤4:=by
 obtain⟨k1,k2,k3,k4,k5,k6,k7,k8⟩:=qcn.1 h;simp only[inR,zi]at k1 k2 k3 k5;omega
theorem qPb(l:Link)(r:Record)(hl:l.sz≤8388608)(hg:l.got≤9223372036854775807):Rt 190 [.agg l.e,.agg r.e] [.agg (qaz l r).1.e,.one (B (qaz l r).2)]:=by
 have cp:=qki l hl;have k:=qj0 l hl hg;have kr:=qdt r;have hq:l.queue.length≤8388608:=hl;cases h1:qbq l with
 | false=>
  rw[h1]at k;rw[show qaz l r=(l,false) by unfold qaz;simp[h1]];exact qNG ⟨cp,k,rfl,trivial⟩
 | true=>
 rw[h1]at k;cases h2:qaC r with
 | false=>
  rw[h2]at kr;rw[show qaz l r=(l,false) by unfold qaz;simp[h2]];exact qNH ⟨cp,k,rfl,kr,rfl,trivial⟩
 | true=>
 rw[h2]at kr;by_cases h3:l.credits=0
 ·rw[show qaz l r=(l,false) by unfold qaz;simp[h3]];exact qNI ⟨cp,k,rfl,kr,rfl,by rw[zE];exact h3,trivial⟩
 have h3':(l.credits==0)=false:=by rw[zQ,zcc,zE];exact h3
 obtain⟨n1,n2,n3,n4,n5⟩:=qg1 h1;by_cases h4:l.sent<1000000000
 ·rw[show qaz l r=(⟨l.cap,l.queue++[r],l.credits-1,l.back,l.sent+1,l.got⟩,true) by unfold qaz;simp[h1,h2,h3,h4]];dsimp only;rw[qtZ];exact qNK ⟨cp,k,rfl,kr,rfl,h3',by rw[zQ,zcc,zE];omega,one_m hq,one_x hq,qat (Record.flat r),⟨by omega,by omega⟩,⟨by omega,by omega⟩,trivial⟩
 ·rw[show qaz l r=(l,false) by unfold qaz;simp[h4]];dsimp only;exact qNJ ⟨cp,k,rfl,kr,rfl,h3',by rw[zE];omega,trivial⟩
theorem qPc(l:Link)(hl:l.sz≤8388608)(hg:l.got≤9223372036854775807):Rt 195 [.agg l.e] [.agg (qaq l).1.e,.agg (qaq l).2.1.e,.one (B (qaq l).2.2)]:=by
 have cp:=qki l hl;have k:=qj0 l hl hg;have hq:l.queue.length≤8388608:=hl;cases h1:qbq l with
 | false=>
  rw[h1]at k;rw[show qaq l=(l,rec0,false) by unfold qaq;simp[h1]];exact qNU ⟨cp,k,rfl,trivial⟩
 | true=>
 rw[h1]at k;cases h2:l.queue with
 | nil=>
  rw[show qaq l=(l,rec0,false) by unfold qaq;rw[zp h1];simp only[h2]];exact qNV ⟨cp,k,rfl,len_f h2,trivial⟩
 | cons r q=>
  obtain⟨n1,n2,n3,n4,n5⟩:=qg1 h1;rw[show qaq l=(⟨l.cap,q,l.credits,l.back+1,l.sent,l.got+1⟩,r,true) by unfold qaq;rw[zp h1];simp only[h2]];have e:Link.e ⟨l.cap,q,l.credits,l.back+1,l.sent,l.got+1⟩=[I l.cap,.sl 5 (((l.queue.map Record.e).drop 1).take ((l.queue.map Record.e).length-1)),I l.credits,I (l.back+1),I l.sent,I (l.got+1)]:=by rw[qdI h2];rfl
  dsimp only;rw[e];exact qNW ⟨cp,k,rfl,len_t h2,cut_a,cut_b h2,cut_c,⟨by omega,by omega⟩,⟨by omega,by omega⟩,by omega,qcr h2,qcZ h2,trivial⟩
theorem qPd(l:Link)(hl:l.sz≤8388608)(hg:l.got≤9223372036854775807):Rt 198 [.agg l.e] [.agg (qaQ l).1.e,.one (B (qaQ l).2)]:=by
 have cp:=qki l hl;have k:=qj0 l hl hg;cases h1:qbq l with
 | false=>
  rw[h1]at k;rw[show qaQ l=(l,false) by unfold qaQ;simp[h1]];exact qNe ⟨cp,k,rfl,trivial⟩
 | true=>
 rw[h1]at k;by_cases h3:l.back=0
 ·rw[show qaQ l=(l,false) by unfold qaQ;simp[h3]];exact qNf ⟨cp,k,rfl,by rw[zE];exact h3,trivial⟩
 ·obtain⟨n1,n2,n3,n4,n5⟩:=qg1 h1;rw[show qaQ l=(⟨l.cap,l.queue,l.credits+1,l.back-1,l.sent,l.got⟩,true) by unfold qaQ;simp[h1,h3]];exact qNg ⟨cp,k,rfl,by rw[zQ,zcc,zE];exact h3,⟨by omega,by omega⟩,⟨by omega,by omega⟩,trivial⟩
theorem qt0{n a b:Int}(hn:1≤n∧n≤4)(ha:inR a 0 (n-1)=true)(hb:inR b 0 (n-1)=true):inInt .i64 (a*n)∧inInt .i64 (a*n+b):=by
 simp only[inR,zi]at ha hb;have hn4:n=1∨n=2∨n=3∨n=4:=by omega
 rcases hn4 with rfl | rfl | rfl | rfl<;>exact⟨⟨by omega,by omega⟩,⟨by omega,by omega⟩⟩
theorem qt2(g:Graph)(a b:Int)(hn:1≤g.workers∧g.workers≤4):Rt 61 [.agg g.e,.one (I a),.one (I b)] [.one (I (qaw g a b))]:=by
 cases hh:(inR a 0 (g.workers-1)&&inR b 0 (g.workers-1)) with
 | true=>
  rw[zj]at hh;obtain⟨j1,j2⟩:=qt0 hn hh.1 hh.2;rw[(qeB hn hh.1 hh.2).1];obtain⟨ha,hb⟩:=hh;simp only[inR,zi]at ha hb;exact qNs ⟨dF (by split<;>omega),dF (by split<;>omega),j1,j2,trivial⟩
 | false=>
  rw[qd0 hh];have hh':¬((0≤a∧a≤g.workers-1)∧(0≤b∧b≤g.workers-1)):=by
   intro k;have:(inR a 0 (g.workers-1)&&inR b 0 (g.workers-1))=true:=by simp only[inR,zj,zi];exact k
   rw[this]at hh;cases hh
  by_cases hm:(if b<a then b else a)<0
  ·exact qNq ⟨dT hm,trivial⟩
  ·exact qNr ⟨dF hm,dT (by split at hm<;>split<;>omega),trivial⟩
theorem qnP(w:Worker)(r:Record):(kept w r).e=[.sl 5 (w.queue.map Record.e++[r.e]),.sl 5 (w.staged.map Record.e),.sl 5 (w.inputs.map Record.e),.sl 4 (w.cells.map Cell.e),.sl 1 (w.sums.map eI),.sl 1 (w.black.map eB),.sl 1 (w.caps.map eB),.sl 2 (w.dones.map Done.e)]:=by
 simp only[kept,Worker.e,zU];rfl
theorem qPe(w:Worker)(r:Record):(received w r).e=[.sl 5 (w.queue.map Record.e++[r.e]),.sl 5 (w.staged.map Record.e),.sl 5 (w.inputs.map Record.e),.sl 4 (w.cells.map Cell.e),.sl 1 ((w.sums.map eI).set r.stamp.epoch.toNat [I (w.sums.getD r.stamp.epoch.toNat 0-1)]),.sl 1 ((w.black.map eB).set r.stamp.epoch.toNat [B true]),.sl 1 (w.caps.map eB),.sl 2 (w.dones.map Done.e)]:=by
 simp only[received,incAt,Worker.e,zU,zau];rfl
theorem qt3(w:Worker)(e:Int):(qbZ w e).e=[.sl 5 (w.queue.map Record.e),.sl 5 (w.staged.map Record.e),.sl 5 (w.inputs.map Record.e),.sl 4 (w.cells.map Cell.e),.sl 1 ((w.sums.map eI).set e.toNat [I (w.sums.getD e.toNat 0+1)]),.sl 1 (w.black.map eB),.sl 1 (w.caps.map eB),.sl 2 (w.dones.map Done.e)]:=by
 simp only[qbZ,incAt,Worker.e,zau];rfl
theorem qt4(w:Worker)(r:Record)(hw:w.sz≤8388608):Rt 189 [.agg w.e,.agg r.e] [.agg (kept w r).e]:=by
 have hq:w.queue.length≤8388608:=by simp only[Worker.sz]at hw;omega
 rw[qnP];exact qNp ⟨qgN w hw,one_m hq,one_x hq,qat (Record.flat r),trivial⟩
theorem qPf(w:Worker)(r:Record)(hw:w.sz≤8388608)(h4:w.sums.length=4)(hb:w.black.length=4)(he:0≤r.stamp.epoch∧r.stamp.epoch≤3)(hs:-1000000≤w.sums.getD r.stamp.epoch.toNat 0∧w.sums.getD r.stamp.epoch.toNat 0≤1000000):
  Rt 196 [.agg w.e,.agg r.e] [.agg (received w r).e]:=by
 have k:=qt4 w r hw;rw[qnP]at k;rw[qPe];obtain⟨s1,s2⟩:=int4 h4 he;obtain⟨b1,b2⟩:=bool4 hb he;have hif:(if (↑(w.black.map eB).length:Int)<(↑(w.sums.map eI).length:Int) then (↑(w.black.map eB).length:Int) else (↑(w.sums.map eI).length:Int))-1=3:=by
  rw[zb,zb,h4,hb];rfl
 exact qNC _ _ _ _ _ _ _ _ _ _ _ _ _ _ _ _ _ _ _ _ _ _ _ _ _ ⟨k,⟨by rw[hif];omega,by rw[hif];omega⟩,qaP _ _ _ true (by rw[hif];simp only[inR,zi];omega),rfl,he.1,s1,s2,⟨by omega,by omega⟩,he.1,s1,s2,he.1,b1,b2,trivial⟩
theorem qPg(w:Worker)(e:Int)(hw:w.sz≤8388608)(h4:w.sums.length=4)(he:0≤e∧e≤3)(hs:-1000000≤w.sums.getD e.toNat 0∧w.sums.getD e.toNat 0≤1000000):
  Rt 191 [.agg w.e,.one (I e)] [.agg (qbZ w e).e]:=by
 rw[qt3];obtain⟨s1,s2⟩:=int4 h4 he;have hif:(↑(w.sums.map eI).length:Int)-1=3:=by rw[zb,h4];rfl
 exact qNL _ _ _ _ _ _ _ _ _ _ _ _ _ _ _ _ _ _ _ _ ⟨qgN w hw,⟨by rw[hif];omega,by rw[hif];omega⟩,qaP _ _ _ true (by rw[hif];simp only[inR,zi];omega),rfl,he.1,s1,s2,⟨by omega,by omega⟩,he.1,s1,s2,trivial⟩
theorem qPh(w:Worker)(r:Record)(t:List Record)(hw:w.sz≤8388608)(h:w.staged=r::t):Rt 188 [.agg w.e] [.agg (qbf w t).e,.agg r.e,.one (B true)]:=by
 have e:(qbf w t).e=[.sl 5 (w.queue.map Record.e),.sl 5 (((w.staged.map Record.e).drop 1).take ((w.staged.map Record.e).length-1)),.sl 5 (w.inputs.map Record.e),.sl 4 (w.cells.map Cell.e),.sl 1 (w.sums.map eI),.sl 1 (w.black.map eB),.sl 1 (w.caps.map eB),.sl 2 (w.dones.map Done.e)]:=by rw[qdI h];rfl
 rw[e];exact qN3 ⟨qgN w hw,len_t h,cut_a,cut_b h,cut_c,by omega,qcr h,qcZ h,trivial⟩
theorem qPi(g:Graph)(w:Worker)(hg:g.sz≤8388608)(hw:w.sz≤8388608):Rt 203 [.agg g.e,.agg w.e] [.agg (qaZ g w).1.e,.one (B (qaZ g w).2)]:=by
 have cp:=qgN w hw;have k:=qfm g hg;have kw:=qj4 g w hg hw;have hcl:w.cells.length≤8388608:=by simp only[Worker.sz]at hw;omega
 cases h1:qax g with
 | false=>
  rw[h1]at k;rw[show qaZ g w=(w,false) by unfold qaZ;simp[h1]];exact qN4 ⟨cp,k,rfl,trivial⟩
 | true=>
 rw[h1]at k;cases h2:qaK g w with
 | false=>
  rw[h2]at kw;rw[show qaZ g w=(w,false) by unfold qaZ;simp[h2]];exact qN5 ⟨cp,k,rfl,kw,rfl,trivial⟩
 | true=>
 rw[h2]at kw;have hu:qaZ g w=match w.staged,w.queue with
  | [],r::q=>(⟨q,(qav g w.cells r).2.1,w.inputs,(qav g w.cells r).1,w.sums,w.black,(if capped g r then w.caps.set r.stamp.epoch.toNat true else w.caps),w.dones⟩,true)
  | _,_=>(w,false):=by unfold qaZ;rw[h1,h2];rfl
 cases h3:w.staged with
 | cons r q=>
  rw[show qaZ g w=(w,false) by rw[hu,h3]];exact qN6 ⟨cp,k,rfl,kw,rfl,pos_t h3,trivial⟩
 | nil=>
 cases h4:w.queue with
 | nil=>
  rw[show qaZ g w=(w,false) by rw[hu,h3,h4]];exact qN7 ⟨cp,k,rfl,kw,rfl,pos_f h3,len_f h4,trivial⟩
 | cons r q=>
  have st:=qEl g w.cells r hg hcl;have ca:=qO7 g r hg;obtain⟨k1,_,_,_,_,_,k7,_⟩:=qbd.1 h2;rw[h4,qdc]at k1;have he:=qdE k1.1;obtain⟨c1,c2⟩:=bool4 k7 he;cases h5:capped g r with
  | true=>
   rw[h5]at ca;rw[show qaZ g w=(⟨q,(qav g w.cells r).2.1,w.inputs,(qav g w.cells r).1,w.sums,w.black,w.caps.set r.stamp.epoch.toNat true,w.dones⟩,true) by rw[hu,h3,h4];simp only[h5,zbb]];have e:Worker.e ⟨q,(qav g w.cells r).2.1,w.inputs,(qav g w.cells r).1,w.sums,w.black,w.caps.set r.stamp.epoch.toNat true,w.dones⟩=[.sl 5 (((w.queue.map Record.e).drop 1).take ((w.queue.map Record.e).length-1)),.sl 5 ((qav g w.cells r).2.1.map Record.e),.sl 5 (w.inputs.map Record.e),.sl 4 ((qav g w.cells r).1.map Cell.e),.sl 1 (w.sums.map eI),.sl 1 (w.black.map eB),.sl 1 ((w.caps.map eB).set r.stamp.epoch.toNat [B true]),.sl 2 (w.dones.map Done.e)]:=by
    rw[qdI h4];simp only[Worker.e,zau];rfl
   dsimp only;rw[e];exact qN8 _ _ _ _ _ _ _ _ _ _ _ _ _ _ _ _ _ _ _ _ _ _ _ _ _ _ _ _ _ _ _ ⟨cp,k,rfl,kw,rfl,pos_f h3,len_t h4,by omega,qcr h4,qcZ h4,cut_a,cut_b h4,cut_c,st,ca,rfl,he.1,c1,c2,trivial⟩
  | false=>
   rw[h5]at ca;rw[show qaZ g w=(⟨q,(qav g w.cells r).2.1,w.inputs,(qav g w.cells r).1,w.sums,w.black,w.caps,w.dones⟩,true) by rw[hu,h3,h4];simp only[h5];rfl];have e:Worker.e ⟨q,(qav g w.cells r).2.1,w.inputs,(qav g w.cells r).1,w.sums,w.black,w.caps,w.dones⟩=[.sl 5 (((w.queue.map Record.e).drop 1).take ((w.queue.map Record.e).length-1)),.sl 5 ((qav g w.cells r).2.1.map Record.e),.sl 5 (w.inputs.map Record.e),.sl 4 ((qav g w.cells r).1.map Cell.e),.sl 1 (w.sums.map eI),.sl 1 (w.black.map eB),.sl 1 (w.caps.map eB),.sl 2 (w.dones.map Done.e)]:=by
    rw[qdI h4];rfl
   dsimp only;rw[e];exact qN9 ⟨cp,k,rfl,kw,rfl,pos_f h3,len_t h4,by omega,qcr h4,qcZ h4,cut_a,cut_b h4,cut_c,st,ca,rfl,trivial⟩
theorem qPj(g:Graph)(w:Worker)(hg:g.sz≤8388608)(hw:w.sz≤8388608):Rt 200 [.agg g.e,.agg w.e] [.agg (qa0 g w).1.e,.one (B (qa0 g w).2)]:=by
 have cp:=qgN w hw;have k:=qfm g hg;have kw:=qj4 g w hg hw;have hq:w.queue.length≤8388608:=by simp only[Worker.sz]at hw;omega
 cases h1:qax g with
 | false=>
  rw[h1]at k;rw[show qa0 g w=(w,false) by unfold qa0;simp[h1]];exact qNX ⟨cp,k,rfl,trivial⟩
 | true=>
 rw[h1]at k;cases h2:qaK g w with
 | false=>
  rw[h2]at kw;rw[show qa0 g w=(w,false) by unfold qa0;simp[h2]];exact qNY ⟨cp,k,rfl,kw,rfl,trivial⟩
 | true=>
 rw[h2]at kw;have hu:qa0 g w=match w.staged,w.queue,w.inputs with
  | [],[],r::t=>(⟨[r],[],t,w.cells,w.sums,w.black,w.caps,w.dones⟩,true)
  | _,_,_=>(w,false):=by unfold qa0;rw[h1,h2];rfl
 cases h3:w.staged with
 | cons r q=>
  rw[show qa0 g w=(w,false) by rw[hu,h3]];exact qNZ ⟨cp,k,rfl,kw,rfl,pos_t h3,trivial⟩
 | nil=>
 cases h4:w.queue with
 | cons r q=>
  rw[show qa0 g w=(w,false) by rw[hu,h3,h4]];exact qN0 ⟨cp,k,rfl,kw,rfl,pos_f h3,pos_t h4,trivial⟩
 | nil=>
 cases h5:w.inputs with
 | nil=>
  rw[show qa0 g w=(w,false) by rw[hu,h3,h4,h5]];exact qN1 ⟨cp,k,rfl,kw,rfl,pos_f h3,pos_f h4,len_f h5,trivial⟩
 | cons r t=>
  rw[show qa0 g w=(⟨[r],[],t,w.cells,w.sums,w.black,w.caps,w.dones⟩,true) by rw[hu,h3,h4,h5]];have e:Worker.e ⟨[r],[],t,w.cells,w.sums,w.black,w.caps,w.dones⟩=[.sl 5 (w.queue.map Record.e++[r.e]),.sl 5 (w.staged.map Record.e),.sl 5 (((w.inputs.map Record.e).drop 1).take ((w.inputs.map Record.e).length-1)),.sl 4 (w.cells.map Cell.e),.sl 1 (w.sums.map eI),.sl 1 (w.black.map eB),.sl 1 (w.caps.map eB),.sl 2 (w.dones.map Done.e)]:=by
   rw[qdI h5,h4,h3];rfl
  dsimp only;rw[e];exact qN2 ⟨cp,k,rfl,kw,rfl,pos_f h3,pos_f h4,len_t h5,by omega,qcr h5,qcZ h5,one_m hq,one_x hq,qat (Record.flat r),cut_a,cut_b h5,cut_c,trivial⟩
end Go.Proofs.YtdkobdhckkjmeaaGreat
namespace Go.Proofs.YtdkobdhckkjmeaaGreat
open Go.Sx Go.RowKit Go.Proofs.Tryz
theorem qt5{c:Cluster}{w:Int}(h:wAt c w=none):inR w 0 ((↑(c.workers.map Worker.e).length:Int)-1)=false:=by
 unfold wAt at h;simp only[inR,zb,zf];split at h
 ·rw[List.getElem?_eq_none_iff]at h;omega
 ·omega
theorem qkw{c:Cluster}{w:Int}{x:Worker}(h:wAt c w=some x):inR w 0 ((↑(c.workers.map Worker.e).length:Int)-1)=true:=by
 obtain⟨h1,h2,_⟩:=qaD h;simp only[inR,zb,zi];omega
theorem qg2{c:Cluster}{i:Int}{x:Link}(h:lAt c i=some x):0≤i∧i<(↑(c.links.map Link.e).length:Int)∧(c.links.map Link.e)[i.toNat]?=some x.e:=by
 obtain⟨h1,h2,h3⟩:=qbl h;exact⟨h1,by rw[zb];omega,qad Link.e h3⟩
theorem qg3{c:Cluster}{i:Int}{x:Link}(h:lAt c i=some x)(hc:c.sz≤8388608):x.sz≤8388608:=Cluster.link_sz1 hc (qag (qbl h).2.2)
theorem qnQ{c:Cluster}{i:Int}{x:Link}(h:lAt c i=some x)(hw:GotLe c):x.got≤9223372036854775807:=hw _ (qag (qbl h).2.2)
theorem wlen1{c:Cluster}(hc:c.sz≤8388608):inInt .i64 ((↑(c.workers.map Worker.e).length:Int)-1):=by
 have:=Cluster.wlen_le hc;exact⟨by rw[zb];omega,by rw[zb];omega⟩
theorem qnR(c:Cluster)(w:Int)(y:Worker):(setW c w y).e=[.sl 4 (c.graph.nodes.map Node.e),I c.graph.workers,I c.graph.cap,.sl 8 ((c.workers.map Worker.e).set w.toNat y.e),.sl 6 (c.links.map Link.e),.sl 5 (c.tokens.map Token.e),.sl 3 (c.news.map News.e)]:=by simp only[setW,Cluster.e,zau]
theorem qPk(c:Cluster)(i:Int)(y:Link):(setL c i y).e=[.sl 4 (c.graph.nodes.map Node.e),I c.graph.workers,I c.graph.cap,.sl 8 (c.workers.map Worker.e),.sl 6 ((c.links.map Link.e).set i.toNat y.e),.sl 5 (c.tokens.map Token.e),.sl 3 (c.news.map News.e)]:=by simp only[setL,Cluster.e,zau]
theorem qt6(c:Cluster)(w i:Int)(y:Worker)(z:Link):(setW (setL c i z) w y).e=[.sl 4 (c.graph.nodes.map Node.e),I c.graph.workers,I c.graph.cap,.sl 8 ((c.workers.map Worker.e).set w.toNat y.e),.sl 6 ((c.links.map Link.e).set i.toNat z.e),.sl 5 (c.tokens.map Token.e),.sl 3 (c.news.map News.e)]:=by simp only[setW,setL,Cluster.e,zau]
theorem qnT(c:Cluster)(w:Int)(hc:c.sz≤8388608)(hw:GotLe c):Rt 187 [.agg c.e,.one (I w)] [.one (B (qai c&&(wAt c w).isSome))]:=by
 have k:=qhR c hc hw;cases ok:qai c with
 | false=>rw[ok]at k;exact qOa ⟨k,rfl,trivial⟩
 | true=>
  rw[ok]at k;cases hx:wAt c w with
  | none=>exact qtP ⟨k,rfl,wlen1 hc,qaP _ _ _ _ (qt5 hx),trivial⟩
  | some x=>exact qtP ⟨k,rfl,wlen1 hc,qaP _ _ _ _ (qkw hx),trivial⟩
theorem qt8(c:Cluster)(a b:Int)(hc:c.sz≤8388608)(hw:GotLe c):Rt 194 [.agg c.e,.one (I a),.one (I b)] [.one (I (if qai c&&a != b then qaw c.graph a b else -1))]:=by
 have k:=qhR c hc hw;cases ok:qai c with
 | false=>rw[ok]at k;exact qOb ⟨k,rfl,trivial⟩
 | true=>
  rw[ok]at k;by_cases hab:a=b
  ·rw[show (true&&a != b)=false by simp[hab]];exact qOc ⟨k,rfl,by simp[hab],trivial⟩
  ·rw[show (true&&a != b)=true by simp[hab],zp rfl];exact qOd ⟨k,rfl,by simp[hab],qt2 c.graph a b (qa8 (qaH.1 ok).1),trivial⟩
theorem qPl(c:Cluster)(w:Int)(hc:c.sz≤8388608)(hw:GotLe c):Rt 76 [.agg c.e,.one (I w)] [.agg (qbr c w).1.e,.one (B (qbr c w).2)]:=by
 have cp:=qdf c hc;have k:=qnT c w hc hw;cases ok:qai c with
 | false=>
  rw[ok]at k;rw[show qbr c w=(c,false) by unfold qbr;simp[ok]];exact qtN ⟨cp,k,rfl,trivial⟩
 | true=>
 cases hx:wAt c w with
 | none=>
  rw[ok,hx]at k;rw[show qbr c w=(c,false) by unfold qbr;simp[hx]];exact qtN ⟨cp,k,rfl,trivial⟩
 | some x=>
  rw[ok,hx]at k;obtain⟨wE0,wE1,wE2⟩:=qb3 hx;rw[show qbr c w=(setW c w (qaZ c.graph x).1,(qaZ c.graph x).2) by unfold qbr;simp[ok,hx]];dsimp only;rw[qnR];exact qNB ⟨cp,k,rfl,wE0,wE1,wE2,qPi c.graph x (Cluster.graph_sz1 hc) (qcd hx hc),wE0,wE1,wE2,trivial⟩
theorem qPm(c:Cluster)(w:Int)(hc:c.sz≤8388608)(hw:GotLe c):Rt 71 [.agg c.e,.one (I w)] [.agg (qbs c w).1.e,.one (B (qbs c w).2)]:=by
 have cp:=qdf c hc;have k:=qnT c w hc hw;cases ok:qai c with
 | false=>
  rw[ok]at k;rw[show qbs c w=(c,false) by unfold qbs;simp[ok]];exact qtK ⟨cp,k,rfl,trivial⟩
 | true=>
 cases hx:wAt c w with
 | none=>
  rw[ok,hx]at k;rw[show qbs c w=(c,false) by unfold qbs;simp[hx]];exact qtK ⟨cp,k,rfl,trivial⟩
 | some x=>
  rw[ok,hx]at k;obtain⟨wE0,wE1,wE2⟩:=qb3 hx;rw[show qbs c w=(setW c w (qa0 c.graph x).1,(qa0 c.graph x).2) by unfold qbs;simp[ok,hx]];dsimp only;rw[qnR];exact qNu _ _ _ _ _ _ _ _ _ _ _ _ _ _ _ _ _ _ _ _ _ _ _ _ _ _ _ _ _ _ _ _ _ _ _ _ _ _ _ _ _ ⟨cp,k,rfl,wE0,wE1,wE2,qPj c.graph x (Cluster.graph_sz1 hc) (qcd hx hc),wE0,wE1,wE2,trivial⟩
theorem qkx{c:Cluster}{w:Int}{x:Worker}(ok:qai c=true)(hx:wAt c w=some x):x.sums.length=4∧x.black.length=4∧x.caps.length=4∧(∀e:Int,0≤e∧e≤3→-1000000≤x.sums.getD e.toNat 0∧x.sums.getD e.toNat 0≤1000000):=by
 obtain⟨_,_,_,_,k5,k6,k7,_,k9,_⟩:=qbd.1 (qbu ok hx);refine⟨k5,k6,k7,fun e he=>?_⟩;have hl:e.toNat<x.sums.length:=by omega
 rw[zP]at k9;have:=k9 _ (zax hl);rw[zN,zu hl,zV];simpa only[qcA,zS,zX,inR,zi,zbt,Bool.not_not,Bool.not_eq_eq_eq_not,zZ,zf,Classical.not_not]using this
theorem qt9{c:Cluster}{w:Int}{x:Worker}{r:Record}{t:List Record}(ok:qai c=true)(hx:wAt c w=some x)(hs:x.staged=r::t):qbk c w=qda c w x r t (qay r.key c.graph.workers):=by
 unfold qbk;rw[zp ok,hx];dsimp only;rw[hs]
theorem qua{c:Cluster}{w:Int}{x:Worker}{r:Record}{t:List Record}{o:Int}(h:o=w):qda c w x r t o=(setW c w (kept (qbf x t) r),true):=zp h
theorem qub{c:Cluster}{w:Int}{x:Worker}{r:Record}{t:List Record}{o:Int}{l:Link}(h:o≠w)(hl:lAt c (qaw c.graph w o)=some l):qda c w x r t o=if (qaz l r).2 then (setW (setL c (qaw c.graph w o) (qaz l r).1) w (qbZ (qbf x t) r.stamp.epoch),true) else (c,false):=by
 unfold qda;rw[zo h,hl]
theorem qPn(c:Cluster)(w:Int)(hc:c.sz≤8388608)(hw:GotLe c):Rt 64 [.agg c.e,.one (I w)] [.agg (qbk c w).1.e,.one (B (qbk c w).2)]:=by
 have cp:=qdf c hc;have k:=qnT c w hc hw;cases ok:qai c with
 | false=>
  rw[ok]at k;rw[show qbk c w=(c,false) by unfold qbk;simp[ok]];exact qtL ⟨cp,k,rfl,trivial⟩
 | true=>
 cases hx:wAt c w with
 | none=>
  rw[ok,hx]at k;rw[show qbk c w=(c,false) by unfold qbk;simp[hx]];exact qtL ⟨cp,k,rfl,trivial⟩
 | some x=>
 rw[ok,hx]at k;obtain⟨wE0,wE1,wE2⟩:=qb3 hx;have hn:=qa8 (qaH.1 ok).1;cases hs:x.staged with
 | nil=>
  rw[show qbk c w=(c,false) by unfold qbk;rw[zp ok,hx];dsimp only;rw[hs]];exact qNv ⟨cp,k,rfl,wE0,wE1,wE2,len_f hs,trivial⟩
 | cons r t=>
  have hsz:=qcd hx hc;have hun:(qbf x t).sz≤8388608:=by have:=qst hs;omega
  have un:=qPh x r t hsz hs;have ow:=qm3 r.key c.graph.workers (by omega);have hr:=(qj6 (qbu ok hx) hs).2;have he:=qdE hr;obtain⟨f4,_,_,fs⟩:=qkx ok hx;rw[qt9 ok hx hs];have oin:=qhV r.key hn.1;generalize qay r.key c.graph.workers=o at ow oin;by_cases how:o=w
  ·rw[qua how];dsimp only;rw[qnR];exact qNw ⟨cp,k,rfl,wE0,wE1,wE2,len_t hs,wE0,wE1,wE2,un,ow,by rw[zE];exact how,qt4 (qbf x t) r hun,wE0,wE1,wE2,trivial⟩
  ·have hbo:(o==w)=false:=by rw[zQ,zcc,zE];exact how
   have win:inR w 0 (c.graph.workers-1)=true:=by
    have:=qkw hx;rwa[zb,(qaH.1 ok).2.1]at this
   obtain⟨l,hl⟩:=qfJ ok win oin;obtain⟨lE0,lE1,lE2⟩:=qg2 hl;have lp:=qt2 c.graph w o hn;have so:=qPb l r (qg3 hl hc) (qnQ hl hw);rw[qub how hl];cases h6:(qaz l r).2 with
   | false=>
    rw[h6]at so;exact qNx ⟨cp,k,rfl,wE0,wE1,wE2,len_t hs,wE0,wE1,wE2,un,ow,hbo,lp,lE0,lE1,lE2,so,rfl,trivial⟩
   | true=>
    rw[h6]at so;rw[zp rfl];dsimp only;rw[qt6];exact qNy ⟨cp,k,rfl,wE0,wE1,wE2,len_t hs,wE0,wE1,wE2,un,ow,hbo,lp,lE0,lE1,lE2,so,rfl,lE0,lE1,lE2,qPg (qbf x t) r.stamp.epoch hun f4 he (fs _ he),wE0,wE1,wE2,trivial⟩
theorem qky{c:Cluster}{a b:Int}(h:(inR a 0 (c.graph.workers-1)&&inR b 0 (c.graph.workers-1))=false):lAt c (qaw c.graph a b)=none:=by
 rw[qd0 h];rfl
theorem quc{c:Cluster}{a b:Int}{l:Link}{x:Worker}(ok:qai c=true)(hab:a≠b)(hl:lAt c (qaw c.graph a b)=some l)(hx:wAt c b=some x):qbx c a b=if (qaq l).2.2 then (setW (setL c (qaw c.graph a b) (qaq l).1) b (received x (qaq l).2.1),true) else (c,false):=by
 unfold qbx;rw[zp (by simp[ok,hab]),hl,hx]
theorem qud{c:Cluster}{a b:Int}{l:Link}(ok:qai c=true)(hab:a≠b)(hl:lAt c (qaw c.graph a b)=some l):qbt c a b=(setL c (qaw c.graph a b) (qaQ l).1,(qaQ l).2):=by
 unfold qbt;rw[zp (by simp[ok,hab]),hl]
theorem qPo(c:Cluster)(a b:Int)(hc:c.sz≤8388608)(hw:GotLe c):Rt 67 [.agg c.e,.one (I a),.one (I b)] [.agg (qbx c a b).1.e,.one (B (qbx c a b).2)]:=by
 have cp:=qdf c hc;have k:=qt8 c a b hc hw;cases h1:(qai c&&a != b) with
 | false=>
  rw[h1,zo (by decide)]at k;rw[show qbx c a b=(c,false) by unfold qbx;rw[h1];rfl];exact qtM ⟨cp,k,dT (by decide),trivial⟩
 | true=>
 rw[h1,zp rfl]at k;rw[zj]at h1;obtain⟨ok,hab⟩:=h1;have hab:a≠b:=by simpa using hab
 have hn:=qa8 (qaH.1 ok).1;cases hh:(inR a 0 (c.graph.workers-1)&&inR b 0 (c.graph.workers-1)) with
 | false=>
  rw[qd0 hh]at k;rw[show qbx c a b=(c,false) by unfold qbx;rw[qky hh];split<;>rfl];exact qtM ⟨cp,k,dT (by decide),trivial⟩
 | true=>
 rw[zj]at hh;obtain⟨l,hl⟩:=qfJ ok hh.1 hh.2;obtain⟨x,hx⟩:∃x,wAt c b=some x:=by
  have hb:=hh.2;have:=(qaH.1 ok).2.1;simp only[inR,zi]at hb;exact qcC (by omega) (by omega)
 obtain⟨lE0,lE1,lE2⟩:=qg2 hl;obtain⟨wE0,wE1,wE2⟩:=qb3 hx;have tf:=qPc l (qg3 hl hc) (qnQ hl hw);rw[quc ok hab hl hx];cases h6:(qaq l).2.2 with
 | false=>
  rw[h6]at tf;exact qNz ⟨cp,k,dF (by omega),lE0,lE1,lE2,tf,rfl,trivial⟩
 | true=>
  rw[h6]at tf;have he:=qdE (qj7 (qdb ok hl) h6).2;obtain⟨f4,fb,_,fs⟩:=qkx ok hx;rw[zp rfl];dsimp only;rw[qt6];exact qNA ⟨cp,k,dF (by omega),lE0,lE1,lE2,tf,rfl,lE0,lE1,lE2,wE0,wE1,wE2,qPf x _ (qcd hx hc) f4 fb he (fs _ he),wE0,wE1,wE2,trivial⟩
theorem qPp(c:Cluster)(a b:Int)(hc:c.sz≤8388608)(hw:GotLe c):Rt 69 [.agg c.e,.one (I a),.one (I b)] [.agg (qbt c a b).1.e,.one (B (qbt c a b).2)]:=by
 have cp:=qdf c hc;have k:=qt8 c a b hc hw;cases h1:(qai c&&a != b) with
 | false=>
  rw[h1,zo (by decide)]at k;rw[show qbt c a b=(c,false) by unfold qbt;rw[h1];rfl];exact qtJ ⟨cp,k,dT (by decide),trivial⟩
 | true=>
 rw[h1,zp rfl]at k;rw[zj]at h1;obtain⟨ok,hab⟩:=h1;have hab:a≠b:=by simpa using hab
 cases hh:(inR a 0 (c.graph.workers-1)&&inR b 0 (c.graph.workers-1)) with
 | false=>
  rw[qd0 hh]at k;rw[show qbt c a b=(c,false) by unfold qbt;rw[qky hh];split<;>rfl];exact qtJ ⟨cp,k,dT (by decide),trivial⟩
 | true=>
 rw[zj]at hh;obtain⟨l,hl⟩:=qfJ ok hh.1 hh.2;obtain⟨lE0,lE1,lE2⟩:=qg2 hl;rw[qud ok hab hl];dsimp only;rw[qPk];exact qNt _ _ _ _ _ _ _ _ _ _ _ _ _ _ _ _ _ _ _ _ _ _ _ _ _ _ _ _ _ _ _ _ _ _ _ _ ⟨cp,k,dF (by omega),lE0,lE1,lE2,qPd l (qg3 hl hc) (qnQ hl hw),lE0,lE1,lE2,trivial⟩
theorem quh(c:Cluster)(p:Pick)(hc:c.sz≤8388608)(hw:GotLe c):Rt 31 [.agg c.e,.agg p.e] [.agg (stepPick c p).1.e,.one (B (stepPick c p).2)]:=by
 by_cases h1:p.kind=1
 ·rw[show stepPick c p=qbr c p.a by unfold stepPick;simp[h1]];exact qNM ⟨by rw[zE];exact h1,qPl c p.a hc hw,trivial⟩
 have n1:(p.kind==1)=false:=by rw[zQ,zcc,zE];exact h1
 by_cases h2:p.kind=2
 ·rw[show stepPick c p=qbs c p.a by unfold stepPick;simp[h2]];exact qNN ⟨n1,by rw[zE];exact h2,qPm c p.a hc hw,trivial⟩
 have n2:(p.kind==2)=false:=by rw[zQ,zcc,zE];exact h2
 by_cases h3:p.kind=3
 ·rw[show stepPick c p=qbk c p.a by unfold stepPick;simp[h3]];exact qNO ⟨n1,n2,by rw[zE];exact h3,qPn c p.a hc hw,trivial⟩
 have n3:(p.kind==3)=false:=by rw[zQ,zcc,zE];exact h3
 by_cases h4:p.kind=4
 ·rw[show stepPick c p=qbx c p.a p.b by unfold stepPick;simp[h4]];exact qNP ⟨n1,n2,n3,by rw[zE];exact h4,qPo c p.a p.b hc hw,trivial⟩
 have n4:(p.kind==4)=false:=by rw[zQ,zcc,zE];exact h4
 by_cases h5:p.kind=5
 ·rw[show stepPick c p=qbt c p.a p.b by unfold stepPick;simp[h5]];exact qNQ ⟨n1,n2,n3,n4,by rw[zE];exact h5,qPp c p.a p.b hc hw,trivial⟩
 have n5:(p.kind==5)=false:=by rw[zQ,zcc,zE];exact h5
 by_cases h6:p.kind=6
 ·rw[show stepPick c p=qbc c p.a by unfold stepPick;simp[h6]];exact qNR ⟨n1,n2,n3,n4,n5,by rw[zE];exact h6,qNd c p.a hc hw,trivial⟩
 have n6:(p.kind==6)=false:=by rw[zQ,zcc,zE];exact h6
 by_cases h7:p.kind=7
 ·rw[show stepPick c p=qby c p.a by unfold stepPick;simp[h7]];exact qNS ⟨n1,n2,n3,n4,n5,n6,by rw[zE];exact h7,qM1 c p.a hc hw,trivial⟩
 have n7:(p.kind==7)=false:=by rw[zQ,zcc,zE];exact h7
 rw[show stepPick c p=(c,false) by unfold stepPick;simp[h1,h2,h3,h4,h5,h6,h7]];exact qNT ⟨n1,n2,n3,n4,n5,n6,n7,qdf c hc,trivial⟩
end Go.Proofs.YtdkobdhckkjmeaaGreat
namespace Go.Proofs.YtdkobdhckkjmeaaGreat
open Go.Sx Go.RowKit Go.Proofs.Tryz
theorem qPw(c:Cluster)(l:List Pick)(hc:c.sz+4*l.length≤8388608)(hw:GotLe c):Rt 37 [.agg c.e,.one (.sl 3 (l.map Pick.e))] [.agg (qah c l).1.e,.one (.sl 1 ((qah c l).2.map eB))]:=by
 have hl:l.length≤8388608:=by omega
 have k:=qao (P:=prog) (c:=(qaa f37 0)) (qaf 0) l.length (fun i:Nat=>qin (l.map Pick.e) i ((qah c (l.take i)).2.map eB) ((qah c (l.take i)).1.graph.nodes.map Node.e) (qah c (l.take i)).1.graph.workers (qah c (l.take i)).1.graph.cap ((qah c (l.take i)).1.workers.map Worker.e) ((qah c (l.take i)).1.links.map Link.e) ((qah c (l.take i)).1.tokens.map Token.e) ((qah c (l.take i)).1.news.map News.e) 0 0) (fun i hi=>by
  obtain⟨p,hp⟩:=qal hi;have hn:=qhZ (l.take i) c;have hs:=qkb c l i;have hg:=(qgG (l.take i) c).got hw;rw[qka c hp];dsimp only;rw[qgF];generalize qah c (l.take i)=o at*;exact qND ⟨lt1 hi,lt0,lt2 hi,qac Pick.e hp,quh o.1 p (by omega) hg,by simp[hn];omega,by simp[hn];omega,flatB [(stepPick o.1 p).2],up1 hi hl,trivial⟩) (qNE ⟨ge1,trivial⟩)
 rw[zC]at k;exact qNF ⟨qdf c (by omega),k,trivial⟩
def qa6(c:Cluster):Cluster×Nat:=((qah c (qaO c)).1,didOf (qah c (qaO c)).2)
theorem qiq(c:Cluster):Kept' c (qa6 c).1:=qgG _ _
theorem qnV(c:Cluster):(qa6 c).1.sz≤c.sz+400:=by
 have:=qh0 (qaO c) c;have:=qnk c;unfold qa6;dsimp only;omega
theorem qPz(c:Cluster)(hc:c.sz+400≤8388608)(hw:GotLe c):Rt 83 [.agg c.e] [.agg (qa6 c).1.e,.one (I (qa6 c).2)]:=by
 have ha:=qnk c;have run:=qPw c (qaO c) (by omega) hw;have hn:=qhZ (qaO c) c;unfold qa6;dsimp only;generalize qah c (qaO c)=o at*;have k:=qao (P:=prog) (c:=(qaa f83 0)) (qaf 0) o.2.length (fun i:Nat=>qfU (o.1.graph.nodes.map Node.e) o.1.graph.workers o.1.graph.cap (o.1.workers.map Worker.e) (o.1.links.map Link.e) (o.1.tokens.map Token.e) (o.1.news.map News.e) (o.2.map eB) i (didOf (o.2.take i))) (fun i hi=>by
  obtain⟨b,hb⟩:=qal hi;have hd:=qsy (o.2.take i);have ht:=qgH i o.2;rw[zbe,hb,zcp,qsz];cases b with
  | true=>exact qNh ⟨lt1 hi,lt0,lt2 hi,qac eB hb,rfl,⟨by omega,by omega⟩,up1 hi (by omega),trivial⟩
  | false=>exact qNi ⟨lt1 hi,lt0,lt2 hi,qac eB hb,rfl,up1 hi (by omega),trivial⟩) (qNj ⟨ge1,trivial⟩)
 rw[zC]at k;exact qNk ⟨qLd c,run,k,trivial⟩
def qaE:Nat→Cluster→Nat→Cluster×Nat
 | 0,c,k=>(c,k)
 | n+1,c,k=>if (qa6 c).2=0 then ((qa6 c).1,k+1) else qaE n (qa6 c).1 (k+1)
def qce(c:Cluster)(most:Int):Cluster×Nat:=qaE (qaV most 0 3000).toNat c 0
theorem qnW:∀(n:Nat) (c:Cluster) (k:Nat),(qaE n c k).1.sz≤c.sz+n*400
 | 0,c,k=>zO _
 | n+1,c,k=>by
  have h1:=qnV c;have h2:=qnW n (qa6 c).1 (k+1);unfold qaE;split
  ·dsimp only;omega
  ·omega
theorem qkz:∀(n:Nat) (c:Cluster) (k:Nat),Kept' c (qaE n c k).1
 | 0,c,k=>.rfl
 | n+1,c,k=>by
  unfold qaE;split
  ·exact qiq c
  ·exact (qiq c).trans (qkz n _ _)
theorem quj{n:Nat}{c:Cluster}{k:Nat}(h0:¬(qa6 c).2=0):qaE (n+1) c k=qaE n (qa6 c).1 (k+1):=by
 conv=>lhs;unfold qaE
 rw[zo h0]
theorem quk(n:Int):∃k:Nat,qaV n 0 3000=k∧k≤3000:=by
 refine⟨(qaV n 0 3000).toNat,?_,?_⟩<;>(unfold qaV;simp only[show ¬(3000:Int)<0 by omega,zci];split<;>(try split)<;>omega)
theorem nat0(n:Nat):((n:Int)==0)=decide (n=0):=by
 rw[Bool.eq_iff_iff];simp only[zE,zi];omega
theorem qum(most:Int)(m:Nat)(hm:m≤3000)(b:Rt 160 [.one (I most),.one (I 0),.one (I 3000)] [.one (I m)]):∀(n:Nat) (c:Cluster) (k:Nat),k+n=m→GotLe c→c.sz+n*400≤8388608→
  qam prog (qaa f38 0) (qeH most k (c.graph.nodes.map Node.e) c.graph.workers c.graph.cap (c.workers.map Worker.e) (c.links.map Link.e) (c.tokens.map Token.e) (c.news.map News.e) 0 0) (.exit 0)
    (qnI (qaE n c k).2 ((qaE n c k).1.graph.nodes.map Node.e) (qaE n c k).1.graph.workers (qaE n c k).1.graph.cap ((qaE n c k).1.workers.map Worker.e) ((qaE n c k).1.links.map Link.e) ((qaE n c k).1.tokens.map Token.e) ((qaE n c k).1.news.map News.e) 0 0)∨
  qam prog (qaa f38 0) (qeH most k (c.graph.nodes.map Node.e) c.graph.workers c.graph.cap (c.workers.map Worker.e) (c.links.map Link.e) (c.tokens.map Token.e) (c.news.map News.e) 0 0) (.exit 0)
    (qnJ (qaE n c k).2 ((qaE n c k).1.graph.nodes.map Node.e) (qaE n c k).1.graph.workers (qaE n c k).1.graph.cap ((qaE n c k).1.workers.map Worker.e) ((qaE n c k).1.links.map Link.e) ((qaE n c k).1.tokens.map Token.e) ((qaE n c k).1.news.map News.e) 0 0)
 | 0,c,k,hk,_,_=>.inr (.last (qaf 0) (qNm ⟨b,dF (by omega),trivial⟩))
 | n+1,c,k,hk,hw,hc=>by
  have r:=qPz c (by omega) hw;have hs:=qnV c;have kp:=qiq c;by_cases h0:(qa6 c).2=0
  ·rw[show qaE (n+1) c k=((qa6 c).1,k+1) by unfold qaE;rw[zp h0]];exact .inl (.last (qaf 0) (qNl ⟨b,dT (by omega),r,⟨by omega,by omega⟩,by rw[nat0];exact zap h0,trivial⟩))
  ·rw[quj h0];have ih:=qum most m hm b n (qa6 c).1 (k+1) (by omega) (kp.got hw) (by omega);rcases ih with ih | ih
   ·exact .inl (.more (qtI ⟨b,dT (by omega),r,⟨by omega,by omega⟩,by rw[nat0];exact zt h0,trivial⟩) ih)
   ·exact .inr (.more (qtI ⟨b,dT (by omega),r,⟨by omega,by omega⟩,by rw[nat0];exact zt h0,trivial⟩) ih)
theorem qPB(c:Cluster)(most:Int)(hc:c.sz+1200000≤8388608)(hw:GotLe c):Rt 38 [.agg c.e,.one (I most)] [.agg (qce c most).1.e,.one (I (qce c most).2)]:=by
 have b:=qmj most 0 3000;obtain⟨m,hm,hb⟩:=quk most;unfold qce;rw[hm]at b ⊢;rw[zae];rcases qum most m (by omega) b m c 0 (by omega) hw (by omega) with k | k
 ·exact qNn ⟨qdf c (by omega),k,trivial⟩
 ·exact qNo ⟨qdf c (by omega),k,trivial⟩
end Go.Proofs.YtdkobdhckkjmeaaGreat
