/- Capped: what the program computes. -/
import Derived.Test.YtdkobdhckkjmeaaGreatP21
import Derived.Test.YtdkobdhckkjmeaaGreatP47
import Derived.Test.YtdkobdhckkjmeaaGreatGW
import Derived.Test.YtdkobdhckkjmeaaGreatGX
set_option linter.unusedVariables false
set_option linter.unusedSimpArgs false
namespace Go.Proofs.YtdkobdhckkjmeaaGreat
open Go.Sx Go.RowKit
theorem qPe{g:Graph}{op:Int}{x:Node}(h:qaP g op=some x):0≤op∧op<(↑(g.nodes.map Node.e).length:Int)∧(g.nodes.map Node.e)[op.toNat]?=some x.e:=by
 unfold qaP at h;split at h
 ·have:=lt_of h;exact⟨‹_›,by rw[zb];omega,qad Node.e h⟩
 ·cases h
theorem qPf(g:Graph)(r:Record)(hg:g.sz≤8388608):Rt 292 [.agg g.e,.agg r.e] [.one (B (capped g r))]:=by
 have k:=qfr g hg;have kr:=qdz r;have nt:=qmT r.stamp;cases h1:qax g with
 | false=>
  rw[h1]at k;rw[show capped g r=false by unfold capped;split<;>simp[qbH,h1]];exact qHR ⟨k,rfl,trivial⟩
 | true=>
 rw[h1]at k;cases h2:qaB r with
 | false=>
  rw[h2]at kr;rw[show capped g r=false by unfold capped;split<;>simp[qbH,h2]];exact qHS ⟨k,rfl,kr,rfl,trivial⟩
 | true=>
 rw[h2]at kr;cases h3:qaP g r.op with
 | none=>
  rw[show capped g r=false by unfold capped;rw[h3]];exact qHT ⟨k,rfl,kr,rfl,qgv g r.op false (by rw[h3];rfl) hg,rfl,trivial⟩
 | some x=>
  obtain⟨m1,m2,m3⟩:=qPe h3;have ni:=qgv g r.op true (by rw[h3];rfl) hg;rw[show capped g r=qbH g r x by unfold capped;rw[h3]];cases h4:(x.kind==7) with
  | false=>
   rw[show qbH g r x=false by simp[qbH,h4]];exact qHW ⟨k,rfl,kr,rfl,ni,rfl,m1,m2,m3,nt,h4,trivial⟩
  | true=>
  by_cases h5:0<x.outs.length
  ·rw[show qbH g r x=!(qaG r.stamp).2 by simp[qbH,h1,h2,h4,h5]];exact qHU ⟨k,rfl,kr,rfl,ni,rfl,m1,m2,m3,nt,h4,dT (by rw[zb];omega),trivial⟩
  ·rw[show qbH g r x=false by simp[qbH,h5]];exact qHV ⟨k,rfl,kr,rfl,ni,rfl,m1,m2,m3,nt,h4,dF (by rw[zb];omega),trivial⟩
end Go.Proofs.YtdkobdhckkjmeaaGreat
namespace Go.Proofs.YtdkobdhckkjmeaaGreat
open Go.Sx Go.RowKit
section
variable {xs : List Record} {r : Record} {t : List Record}
theorem qdE(h:xs=r::t):((xs.map Record.e).drop 1).take ((xs.map Record.e).length-1)=t.map Record.e:=by subst h;exact zbk (by simp)
theorem qcq(h:xs=r::t):(0:Int)<(↑(xs.map Record.e).length:Int):=by subst h;simp only[zb,zq];omega
theorem qcY(h:xs=r::t):(xs.map Record.e)[0]?=some r.e:=by subst h;rfl
theorem len_t(h:xs=r::t):((↑(xs.map Record.e).length:Int)==0)=false:=by
 have:=qcq h;rw[zQ,zcc,zE];omega
theorem len_f(h:xs=[]):((↑(xs.map Record.e).length:Int)==0)=true:=by subst h;rfl
theorem pos_t(h:xs=r::t):decide ((↑(xs.map Record.e).length:Int)>0)=true:=dT (qcq h)
theorem pos_f(h:xs=[]):decide ((↑(xs.map Record.e).length:Int)>0)=false:=by subst h;rfl
theorem cut_a:(0:Int)≤(some (1:Int)).getD 0:=by decide
theorem cut_b(h:xs=r::t):(some (1:Int)).getD 0≤(none:Option Int).getD (↑(xs.map Record.e).length:Int):=by
 have:=qcq h;simp only[zV,Option.getD_none];omega
theorem cut_c{l:List (List D)}:(none:Option Int).getD (↑l.length:Int)≤(↑l.length:Int):=by simp
theorem qgT(h:xs=r::t)(hl:xs.length≤8388608):(([]:List (List D)).length+(((xs.map Record.e).drop 1).take ((xs.map Record.e).length-1)).length)*40≤140737488355328:=by
 rw[qdE h];refine nl _ ?_;subst h;simp only[zb,zq]at *;omega
theorem qgU(h:xs=r::t)(hl:xs.length≤8388608):([]:List (List D)).length+(((xs.map Record.e).drop 1).take ((xs.map Record.e).length-1)).length≤9223372036854775807:=by
 rw[qdE h];refine nl1 _ ?_;subst h;simp only[zb,zq]at *;omega
theorem qgV(h:xs=r::t):Flat (((xs.map Record.e).drop 1).take ((xs.map Record.e).length-1)):=by rw[qdE h];exact qae _ Record.flat _
theorem qip(h:xs=r::t):([]:List (List D))++((xs.map Record.e).drop 1).take ((xs.map Record.e).length-1)=t.map Record.e:=qdE h
end
theorem one_m{xs:List Record}{a:List D}(h:xs.length≤8388608):((xs.map Record.e).length+[a].length)*40≤140737488355328:=by simp;omega
theorem one_x{xs:List Record}{a:List D}(h:xs.length≤8388608):(xs.map Record.e).length+[a].length≤9223372036854775807:=by simp;omega
theorem qtI(a:Int)(q:List Record)(r:Record)(b c d e:Int):Link.e ⟨a,q++[r],b,c,d,e⟩=[I a,.sl 5 (q.map Record.e++[r.e]),I b,I c,I d,I e]:=by
 simp only[Link.e,zU];rfl
theorem qgW{l:Link}(h:qbq l=true):(0≤l.credits∧l.credits≤4)∧(0≤l.back∧l.back≤4)∧(0≤l.sent∧l.sent≤1000000000)∧(0≤l.got∧l.got≤1000000000)∧l.queue.length≤4:=by
 obtain⟨k1,k2,k3,k4,k5,k6,k7,k8⟩:=qcm.1 h;simp only[inR,zi]at k1 k2 k3 k5;omega
theorem qPg(l:Link)(r:Record)(hl:l.sz≤8388608):Rt 287 [.agg l.e,.agg r.e] [.agg (qay l r).1.e,.one (B (qay l r).2)]:=by
 have cp:=qkc l hl;have k:=qjU l hl;have kr:=qdU r;have hq:l.queue.length≤8388608:=hl;cases h1:qbq l with
 | false=>
  rw[h1]at k;rw[show qay l r=(l,false) by unfold qay;simp[h1]];exact qOx ⟨cp,k,rfl,trivial⟩
 | true=>
 rw[h1]at k;cases h2:qaB r with
 | false=>
  rw[h2]at kr;rw[show qay l r=(l,false) by unfold qay;simp[h2]];exact qOy ⟨cp,k,rfl,kr,rfl,trivial⟩
 | true=>
 rw[h2]at kr;by_cases h3:l.credits=0
 ·rw[show qay l r=(l,false) by unfold qay;simp[h3]];exact qOz ⟨cp,k,rfl,kr,rfl,by rw[zE];exact h3,trivial⟩
 have h3':(l.credits==0)=false:=by rw[zQ,zcc,zE];exact h3
 obtain⟨n1,n2,n3,n4,n5⟩:=qgW h1;by_cases h4:l.sent<1000000000
 ·rw[show qay l r=(⟨l.cap,l.queue++[r],l.credits-1,l.back,l.sent+1,l.got⟩,true) by unfold qay;simp[h1,h2,h3,h4]];dsimp only;rw[qtI];exact qOB ⟨cp,k,rfl,kr,rfl,h3',dF (by omega),one_m hq,one_x hq,qat (Record.flat r),⟨by omega,by omega⟩,⟨by omega,by omega⟩,trivial⟩
 ·rw[show qay l r=(l,false) by unfold qay;simp[h4]];dsimp only;exact qOA ⟨cp,k,rfl,kr,rfl,h3',dT (by omega),trivial⟩
theorem qPh(l:Link)(hl:l.sz≤8388608):Rt 289 [.agg l.e] [.agg (qaq l).1.e,.agg (qaq l).2.1.e,.one (B (qaq l).2.2)]:=by
 have cp:=qkc l hl;have k:=qjU l hl;have hq:l.queue.length≤8388608:=hl;cases h1:qbq l with
 | false=>
  rw[h1]at k;rw[show qaq l=(l,rec0,false) by unfold qaq;simp[h1]];exact qOC ⟨cp,k,rfl,trivial⟩
 | true=>
 rw[h1]at k;cases h2:l.queue with
 | nil=>
  rw[show qaq l=(l,rec0,false) by unfold qaq;rw[zp h1];simp only[h2]];exact qOD ⟨cp,k,rfl,len_f h2,trivial⟩
 | cons r q=>
  obtain⟨n1,n2,n3,n4,n5⟩:=qgW h1;rw[show qaq l=(⟨l.cap,q,l.credits,l.back+1,l.sent,l.got+1⟩,r,true) by unfold qaq;rw[zp h1];simp only[h2]];have e:Link.e ⟨l.cap,q,l.credits,l.back+1,l.sent,l.got+1⟩=[I l.cap,.sl 5 (((l.queue.map Record.e).drop 1).take ((l.queue.map Record.e).length-1)),I l.credits,I (l.back+1),I l.sent,I (l.got+1)]:=by rw[qdE h2];rfl
  dsimp only;rw[e];exact qOE ⟨cp,k,rfl,len_t h2,by omega,qcq h2,qcY h2,cut_a,cut_b h2,cut_c,qgT h2 hq,qgU h2 hq,qgV h2,⟨by omega,by omega⟩,⟨by omega,by omega⟩,trivial⟩
theorem qPi(l:Link)(hl:l.sz≤8388608):Rt 290 [.agg l.e] [.agg (qaQ l).1.e,.one (B (qaQ l).2)]:=by
 have cp:=qkc l hl;have k:=qjU l hl;cases h1:qbq l with
 | false=>
  rw[h1]at k;rw[show qaQ l=(l,false) by unfold qaQ;simp[h1]];exact qOm ⟨cp,k,rfl,trivial⟩
 | true=>
 rw[h1]at k;by_cases h3:l.back=0
 ·rw[show qaQ l=(l,false) by unfold qaQ;simp[h3]];exact qOn ⟨cp,k,rfl,by rw[zE];exact h3,trivial⟩
 ·obtain⟨n1,n2,n3,n4,n5⟩:=qgW h1;rw[show qaQ l=(⟨l.cap,l.queue,l.credits+1,l.back-1,l.sent,l.got⟩,true) by unfold qaQ;simp[h1,h3]];exact qOo ⟨cp,k,rfl,by rw[zQ,zcc,zE];exact h3,⟨by omega,by omega⟩,⟨by omega,by omega⟩,trivial⟩
theorem qPj(l:Link)(r:Record)(hl:l.sz≤8388608)(hg:l.got≤9223372036854775807):Rt 190 [.agg l.e,.agg r.e] [.agg (qay l r).1.e,.one (B (qay l r).2)]:=by
 have cp:=qkb l hl;have k:=qjT l hl hg;have kr:=qdz r;have hq:l.queue.length≤8388608:=hl;cases h1:qbq l with
 | false=>
  rw[h1]at k;rw[show qay l r=(l,false) by unfold qay;simp[h1]];exact qNO ⟨cp,k,rfl,trivial⟩
 | true=>
 rw[h1]at k;cases h2:qaB r with
 | false=>
  rw[h2]at kr;rw[show qay l r=(l,false) by unfold qay;simp[h2]];exact qNP ⟨cp,k,rfl,kr,rfl,trivial⟩
 | true=>
 rw[h2]at kr;by_cases h3:l.credits=0
 ·rw[show qay l r=(l,false) by unfold qay;simp[h3]];exact qNQ ⟨cp,k,rfl,kr,rfl,by rw[zE];exact h3,trivial⟩
 have h3':(l.credits==0)=false:=by rw[zQ,zcc,zE];exact h3
 obtain⟨n1,n2,n3,n4,n5⟩:=qgW h1;by_cases h4:l.sent<1000000000
 ·rw[show qay l r=(⟨l.cap,l.queue++[r],l.credits-1,l.back,l.sent+1,l.got⟩,true) by unfold qay;simp[h1,h2,h3,h4]];dsimp only;rw[qtI];exact qNS ⟨cp,k,rfl,kr,rfl,h3',by rw[zQ,zcc,zE];omega,one_m hq,one_x hq,qat (Record.flat r),⟨by omega,by omega⟩,⟨by omega,by omega⟩,trivial⟩
 ·rw[show qay l r=(l,false) by unfold qay;simp[h4]];dsimp only;exact qNR ⟨cp,k,rfl,kr,rfl,h3',by rw[zE];omega,trivial⟩
theorem qPk(l:Link)(hl:l.sz≤8388608)(hg:l.got≤9223372036854775807):Rt 195 [.agg l.e] [.agg (qaq l).1.e,.agg (qaq l).2.1.e,.one (B (qaq l).2.2)]:=by
 have cp:=qkb l hl;have k:=qjT l hl hg;have hq:l.queue.length≤8388608:=hl;cases h1:qbq l with
 | false=>
  rw[h1]at k;rw[show qaq l=(l,rec0,false) by unfold qaq;simp[h1]];exact qN2 ⟨cp,k,rfl,trivial⟩
 | true=>
 rw[h1]at k;cases h2:l.queue with
 | nil=>
  rw[show qaq l=(l,rec0,false) by unfold qaq;rw[zp h1];simp only[h2]];exact qN3 ⟨cp,k,rfl,len_f h2,trivial⟩
 | cons r q=>
  obtain⟨n1,n2,n3,n4,n5⟩:=qgW h1;rw[show qaq l=(⟨l.cap,q,l.credits,l.back+1,l.sent,l.got+1⟩,r,true) by unfold qaq;rw[zp h1];simp only[h2]];have e:Link.e ⟨l.cap,q,l.credits,l.back+1,l.sent,l.got+1⟩=[I l.cap,.sl 5 (((l.queue.map Record.e).drop 1).take ((l.queue.map Record.e).length-1)),I l.credits,I (l.back+1),I l.sent,I (l.got+1)]:=by rw[qdE h2];rfl
  dsimp only;rw[e];exact qN4 ⟨cp,k,rfl,len_t h2,cut_a,cut_b h2,cut_c,⟨by omega,by omega⟩,⟨by omega,by omega⟩,by omega,qcq h2,qcY h2,trivial⟩
theorem qPl(l:Link)(hl:l.sz≤8388608)(hg:l.got≤9223372036854775807):Rt 198 [.agg l.e] [.agg (qaQ l).1.e,.one (B (qaQ l).2)]:=by
 have cp:=qkb l hl;have k:=qjT l hl hg;cases h1:qbq l with
 | false=>
  rw[h1]at k;rw[show qaQ l=(l,false) by unfold qaQ;simp[h1]];exact qNm ⟨cp,k,rfl,trivial⟩
 | true=>
 rw[h1]at k;by_cases h3:l.back=0
 ·rw[show qaQ l=(l,false) by unfold qaQ;simp[h3]];exact qNn ⟨cp,k,rfl,by rw[zE];exact h3,trivial⟩
 ·obtain⟨n1,n2,n3,n4,n5⟩:=qgW h1;rw[show qaQ l=(⟨l.cap,l.queue,l.credits+1,l.back-1,l.sent,l.got⟩,true) by unfold qaQ;simp[h1,h3]];exact qNo ⟨cp,k,rfl,by rw[zQ,zcc,zE];exact h3,⟨by omega,by omega⟩,⟨by omega,by omega⟩,trivial⟩
theorem qtJ{n a b:Int}(hn:1≤n∧n≤4)(ha:inR a 0 (n-1)=true)(hb:inR b 0 (n-1)=true):inInt .i64 (a*n)∧inInt .i64 (a*n+b):=by
 simp only[inR,zi]at ha hb;have hn4:n=1∨n=2∨n=3∨n=4:=by omega
 rcases hn4 with rfl | rfl | rfl | rfl<;>exact⟨⟨by omega,by omega⟩,⟨by omega,by omega⟩⟩
theorem qnB{n:Int}(h:inInt .i64 n):IntKind.i64.wrap n=n:=by
 obtain⟨h1,h2⟩:=h;simp only[IntKind.wrap_i64];omega
theorem qtK(g:Graph)(a b:Int):∃v,Rt 62 [.agg g.e,.one (I a),.one (I b)] [.one (I v)]:=by
 cases ha:inR a 0 (IntKind.i64.wrap (g.workers-1)) with
 | false=>exact⟨_,qtA ⟨qaK _ _ _ _ ha,rfl,trivial⟩⟩
 | true=>
 cases hb:inR b 0 (IntKind.i64.wrap (g.workers-1)) with
 | false=>exact⟨_,qtB ⟨qaK _ _ _ _ ha,rfl,qaK _ _ _ _ hb,rfl,trivial⟩⟩
 | true=>
 by_cases hn:g.workers<1
 ·exact⟨_,qOt ⟨qaK _ _ _ _ ha,rfl,qaK _ _ _ _ hb,rfl,dT hn,trivial⟩⟩
 ·exact⟨_,qtC ⟨qaK _ _ _ _ ha,rfl,qaK _ _ _ _ hb,rfl,dF hn,trivial⟩⟩
theorem qnC(g:Graph)(a b:Int)(hn:1≤g.workers∧g.workers≤4):Rt 62 [.agg g.e,.one (I a),.one (I b)] [.one (I (qav g a b))]:=by
 have i1:IntKind.i64.wrap (g.workers-1)=g.workers-1:=qnB ⟨by omega,by omega⟩;have in1:∀(x:Int) (r:Bool),inR x 0 (g.workers-1)=r→Rt 167 [.one (I x),.one (I 0),.one (I (IntKind.i64.wrap (g.workers-1)))] [.one (B r)]:=fun x r h=>by
  rw[i1];exact qaK _ _ _ _ h
 cases ha:inR a 0 (g.workers-1) with
 | false=>
  rw[qdW (by rw[ha];rfl)];exact qtA ⟨in1 _ _ ha,rfl,trivial⟩
 | true=>
 cases hb:inR b 0 (g.workers-1) with
 | false=>
  rw[qdW (by rw[ha,hb];rfl)];exact qtB ⟨in1 _ _ ha,rfl,in1 _ _ hb,rfl,trivial⟩
 | true=>
  obtain⟨j1,j2⟩:=qtJ hn ha hb;have key:Rt 62 [.agg g.e,.one (I a),.one (I b)] [.one (I (IntKind.i64.wrap (IntKind.i64.wrap (a*g.workers)+b)))]:=qtC ⟨in1 a true ha,rfl,in1 b true hb,rfl,dF (by omega),trivial⟩;rw[qnB j1,qnB j2]at key;rw[(qex hn ha hb).1];exact key
theorem qtL(g:Graph)(a b:Int)(hn:1≤g.workers∧g.workers≤4):Rt 61 [.agg g.e,.one (I a),.one (I b)] [.one (I (qav g a b))]:=by
 cases hh:(inR a 0 (g.workers-1)&&inR b 0 (g.workers-1)) with
 | true=>
  rw[zj]at hh;obtain⟨j1,j2⟩:=qtJ hn hh.1 hh.2;rw[(qex hn hh.1 hh.2).1];obtain⟨ha,hb⟩:=hh;simp only[inR,zi]at ha hb;exact qNA ⟨dF (by split<;>omega),dF (by split<;>omega),j1,j2,trivial⟩
 | false=>
  rw[qdW hh];have hh':¬((0≤a∧a≤g.workers-1)∧(0≤b∧b≤g.workers-1)):=by
   intro k;have:(inR a 0 (g.workers-1)&&inR b 0 (g.workers-1))=true:=by simp only[inR,zj,zi];exact k
   rw[this]at hh;cases hh
  by_cases hm:(if b<a then b else a)<0
  ·exact qNy ⟨dT hm,trivial⟩
  ·exact qNz ⟨dF hm,dT (by split at hm<;>split<;>omega),trivial⟩
theorem qnD(w:Worker)(r:Record):(kept w r).e=[.sl 5 (w.queue.map Record.e++[r.e]),.sl 5 (w.staged.map Record.e),.sl 5 (w.inputs.map Record.e),.sl 4 (w.cells.map Cell.e),.sl 1 (w.sums.map eI),.sl 1 (w.black.map eB),.sl 1 (w.caps.map eB),.sl 2 (w.dones.map Done.e)]:=by
 simp only[kept,Worker.e,zU];rfl
theorem qPm(w:Worker)(r:Record):(received w r).e=[.sl 5 (w.queue.map Record.e++[r.e]),.sl 5 (w.staged.map Record.e),.sl 5 (w.inputs.map Record.e),.sl 4 (w.cells.map Cell.e),.sl 1 ((w.sums.map eI).set r.stamp.epoch.toNat [I (w.sums.getD r.stamp.epoch.toNat 0-1)]),.sl 1 ((w.black.map eB).set r.stamp.epoch.toNat [B true]),.sl 1 (w.caps.map eB),.sl 2 (w.dones.map Done.e)]:=by
 simp only[received,incAt,Worker.e,zU,zau];rfl
theorem qtM(w:Worker)(e:Int):(qbY w e).e=[.sl 5 (w.queue.map Record.e),.sl 5 (w.staged.map Record.e),.sl 5 (w.inputs.map Record.e),.sl 4 (w.cells.map Cell.e),.sl 1 ((w.sums.map eI).set e.toNat [I (w.sums.getD e.toNat 0+1)]),.sl 1 (w.black.map eB),.sl 1 (w.caps.map eB),.sl 2 (w.dones.map Done.e)]:=by
 simp only[qbY,incAt,Worker.e,zau];rfl
theorem qtN(w:Worker)(r:Record)(hw:w.sz≤8388608):Rt 189 [.agg w.e,.agg r.e] [.agg (kept w r).e]:=by
 have hq:w.queue.length≤8388608:=by simp only[Worker.sz]at hw;omega
 rw[qnD];exact qNx ⟨qgJ w hw,one_m hq,one_x hq,qat (Record.flat r),trivial⟩
theorem qPn(w:Worker)(r:Record)(hw:w.sz≤8388608)(h4:w.sums.length=4)(hb:w.black.length=4)(he:0≤r.stamp.epoch∧r.stamp.epoch≤3)(hs:-1000000≤w.sums.getD r.stamp.epoch.toNat 0∧w.sums.getD r.stamp.epoch.toNat 0≤1000000):
  Rt 196 [.agg w.e,.agg r.e] [.agg (received w r).e]:=by
 have k:=qtN w r hw;rw[qnD]at k;rw[qPm];obtain⟨s1,s2⟩:=int4 h4 he;obtain⟨b1,b2⟩:=bool4 hb he;have hif:(if (↑(w.black.map eB).length:Int)<(↑(w.sums.map eI).length:Int) then (↑(w.black.map eB).length:Int) else (↑(w.sums.map eI).length:Int))-1=3:=by
  rw[zb,zb,h4,hb];rfl
 exact qNK _ _ _ _ _ _ _ _ _ _ _ _ _ _ _ _ _ _ _ _ _ _ _ _ _ ⟨k,⟨by rw[hif];omega,by rw[hif];omega⟩,qaO _ _ _ true (by rw[hif];simp only[inR,zi];omega),rfl,he.1,s1,s2,⟨by omega,by omega⟩,he.1,s1,s2,he.1,b1,b2,trivial⟩
theorem qPo(w:Worker)(e:Int)(hw:w.sz≤8388608)(h4:w.sums.length=4)(he:0≤e∧e≤3)(hs:-1000000≤w.sums.getD e.toNat 0∧w.sums.getD e.toNat 0≤1000000):
  Rt 191 [.agg w.e,.one (I e)] [.agg (qbY w e).e]:=by
 rw[qtM];obtain⟨s1,s2⟩:=int4 h4 he;have hif:(↑(w.sums.map eI).length:Int)-1=3:=by rw[zb,h4];rfl
 exact qNT _ _ _ _ _ _ _ _ _ _ _ _ _ _ _ _ _ _ _ _ ⟨qgJ w hw,⟨by rw[hif];omega,by rw[hif];omega⟩,qaO _ _ _ true (by rw[hif];simp only[inR,zi];omega),rfl,he.1,s1,s2,⟨by omega,by omega⟩,he.1,s1,s2,trivial⟩
theorem qPp(w:Worker)(r:Record)(t:List Record)(hw:w.sz≤8388608)(h:w.staged=r::t):Rt 188 [.agg w.e] [.agg (qbf w t).e,.agg r.e,.one (B true)]:=by
 have e:(qbf w t).e=[.sl 5 (w.queue.map Record.e),.sl 5 (((w.staged.map Record.e).drop 1).take ((w.staged.map Record.e).length-1)),.sl 5 (w.inputs.map Record.e),.sl 4 (w.cells.map Cell.e),.sl 1 (w.sums.map eI),.sl 1 (w.black.map eB),.sl 1 (w.caps.map eB),.sl 2 (w.dones.map Done.e)]:=by rw[qdE h];rfl
 rw[e];exact qOb ⟨qgJ w hw,len_t h,cut_a,cut_b h,cut_c,by omega,qcq h,qcY h,trivial⟩
theorem qPq(g:Graph)(w:Worker)(hg:g.sz≤8388608)(hw:w.sz≤8388608):Rt 203 [.agg g.e,.agg w.e] [.agg (qaY g w).1.e,.one (B (qaY g w).2)]:=by
 have cp:=qgJ w hw;have k:=qfr g hg;have kw:=qjX g w hg hw;have hcl:w.cells.length≤8388608:=by simp only[Worker.sz]at hw;omega
 cases h1:qax g with
 | false=>
  rw[h1]at k;rw[show qaY g w=(w,false) by unfold qaY;simp[h1]];exact qOc ⟨cp,k,rfl,trivial⟩
 | true=>
 rw[h1]at k;cases h2:qaJ g w with
 | false=>
  rw[h2]at kw;rw[show qaY g w=(w,false) by unfold qaY;simp[h2]];exact qOd ⟨cp,k,rfl,kw,rfl,trivial⟩
 | true=>
 rw[h2]at kw;have hu:qaY g w=match w.staged,w.queue with
  | [],r::q=>(⟨q,(qau g w.cells r).2.1,w.inputs,(qau g w.cells r).1,w.sums,w.black,(if capped g r then w.caps.set r.stamp.epoch.toNat true else w.caps),w.dones⟩,true)
  | _,_=>(w,false):=by unfold qaY;rw[h1,h2];rfl
 cases h3:w.staged with
 | cons r q=>
  rw[show qaY g w=(w,false) by rw[hu,h3]];exact qOe ⟨cp,k,rfl,kw,rfl,pos_t h3,trivial⟩
 | nil=>
 cases h4:w.queue with
 | nil=>
  rw[show qaY g w=(w,false) by rw[hu,h3,h4]];exact qOf ⟨cp,k,rfl,kw,rfl,pos_f h3,len_f h4,trivial⟩
 | cons r q=>
  have st:=qH4 g w.cells r hg hcl;have ca:=qPf g r hg;obtain⟨k1,_,_,_,_,_,k7,_⟩:=qbd.1 h2;rw[h4,qdb]at k1;have he:=qdB k1.1;obtain⟨c1,c2⟩:=bool4 k7 he;cases h5:capped g r with
  | true=>
   rw[h5]at ca;rw[show qaY g w=(⟨q,(qau g w.cells r).2.1,w.inputs,(qau g w.cells r).1,w.sums,w.black,w.caps.set r.stamp.epoch.toNat true,w.dones⟩,true) by rw[hu,h3,h4];simp only[h5,zbb]];have e:Worker.e ⟨q,(qau g w.cells r).2.1,w.inputs,(qau g w.cells r).1,w.sums,w.black,w.caps.set r.stamp.epoch.toNat true,w.dones⟩=[.sl 5 (((w.queue.map Record.e).drop 1).take ((w.queue.map Record.e).length-1)),.sl 5 ((qau g w.cells r).2.1.map Record.e),.sl 5 (w.inputs.map Record.e),.sl 4 ((qau g w.cells r).1.map Cell.e),.sl 1 (w.sums.map eI),.sl 1 (w.black.map eB),.sl 1 ((w.caps.map eB).set r.stamp.epoch.toNat [B true]),.sl 2 (w.dones.map Done.e)]:=by
    rw[qdE h4];simp only[Worker.e,zau];rfl
   dsimp only;rw[e];exact qOg _ _ _ _ _ _ _ _ _ _ _ _ _ _ _ _ _ _ _ _ _ _ _ _ _ _ _ _ _ _ _ ⟨cp,k,rfl,kw,rfl,pos_f h3,len_t h4,by omega,qcq h4,qcY h4,cut_a,cut_b h4,cut_c,st,ca,rfl,he.1,c1,c2,trivial⟩
  | false=>
   rw[h5]at ca;rw[show qaY g w=(⟨q,(qau g w.cells r).2.1,w.inputs,(qau g w.cells r).1,w.sums,w.black,w.caps,w.dones⟩,true) by rw[hu,h3,h4];simp only[h5];rfl];have e:Worker.e ⟨q,(qau g w.cells r).2.1,w.inputs,(qau g w.cells r).1,w.sums,w.black,w.caps,w.dones⟩=[.sl 5 (((w.queue.map Record.e).drop 1).take ((w.queue.map Record.e).length-1)),.sl 5 ((qau g w.cells r).2.1.map Record.e),.sl 5 (w.inputs.map Record.e),.sl 4 ((qau g w.cells r).1.map Cell.e),.sl 1 (w.sums.map eI),.sl 1 (w.black.map eB),.sl 1 (w.caps.map eB),.sl 2 (w.dones.map Done.e)]:=by
    rw[qdE h4];rfl
   dsimp only;rw[e];exact qOh ⟨cp,k,rfl,kw,rfl,pos_f h3,len_t h4,by omega,qcq h4,qcY h4,cut_a,cut_b h4,cut_c,st,ca,rfl,trivial⟩
theorem qPr(g:Graph)(w:Worker)(hg:g.sz≤8388608)(hw:w.sz≤8388608):Rt 200 [.agg g.e,.agg w.e] [.agg (qaZ g w).1.e,.one (B (qaZ g w).2)]:=by
 have cp:=qgJ w hw;have k:=qfr g hg;have kw:=qjX g w hg hw;have hq:w.queue.length≤8388608:=by simp only[Worker.sz]at hw;omega
 cases h1:qax g with
 | false=>
  rw[h1]at k;rw[show qaZ g w=(w,false) by unfold qaZ;simp[h1]];exact qN5 ⟨cp,k,rfl,trivial⟩
 | true=>
 rw[h1]at k;cases h2:qaJ g w with
 | false=>
  rw[h2]at kw;rw[show qaZ g w=(w,false) by unfold qaZ;simp[h2]];exact qN6 ⟨cp,k,rfl,kw,rfl,trivial⟩
 | true=>
 rw[h2]at kw;have hu:qaZ g w=match w.staged,w.queue,w.inputs with
  | [],[],r::t=>(⟨[r],[],t,w.cells,w.sums,w.black,w.caps,w.dones⟩,true)
  | _,_,_=>(w,false):=by unfold qaZ;rw[h1,h2];rfl
 cases h3:w.staged with
 | cons r q=>
  rw[show qaZ g w=(w,false) by rw[hu,h3]];exact qN7 ⟨cp,k,rfl,kw,rfl,pos_t h3,trivial⟩
 | nil=>
 cases h4:w.queue with
 | cons r q=>
  rw[show qaZ g w=(w,false) by rw[hu,h3,h4]];exact qN8 ⟨cp,k,rfl,kw,rfl,pos_f h3,pos_t h4,trivial⟩
 | nil=>
 cases h5:w.inputs with
 | nil=>
  rw[show qaZ g w=(w,false) by rw[hu,h3,h4,h5]];exact qN9 ⟨cp,k,rfl,kw,rfl,pos_f h3,pos_f h4,len_f h5,trivial⟩
 | cons r t=>
  rw[show qaZ g w=(⟨[r],[],t,w.cells,w.sums,w.black,w.caps,w.dones⟩,true) by rw[hu,h3,h4,h5]];have e:Worker.e ⟨[r],[],t,w.cells,w.sums,w.black,w.caps,w.dones⟩=[.sl 5 (w.queue.map Record.e++[r.e]),.sl 5 (w.staged.map Record.e),.sl 5 (((w.inputs.map Record.e).drop 1).take ((w.inputs.map Record.e).length-1)),.sl 4 (w.cells.map Cell.e),.sl 1 (w.sums.map eI),.sl 1 (w.black.map eB),.sl 1 (w.caps.map eB),.sl 2 (w.dones.map Done.e)]:=by
   rw[qdE h5,h4,h3];rfl
  dsimp only;rw[e];exact qOa ⟨cp,k,rfl,kw,rfl,pos_f h3,pos_f h4,len_t h5,by omega,qcq h5,qcY h5,one_m hq,one_x hq,qat (Record.flat r),cut_a,cut_b h5,cut_c,trivial⟩
end Go.Proofs.YtdkobdhckkjmeaaGreat
