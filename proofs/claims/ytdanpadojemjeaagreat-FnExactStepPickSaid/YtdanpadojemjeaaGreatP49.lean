/- Links and workers: SendOn, TakeFrom, CreditBack, LinkPlace, Kept, Received, SentAway, Unstaged, WorkOn, TakeInput, Capped: what program and reference compute (printed by mkp49.py). -/
import Derived.Test.YtdanpadojemjeaaGreatP46
import Derived.Test.YtdanpadojemjeaaGreatGW
import Derived.Test.YtdanpadojemjeaaGreatGX
set_option linter.unusedVariables false
set_option linter.unusedSimpArgs false
namespace Go.Proofs.YtdanpadojemjeaaGreat
open Go.Sx Go.RowKit Go.Proofs.Tryz
section
variable {xs : List Record} {r : Record} {t : List Record}
theorem qde(h:xs=r::t):((xs.map Record.e).drop 1).take ((xs.map Record.e).length-1)=t.map Record.e:=by subst h;exact zbi (by simp)
theorem qb6(h:xs=r::t):(0:Int)<(↑(xs.map Record.e).length:Int):=by subst h;simp only[zb,zr];omega
theorem qcD(h:xs=r::t):(xs.map Record.e)[0]?=some r.e:=by subst h;rfl
theorem len_t(h:xs=r::t):((↑(xs.map Record.e).length:Int)==0)=false:=by
 have:=qb6 h
 rw[zQ,zcb,zF];omega
theorem len_f(h:xs=[]):((↑(xs.map Record.e).length:Int)==0)=true:=by subst h;rfl
theorem pos_t(h:xs=r::t):decide ((↑(xs.map Record.e).length:Int)>0)=true:=dT (qb6 h)
theorem pos_f(h:xs=[]):decide ((↑(xs.map Record.e).length:Int)>0)=false:=by subst h;rfl
theorem cut_a:(0:Int)≤(some (1:Int)).getD 0:=by decide
theorem cut_b(h:xs=r::t):(some (1:Int)).getD 0≤(none:Option Int).getD (↑(xs.map Record.e).length:Int):=by
 have:=qb6 h
 simp only[zU,Option.getD_none];omega
theorem cut_c{l:List (List D)}:(none:Option Int).getD (↑l.length:Int)≤(↑l.length:Int):=by simp
theorem qf6(h:xs=r::t)(hl:xs.length≤8388608):(([]:List (List D)).length+(((xs.map Record.e).drop 1).take ((xs.map Record.e).length-1)).length)*40≤140737488355328:=by
 rw[qde h];refine nl _ ?_;subst h;simp only[zb,zr]at *;omega
theorem qf7(h:xs=r::t)(hl:xs.length≤8388608):([]:List (List D)).length+(((xs.map Record.e).drop 1).take ((xs.map Record.e).length-1)).length≤9223372036854775807:=by
 rw[qde h];refine nl1 _ ?_;subst h;simp only[zb,zr]at *;omega
theorem qf8(h:xs=r::t):Flat (((xs.map Record.e).drop 1).take ((xs.map Record.e).length-1)):=by rw[qde h];exact qae _ Record.flat _
theorem qg5(h:xs=r::t):([]:List (List D))++((xs.map Record.e).drop 1).take ((xs.map Record.e).length-1)=t.map Record.e:=qde h
end
theorem one_m{xs:List Record}{a:List D}(h:xs.length≤8388608):((xs.map Record.e).length+[a].length)*40≤140737488355328:=by simp;omega
theorem one_x{xs:List Record}{a:List D}(h:xs.length≤8388608):(xs.map Record.e).length+[a].length≤9223372036854775807:=by simp;omega
theorem qpV(a:Int)(q:List Record)(r:Record)(b c d e:Int):Link.e ⟨a,q++[r],b,c,d,e⟩=[I a,.sl 5 (q.map Record.e++[r.e]),I b,I c,I d,I e]:=by
 simp only[Link.e,zai];rfl
theorem qf9{l:Link}(h:qbm l=true):(0≤l.credits∧l.credits≤4)∧(0≤l.back∧l.back≤4)∧(0≤l.sent∧l.sent≤1000000000)∧(0≤l.got∧l.got≤1000000000)∧l.queue.length≤4:=by
 obtain⟨k1,k2,k3,k4,k5,k6,k7,k8⟩:=qe3.1 h
 simp only[inR,zi]at k1 k2 k3 k5
 omega
theorem qKL(l:Link)(r:Record)(hl:l.sz≤8388608):Rt 214 [.agg l.e,.agg r.e] [.agg (qaE l r).1.e,.one (B (qaE l r).2)]:=by
 have cp:=qh6 l hl
 have k:=qil l hl
 have kr:=qeT r
 have hq:l.queue.length≤8388608:=hl
 cases h1:qbm l with
 | false=>
  rw[h1]at k
  rw[show qaE l r=(l,false) by unfold qaE;simp[h1]]
  exact qJ7 ⟨cp,k,rfl,trivial⟩
 | true=>
 rw[h1]at k
 cases h2:qaF r with
 | false=>
  rw[h2]at kr
  rw[show qaE l r=(l,false) by unfold qaE;simp[h2]]
  exact qJ8 ⟨cp,k,rfl,kr,rfl,trivial⟩
 | true=>
 rw[h2]at kr
 by_cases h3:l.credits=0
 ·rw[show qaE l r=(l,false) by unfold qaE;simp[h3]]
  exact qJ9 ⟨cp,k,rfl,kr,rfl,by rw[zF];exact h3,trivial⟩
 have h3':(l.credits==0)=false:=by rw[zQ,zcb,zF];exact h3
 obtain⟨n1,n2,n3,n4,n5⟩:=qf9 h1
 by_cases h4:l.sent<1000000000
 ·rw[show qaE l r=(⟨l.cap,l.queue++[r],l.credits-1,l.back,l.sent+1,l.got⟩,true) by unfold qaE;simp[h1,h2,h3,h4]]
  dsimp only
  rw[qpV]
  exact qKb ⟨cp,k,rfl,kr,rfl,h3',dF (by omega),one_m hq,one_x hq,qas (Record.flat r),⟨by omega,by omega⟩,⟨by omega,by omega⟩,trivial⟩
 ·rw[show qaE l r=(l,false) by unfold qaE;simp[h4]]
  dsimp only
  exact qKa ⟨cp,k,rfl,kr,rfl,h3',dT (by omega),trivial⟩
theorem qKM(l:Link)(hl:l.sz≤8388608):Rt 216 [.agg l.e] [.agg (qaB l).1.e,.agg (qaB l).2.1.e,.one (B (qaB l).2.2)]:=by
 have cp:=qh6 l hl
 have k:=qil l hl
 have hq:l.queue.length≤8388608:=hl
 cases h1:qbm l with
 | false=>
  rw[h1]at k
  rw[show qaB l=(l,rec0,false) by unfold qaB;simp[h1]]
  exact qKd ⟨cp,k,rfl,trivial⟩
 | true=>
 rw[h1]at k
 cases h2:l.queue with
 | nil=>
  rw[show qaB l=(l,rec0,false) by unfold qaB;rw[zq h1];simp only[h2]]
  exact qKe ⟨cp,k,rfl,len_f h2,trivial⟩
 | cons r q=>
  obtain⟨n1,n2,n3,n4,n5⟩:=qf9 h1
  rw[show qaB l=(⟨l.cap,q,l.credits,l.back+1,l.sent,l.got+1⟩,r,true) by unfold qaB;rw[zq h1];simp only[h2]]
  have e:Link.e ⟨l.cap,q,l.credits,l.back+1,l.sent,l.got+1⟩=[I l.cap,.sl 5 (((l.queue.map Record.e).drop 1).take ((l.queue.map Record.e).length-1)),I l.credits,I (l.back+1),I l.sent,I (l.got+1)]:=by rw[qde h2];rfl
  dsimp only
  rw[e]
  exact qKf ⟨cp,k,rfl,len_t h2,by omega,qb6 h2,qcD h2,cut_a,cut_b h2,cut_c,qf6 h2 hq,qf7 h2 hq,qf8 h2,⟨by omega,by omega⟩,⟨by omega,by omega⟩,trivial⟩
theorem qKN(l:Link)(hl:l.sz≤8388608):Rt 217 [.agg l.e] [.agg (qbg l).1.e,.one (B (qbg l).2)]:=by
 have cp:=qh6 l hl
 have k:=qil l hl
 cases h1:qbm l with
 | false=>
  rw[h1]at k
  rw[show qbg l=(l,false) by unfold qbg;simp[h1]]
  exact qJ3 ⟨cp,k,rfl,trivial⟩
 | true=>
 rw[h1]at k
 by_cases h3:l.back=0
 ·rw[show qbg l=(l,false) by unfold qbg;simp[h3]]
  exact qJ4 ⟨cp,k,rfl,by rw[zF];exact h3,trivial⟩
 ·obtain⟨n1,n2,n3,n4,n5⟩:=qf9 h1
  rw[show qbg l=(⟨l.cap,l.queue,l.credits+1,l.back-1,l.sent,l.got⟩,true) by unfold qbg;simp[h1,h3]]
  exact qJ5 ⟨cp,k,rfl,by rw[zQ,zcb,zF];exact h3,⟨by omega,by omega⟩,⟨by omega,by omega⟩,trivial⟩
theorem qKO(l:Link)(r:Record)(hl:l.sz≤8388608)(hg:l.got≤9223372036854775807):Rt 156 [.agg l.e,.agg r.e] [.agg (qaE l r).1.e,.one (B (qaE l r).2)]:=by
 have cp:=qh5 l hl
 have k:=qik l hl hg
 have kr:=qdU r
 have hq:l.queue.length≤8388608:=hl
 cases h1:qbm l with
 | false=>
  rw[h1]at k
  rw[show qaE l r=(l,false) by unfold qaE;simp[h1]]
  exact qJv ⟨cp,k,rfl,trivial⟩
 | true=>
 rw[h1]at k
 cases h2:qaF r with
 | false=>
  rw[h2]at kr
  rw[show qaE l r=(l,false) by unfold qaE;simp[h2]]
  exact qJw ⟨cp,k,rfl,kr,rfl,trivial⟩
 | true=>
 rw[h2]at kr
 by_cases h3:l.credits=0
 ·rw[show qaE l r=(l,false) by unfold qaE;simp[h3]]
  exact qJx ⟨cp,k,rfl,kr,rfl,by rw[zF];exact h3,trivial⟩
 have h3':(l.credits==0)=false:=by rw[zQ,zcb,zF];exact h3
 obtain⟨n1,n2,n3,n4,n5⟩:=qf9 h1
 by_cases h4:l.sent<1000000000
 ·rw[show qaE l r=(⟨l.cap,l.queue++[r],l.credits-1,l.back,l.sent+1,l.got⟩,true) by unfold qaE;simp[h1,h2,h3,h4]]
  dsimp only
  rw[qpV]
  exact qJz ⟨cp,k,rfl,kr,rfl,h3',by rw[zQ,zcb,zF];omega,one_m hq,one_x hq,qas (Record.flat r),⟨by omega,by omega⟩,⟨by omega,by omega⟩,trivial⟩
 ·rw[show qaE l r=(l,false) by unfold qaE;simp[h4]]
  dsimp only
  exact qJy ⟨cp,k,rfl,kr,rfl,h3',by rw[zF];omega,trivial⟩
theorem qKP(l:Link)(hl:l.sz≤8388608)(hg:l.got≤9223372036854775807):Rt 159 [.agg l.e] [.agg (qaB l).1.e,.agg (qaB l).2.1.e,.one (B (qaB l).2.2)]:=by
 have cp:=qh5 l hl
 have k:=qik l hl hg
 have hq:l.queue.length≤8388608:=hl
 cases h1:qbm l with
 | false=>
  rw[h1]at k
  rw[show qaB l=(l,rec0,false) by unfold qaB;simp[h1]]
  exact qJJ ⟨cp,k,rfl,trivial⟩
 | true=>
 rw[h1]at k
 cases h2:l.queue with
 | nil=>
  rw[show qaB l=(l,rec0,false) by unfold qaB;rw[zq h1];simp only[h2]]
  exact qJK ⟨cp,k,rfl,len_f h2,trivial⟩
 | cons r q=>
  obtain⟨n1,n2,n3,n4,n5⟩:=qf9 h1
  rw[show qaB l=(⟨l.cap,q,l.credits,l.back+1,l.sent,l.got+1⟩,r,true) by unfold qaB;rw[zq h1];simp only[h2]]
  have e:Link.e ⟨l.cap,q,l.credits,l.back+1,l.sent,l.got+1⟩=[I l.cap,.sl 5 (((l.queue.map Record.e).drop 1).take ((l.queue.map Record.e).length-1)),I l.credits,I (l.back+1),I l.sent,I (l.got+1)]:=by rw[qde h2];rfl
  dsimp only
  rw[e]
  exact qJL ⟨cp,k,rfl,len_t h2,cut_a,cut_b h2,cut_c,⟨by omega,by omega⟩,⟨by omega,by omega⟩,by omega,qb6 h2,qcD h2,trivial⟩
theorem qKQ(l:Link)(hl:l.sz≤8388608)(hg:l.got≤9223372036854775807):Rt 161 [.agg l.e] [.agg (qbg l).1.e,.one (B (qbg l).2)]:=by
 have cp:=qh5 l hl
 have k:=qik l hl hg
 cases h1:qbm l with
 | false=>
  rw[h1]at k
  rw[show qbg l=(l,false) by unfold qbg;simp[h1]]
  exact qJe ⟨cp,k,rfl,trivial⟩
 | true=>
 rw[h1]at k
 by_cases h3:l.back=0
 ·rw[show qbg l=(l,false) by unfold qbg;simp[h3]]
  exact qJf ⟨cp,k,rfl,by rw[zF];exact h3,trivial⟩
 ·obtain⟨n1,n2,n3,n4,n5⟩:=qf9 h1
  rw[show qbg l=(⟨l.cap,l.queue,l.credits+1,l.back-1,l.sent,l.got⟩,true) by unfold qbg;simp[h1,h3]]
  exact qJg ⟨cp,k,rfl,by rw[zQ,zcb,zF];exact h3,⟨by omega,by omega⟩,⟨by omega,by omega⟩,trivial⟩
theorem qpW{n a b:Int}(hn:1≤n∧n≤4)(ha:inR a 0 (n-1)=true)(hb:inR b 0 (n-1)=true):inInt .i64 (a*n)∧inInt .i64 (a*n+b):=by
 simp only[inR,zi]at ha hb
 have hn4:n=1∨n=2∨n=3∨n=4:=by omega
 rcases hn4 with rfl | rfl | rfl | rfl<;>exact⟨⟨by omega,by omega⟩,⟨by omega,by omega⟩⟩
theorem qkY{n:Int}(h:inInt .i64 n):IntKind.i64.wrap n=n:=by
 obtain⟨h1,h2⟩:=h
 simp only[IntKind.wrap_i64];omega
theorem qpX(g:Graph)(a b:Int):∃v,Rt 213 [.agg g.e,.one (I a),.one (I b)] [.one (I v)]:=by
 cases ha:inR a 0 (IntKind.i64.wrap (g.workers-1)) with
 | false=>exact⟨_,qpO ⟨qaK _ _ _ _ ha,rfl,trivial⟩⟩
 | true=>
 cases hb:inR b 0 (IntKind.i64.wrap (g.workers-1)) with
 | false=>exact⟨_,qpP ⟨qaK _ _ _ _ ha,rfl,qaK _ _ _ _ hb,rfl,trivial⟩⟩
 | true=>
 by_cases hn:g.workers<1
 ·exact⟨_,qJ6 ⟨qaK _ _ _ _ ha,rfl,qaK _ _ _ _ hb,rfl,dT hn,trivial⟩⟩
 ·exact⟨_,qpQ ⟨qaK _ _ _ _ ha,rfl,qaK _ _ _ _ hb,rfl,dF hn,trivial⟩⟩
theorem qkZ(g:Graph)(a b:Int)(hn:1≤g.workers∧g.workers≤4):Rt 213 [.agg g.e,.one (I a),.one (I b)] [.one (I (qaU g a b))]:=by
 have i1:IntKind.i64.wrap (g.workers-1)=g.workers-1:=qkY ⟨by omega,by omega⟩
 have in1:∀(x:Int) (r:Bool),inR x 0 (g.workers-1)=r→Rt 137 [.one (I x),.one (I 0),.one (I (IntKind.i64.wrap (g.workers-1)))] [.one (B r)]:=fun x r h=>by
  rw[i1];exact qaK _ _ _ _ h
 cases ha:inR a 0 (g.workers-1) with
 | false=>
  rw[qd3 (by rw[ha];rfl)]
  exact qpO ⟨in1 _ _ ha,rfl,trivial⟩
 | true=>
 cases hb:inR b 0 (g.workers-1) with
 | false=>
  rw[qd3 (by rw[ha,hb];rfl)]
  exact qpP ⟨in1 _ _ ha,rfl,in1 _ _ hb,rfl,trivial⟩
 | true=>
  obtain⟨j1,j2⟩:=qpW hn ha hb
  have key:Rt 213 [.agg g.e,.one (I a),.one (I b)] [.one (I (IntKind.i64.wrap (IntKind.i64.wrap (a*g.workers)+b)))]:=qpQ ⟨in1 a true ha,rfl,in1 b true hb,rfl,dF (by omega),trivial⟩
  rw[qkY j1,qkY j2]at key
  rw[(qis hn ha hb).1]
  exact key
theorem qpY(g:Graph)(a b:Int)(hn:1≤g.workers∧g.workers≤4):Rt 155 [.agg g.e,.one (I a),.one (I b)] [.one (I (qaU g a b))]:=by
 cases hh:(inR a 0 (g.workers-1)&&inR b 0 (g.workers-1)) with
 | true=>
  rw[zj]at hh
  obtain⟨j1,j2⟩:=qpW hn hh.1 hh.2
  rw[(qis hn hh.1 hh.2).1]
  obtain⟨ha,hb⟩:=hh
  simp only[inR,zi]at ha hb
  exact qJk ⟨dF (by split<;>omega),dF (by split<;>omega),j1,j2,trivial⟩
 | false=>
  rw[qd3 hh]
  have hh':¬((0≤a∧a≤g.workers-1)∧(0≤b∧b≤g.workers-1)):=by
   intro k
   have:(inR a 0 (g.workers-1)&&inR b 0 (g.workers-1))=true:=by simp only[inR,zj,zi];exact k
   rw[this]at hh;cases hh
  by_cases hm:(if b<a then b else a)<0
  ·exact qJi ⟨dT hm,trivial⟩
  ·exact qJj ⟨dF hm,dT (by split at hm<;>split<;>omega),trivial⟩
theorem qk0(w:Worker)(r:Record):(kept w r).e=[.sl 5 (w.queue.map Record.e++[r.e]),.sl 5 (w.staged.map Record.e),.sl 5 (w.inputs.map Record.e),.sl 4 (w.cells.map Cell.e),.sl 1 (w.sums.map eI),.sl 1 (w.black.map eB),.sl 1 (w.caps.map eB),.sl 2 (w.dones.map Done.e)]:=by
 simp only[kept,Worker.e,zai];rfl
theorem qKR(w:Worker)(r:Record):(received w r).e=[.sl 5 (w.queue.map Record.e++[r.e]),.sl 5 (w.staged.map Record.e),.sl 5 (w.inputs.map Record.e),.sl 4 (w.cells.map Cell.e),.sl 1 ((w.sums.map eI).set r.stamp.epoch.toNat [I (w.sums.getD r.stamp.epoch.toNat 0-1)]),.sl 1 ((w.black.map eB).set r.stamp.epoch.toNat [B true]),.sl 1 (w.caps.map eB),.sl 2 (w.dones.map Done.e)]:=by
 simp only[received,incAt,Worker.e,zai,zaq];rfl
theorem qpZ(w:Worker)(e:Int):(qcC w e).e=[.sl 5 (w.queue.map Record.e),.sl 5 (w.staged.map Record.e),.sl 5 (w.inputs.map Record.e),.sl 4 (w.cells.map Cell.e),.sl 1 ((w.sums.map eI).set e.toNat [I (w.sums.getD e.toNat 0+1)]),.sl 1 (w.black.map eB),.sl 1 (w.caps.map eB),.sl 2 (w.dones.map Done.e)]:=by
 simp only[qcC,incAt,Worker.e,zaq];rfl
theorem qp0(w:Worker)(r:Record)(hw:w.sz≤8388608):Rt 154 [.agg w.e,.agg r.e] [.agg (kept w r).e]:=by
 have hq:w.queue.length≤8388608:=by simp only[Worker.sz]at hw;omega
 rw[qk0]
 exact qJh ⟨qfT w hw,one_m hq,one_x hq,qas (Record.flat r),trivial⟩
theorem qKS(w:Worker)(r:Record)(hw:w.sz≤8388608)(h4:w.sums.length=4)(hb:w.black.length=4)(he:0≤r.stamp.epoch∧r.stamp.epoch≤3)(hs:-1000000≤w.sums.getD r.stamp.epoch.toNat 0∧w.sums.getD r.stamp.epoch.toNat 0≤1000000):
  Rt 160 [.agg w.e,.agg r.e] [.agg (received w r).e]:=by
 have k:=qp0 w r hw
 rw[qk0]at k
 rw[qKR]
 obtain⟨s1,s2⟩:=int4 h4 he
 obtain⟨b1,b2⟩:=bool4 hb he
 have hif:(if (↑(w.black.map eB).length:Int)<(↑(w.sums.map eI).length:Int) then (↑(w.black.map eB).length:Int) else (↑(w.sums.map eI).length:Int))-1=3:=by
  rw[zb,zb,h4,hb];rfl
 exact qJu _ _ _ _ _ _ _ _ _ _ _ _ _ _ _ _ _ _ _ _ _ _ _ _ _ ⟨k,⟨by rw[hif];omega,by rw[hif];omega⟩,qaY _ _ _ true (by rw[hif];simp only[inR,zi];omega),rfl,he.1,s1,s2,⟨by omega,by omega⟩,he.1,s1,s2,he.1,b1,b2,trivial⟩
theorem qKT(w:Worker)(e:Int)(hw:w.sz≤8388608)(h4:w.sums.length=4)(he:0≤e∧e≤3)(hs:-1000000≤w.sums.getD e.toNat 0∧w.sums.getD e.toNat 0≤1000000):
  Rt 157 [.agg w.e,.one (I e)] [.agg (qcC w e).e]:=by
 rw[qpZ]
 obtain⟨s1,s2⟩:=int4 h4 he
 have hif:(↑(w.sums.map eI).length:Int)-1=3:=by rw[zb,h4];rfl
 exact qJA _ _ _ _ _ _ _ _ _ _ _ _ _ _ _ _ _ _ _ _ ⟨qfT w hw,⟨by rw[hif];omega,by rw[hif];omega⟩,qaY _ _ _ true (by rw[hif];simp only[inR,zi];omega),rfl,he.1,s1,s2,⟨by omega,by omega⟩,he.1,s1,s2,trivial⟩
theorem qKU(w:Worker)(r:Record)(t:List Record)(hw:w.sz≤8388608)(h:w.staged=r::t):Rt 152 [.agg w.e] [.agg (qbI w t).e,.agg r.e,.one (B true)]:=by
 have e:(qbI w t).e=[.sl 5 (w.queue.map Record.e),.sl 5 (((w.staged.map Record.e).drop 1).take ((w.staged.map Record.e).length-1)),.sl 5 (w.inputs.map Record.e),.sl 4 (w.cells.map Cell.e),.sl 1 (w.sums.map eI),.sl 1 (w.black.map eB),.sl 1 (w.caps.map eB),.sl 2 (w.dones.map Done.e)]:=by rw[qde h];rfl
 rw[e]
 exact qJS ⟨qfT w hw,len_t h,cut_a,cut_b h,cut_c,by omega,qb6 h,qcD h,trivial⟩
theorem qKV{g:Graph}{op:Int}{x:Node}(h:qaM g op=some x):0≤op∧op<(↑(g.nodes.map Node.e).length:Int)∧(g.nodes.map Node.e)[op.toNat]?=some x.e:=by
 unfold qaM at h
 split at h
 ·have:=lt_of h
  exact⟨‹_›,by rw[zb];omega,qad Node.e h⟩
 ·cases h
theorem qKW(g:Graph)(r:Record)(hg:g.sz≤8388608):Rt 219 [.agg g.e,.agg r.e] [.one (B (capped g r))]:=by
 have k:=qfZ g hg
 have kr:=qdU r
 have nt:=qkI r.stamp
 cases h1:qaw g with
 | false=>
  rw[h1]at k
  rw[show capped g r=false by unfold capped;split<;>simp[qbs,h1]]
  exact qHM ⟨k,rfl,trivial⟩
 | true=>
 rw[h1]at k
 cases h2:qaF r with
 | false=>
  rw[h2]at kr
  rw[show capped g r=false by unfold capped;split<;>simp[qbs,h2]]
  exact qHN ⟨k,rfl,kr,rfl,trivial⟩
 | true=>
 rw[h2]at kr
 cases h3:qaM g r.op with
 | none=>
  rw[show capped g r=false by unfold capped;rw[h3]]
  exact qHO ⟨k,rfl,kr,rfl,qfO g r.op false (by rw[h3];rfl) hg,rfl,trivial⟩
 | some x=>
  obtain⟨m1,m2,m3⟩:=qKV h3
  have ni:=qfO g r.op true (by rw[h3];rfl) hg
  rw[show capped g r=qbs g r x by unfold capped;rw[h3]]
  cases h4:(x.kind==7) with
  | false=>
   rw[show qbs g r x=false by simp[qbs,h4]]
   exact qHR ⟨k,rfl,kr,rfl,ni,rfl,m1,m2,m3,nt,h4,trivial⟩
  | true=>
  by_cases h5:0<x.outs.length
  ·rw[show qbs g r x=!(qaA r.stamp).2 by simp[qbs,h1,h2,h4,h5]]
   exact qHP ⟨k,rfl,kr,rfl,ni,rfl,m1,m2,m3,nt,h4,dT (by rw[zb];omega),trivial⟩
  ·rw[show qbs g r x=false by simp[qbs,h5]]
   exact qHQ ⟨k,rfl,kr,rfl,ni,rfl,m1,m2,m3,nt,h4,dF (by rw[zb];omega),trivial⟩
theorem qKX(g:Graph)(w:Worker)(hg:g.sz≤8388608)(hw:w.sz≤8388608):Rt 150 [.agg g.e,.agg w.e] [.agg (qa1 g w).1.e,.one (B (qa1 g w).2)]:=by
 have cp:=qfT w hw
 have k:=qfZ g hg
 have kw:=qio g w hg hw
 have hcl:w.cells.length≤8388608:=by simp only[Worker.sz]at hw;omega
 cases h1:qaw g with
 | false=>
  rw[h1]at k
  rw[show qa1 g w=(w,false) by unfold qa1;simp[h1]]
  exact qJT ⟨cp,k,rfl,trivial⟩
 | true=>
 rw[h1]at k
 cases h2:qaz g w with
 | false=>
  rw[h2]at kw
  rw[show qa1 g w=(w,false) by unfold qa1;simp[h2]]
  exact qJU ⟨cp,k,rfl,kw,rfl,trivial⟩
 | true=>
 rw[h2]at kw
 have hu:qa1 g w=match w.staged,w.queue with
  | [],r::q=>(⟨q,(qay g w.cells r).2.1,w.inputs,(qay g w.cells r).1,w.sums,w.black,(if capped g r then w.caps.set r.stamp.epoch.toNat true else w.caps),w.dones⟩,true)
  | _,_=>(w,false):=by unfold qa1;rw[h1,h2];rfl
 cases h3:w.staged with
 | cons r q=>
  rw[show qa1 g w=(w,false) by rw[hu,h3]]
  exact qJV ⟨cp,k,rfl,kw,rfl,pos_t h3,trivial⟩
 | nil=>
 cases h4:w.queue with
 | nil=>
  rw[show qa1 g w=(w,false) by rw[hu,h3,h4]]
  exact qJW ⟨cp,k,rfl,kw,rfl,pos_f h3,len_f h4,trivial⟩
 | cons r q=>
  have st:=qGY g w.cells r hg hcl
  have ca:=qKW g r hg
  obtain⟨k1,_,_,_,_,_,k7,_⟩:=qbC.1 h2
  rw[h4,qd0]at k1
  have he:=qd1 k1.1
  obtain⟨c1,c2⟩:=bool4 k7 he
  cases h5:capped g r with
  | true=>
   rw[h5]at ca
   rw[show qa1 g w=(⟨q,(qay g w.cells r).2.1,w.inputs,(qay g w.cells r).1,w.sums,w.black,w.caps.set r.stamp.epoch.toNat true,w.dones⟩,true) by rw[hu,h3,h4];simp only[h5,zaw]]
   have e:Worker.e ⟨q,(qay g w.cells r).2.1,w.inputs,(qay g w.cells r).1,w.sums,w.black,w.caps.set r.stamp.epoch.toNat true,w.dones⟩=[.sl 5 (((w.queue.map Record.e).drop 1).take ((w.queue.map Record.e).length-1)),.sl 5 ((qay g w.cells r).2.1.map Record.e),.sl 5 (w.inputs.map Record.e),.sl 4 ((qay g w.cells r).1.map Cell.e),.sl 1 (w.sums.map eI),.sl 1 (w.black.map eB),.sl 1 ((w.caps.map eB).set r.stamp.epoch.toNat [B true]),.sl 2 (w.dones.map Done.e)]:=by
    rw[qde h4];simp only[Worker.e,zaq];rfl
   dsimp only
   rw[e]
   exact qJX _ _ _ _ _ _ _ _ _ _ _ _ _ _ _ _ _ _ _ _ _ _ _ _ _ _ _ _ _ _ _ ⟨cp,k,rfl,kw,rfl,pos_f h3,len_t h4,by omega,qb6 h4,qcD h4,cut_a,cut_b h4,cut_c,st,ca,rfl,he.1,c1,c2,trivial⟩
  | false=>
   rw[h5]at ca
   rw[show qa1 g w=(⟨q,(qay g w.cells r).2.1,w.inputs,(qay g w.cells r).1,w.sums,w.black,w.caps,w.dones⟩,true) by rw[hu,h3,h4];simp only[h5];rfl]
   have e:Worker.e ⟨q,(qay g w.cells r).2.1,w.inputs,(qay g w.cells r).1,w.sums,w.black,w.caps,w.dones⟩=[.sl 5 (((w.queue.map Record.e).drop 1).take ((w.queue.map Record.e).length-1)),.sl 5 ((qay g w.cells r).2.1.map Record.e),.sl 5 (w.inputs.map Record.e),.sl 4 ((qay g w.cells r).1.map Cell.e),.sl 1 (w.sums.map eI),.sl 1 (w.black.map eB),.sl 1 (w.caps.map eB),.sl 2 (w.dones.map Done.e)]:=by
    rw[qde h4];rfl
   dsimp only
   rw[e]
   exact qJY ⟨cp,k,rfl,kw,rfl,pos_f h3,len_t h4,by omega,qb6 h4,qcD h4,cut_a,cut_b h4,cut_c,st,ca,rfl,trivial⟩
theorem qKY(g:Graph)(w:Worker)(hg:g.sz≤8388608)(hw:w.sz≤8388608):Rt 151 [.agg g.e,.agg w.e] [.agg (qa2 g w).1.e,.one (B (qa2 g w).2)]:=by
 have cp:=qfT w hw
 have k:=qfZ g hg
 have kw:=qio g w hg hw
 have hq:w.queue.length≤8388608:=by simp only[Worker.sz]at hw;omega
 cases h1:qaw g with
 | false=>
  rw[h1]at k
  rw[show qa2 g w=(w,false) by unfold qa2;simp[h1]]
  exact qJM ⟨cp,k,rfl,trivial⟩
 | true=>
 rw[h1]at k
 cases h2:qaz g w with
 | false=>
  rw[h2]at kw
  rw[show qa2 g w=(w,false) by unfold qa2;simp[h2]]
  exact qJN ⟨cp,k,rfl,kw,rfl,trivial⟩
 | true=>
 rw[h2]at kw
 have hu:qa2 g w=match w.staged,w.queue,w.inputs with
  | [],[],r::t=>(⟨[r],[],t,w.cells,w.sums,w.black,w.caps,w.dones⟩,true)
  | _,_,_=>(w,false):=by unfold qa2;rw[h1,h2];rfl
 cases h3:w.staged with
 | cons r q=>
  rw[show qa2 g w=(w,false) by rw[hu,h3]]
  exact qJO ⟨cp,k,rfl,kw,rfl,pos_t h3,trivial⟩
 | nil=>
 cases h4:w.queue with
 | cons r q=>
  rw[show qa2 g w=(w,false) by rw[hu,h3,h4]]
  exact qJP ⟨cp,k,rfl,kw,rfl,pos_f h3,pos_t h4,trivial⟩
 | nil=>
 cases h5:w.inputs with
 | nil=>
  rw[show qa2 g w=(w,false) by rw[hu,h3,h4,h5]]
  exact qJQ ⟨cp,k,rfl,kw,rfl,pos_f h3,pos_f h4,len_f h5,trivial⟩
 | cons r t=>
  rw[show qa2 g w=(⟨[r],[],t,w.cells,w.sums,w.black,w.caps,w.dones⟩,true) by rw[hu,h3,h4,h5]]
  have e:Worker.e ⟨[r],[],t,w.cells,w.sums,w.black,w.caps,w.dones⟩=[.sl 5 (w.queue.map Record.e++[r.e]),.sl 5 (w.staged.map Record.e),.sl 5 (((w.inputs.map Record.e).drop 1).take ((w.inputs.map Record.e).length-1)),.sl 4 (w.cells.map Cell.e),.sl 1 (w.sums.map eI),.sl 1 (w.black.map eB),.sl 1 (w.caps.map eB),.sl 2 (w.dones.map Done.e)]:=by
   rw[qde h5,h4,h3];rfl
  dsimp only
  rw[e]
  exact qJR ⟨cp,k,rfl,kw,rfl,pos_f h3,pos_f h4,len_t h5,by omega,qb6 h5,qcD h5,one_m hq,one_x hq,qas (Record.flat r),cut_a,cut_b h5,cut_c,trivial⟩
end Go.Proofs.YtdanpadojemjeaaGreat
namespace Go.Proofs.YtdanpadojemjeaaGreat
open Go.Sx Go.RowKit Go.Proofs.Tryz
theorem qp1{c:Cluster}{w:Int}(h:wAt c w=none):inR w 0 ((↑(c.workers.map Worker.e).length:Int)-1)=false:=by
 unfold wAt at h
 simp only[inR,zb,zf]
 split at h
 ·rw[List.getElem?_eq_none_iff]at h;omega
 ·omega
theorem qiv{c:Cluster}{w:Int}{x:Worker}(h:wAt c w=some x):inR w 0 ((↑(c.workers.map Worker.e).length:Int)-1)=true:=by
 obtain⟨h1,h2,_⟩:=qcS h
 simp only[inR,zb,zi]
 omega
theorem qga{c:Cluster}{i:Int}{x:Link}(h:lAt c i=some x):0≤i∧i<(↑(c.links.map Link.e).length:Int)∧(c.links.map Link.e)[i.toNat]?=some x.e:=by
 obtain⟨h1,h2,h3⟩:=qdY h
 exact⟨h1,by rw[zb];omega,qad Link.e h3⟩
theorem qgb{c:Cluster}{i:Int}{x:Link}(h:lAt c i=some x)(hc:c.sz≤8388608):x.sz≤8388608:=Cluster.link_sz1 hc (qaq (qdY h).2.2)
theorem qk1{c:Cluster}{i:Int}{x:Link}(h:lAt c i=some x)(hw:GotLe c):x.got≤9223372036854775807:=hw _ (qaq (qdY h).2.2)
theorem wlen1{c:Cluster}(hc:c.sz≤8388608):inInt .i64 ((↑(c.workers.map Worker.e).length:Int)-1):=by
 have:=Cluster.wlen_le hc
 exact⟨by rw[zb];omega,by rw[zb];omega⟩
theorem qk2(c:Cluster)(w:Int)(y:Worker):(setW c w y).e=[.sl 4 (c.graph.nodes.map Node.e),I c.graph.workers,I c.graph.cap,.sl 8 ((c.workers.map Worker.e).set w.toNat y.e),.sl 6 (c.links.map Link.e),.sl 5 (c.tokens.map Token.e),.sl 3 (c.news.map News.e)]:=by simp only[setW,Cluster.e,zaq]
theorem qKZ(c:Cluster)(i:Int)(y:Link):(setL c i y).e=[.sl 4 (c.graph.nodes.map Node.e),I c.graph.workers,I c.graph.cap,.sl 8 (c.workers.map Worker.e),.sl 6 ((c.links.map Link.e).set i.toNat y.e),.sl 5 (c.tokens.map Token.e),.sl 3 (c.news.map News.e)]:=by simp only[setL,Cluster.e,zaq]
theorem qp2(c:Cluster)(w i:Int)(y:Worker)(z:Link):(setW (setL c i z) w y).e=[.sl 4 (c.graph.nodes.map Node.e),I c.graph.workers,I c.graph.cap,.sl 8 ((c.workers.map Worker.e).set w.toNat y.e),.sl 6 ((c.links.map Link.e).set i.toNat z.e),.sl 5 (c.tokens.map Token.e),.sl 3 (c.news.map News.e)]:=by simp only[setW,setL,Cluster.e,zaq]
theorem qg6(c:Cluster)(w:Int)(y:Worker)(b:Bool):runD (setW c w y) b=[.sl 4 (c.graph.nodes.map Node.e),I c.graph.workers,I c.graph.cap,.sl 8 ((c.workers.map Worker.e).set w.toNat y.e),.sl 6 (c.links.map Link.e),.sl 5 (c.tokens.map Token.e),.sl 3 (c.news.map News.e),B b]:=by simp only[setW,runD,zaq]
theorem qp3(c:Cluster)(i:Int)(y:Link)(b:Bool):runD (setL c i y) b=[.sl 4 (c.graph.nodes.map Node.e),I c.graph.workers,I c.graph.cap,.sl 8 (c.workers.map Worker.e),.sl 6 ((c.links.map Link.e).set i.toNat y.e),.sl 5 (c.tokens.map Token.e),.sl 3 (c.news.map News.e),B b]:=by simp only[setL,runD,zaq]
theorem qk3(c:Cluster)(w i:Int)(y:Worker)(z:Link)(b:Bool):runD (setW (setL c i z) w y) b=[.sl 4 (c.graph.nodes.map Node.e),I c.graph.workers,I c.graph.cap,.sl 8 ((c.workers.map Worker.e).set w.toNat y.e),.sl 6 ((c.links.map Link.e).set i.toNat z.e),.sl 5 (c.tokens.map Token.e),.sl 3 (c.news.map News.e),B b]:=by simp only[setW,setL,runD,zaq]
theorem qk4(c:Cluster)(w:Int)(hc:c.sz≤8388608)(hw:GotLe c):Rt 149 [.agg c.e,.one (I w)] [.one (B (qai c&&(wAt c w).isSome))]:=by
 have k:=qip c hc hw
 cases ok:qai c with
 | false=>rw[ok]at k;exact qJZ ⟨k,rfl,trivial⟩
 | true=>
  rw[ok]at k
  cases hx:wAt c w with
  | none=>exact qpN ⟨k,rfl,wlen1 hc,qaY _ _ _ _ (qp1 hx),trivial⟩
  | some x=>exact qpN ⟨k,rfl,wlen1 hc,qaY _ _ _ _ (qiv hx),trivial⟩
theorem qp4(c:Cluster)(a b:Int)(hc:c.sz≤8388608)(hw:GotLe c):Rt 158 [.agg c.e,.one (I a),.one (I b)] [.one (I (if qai c&&a != b then qaU c.graph a b else -1))]:=by
 have k:=qip c hc hw
 cases ok:qai c with
 | false=>rw[ok]at k;exact qJ0 ⟨k,rfl,trivial⟩
 | true=>
  rw[ok]at k
  by_cases hab:a=b
  ·rw[show (true&&a != b)=false by simp[hab]]
   exact qJ1 ⟨k,rfl,by simp[hab],trivial⟩
  ·rw[show (true&&a != b)=true by simp[hab],zq rfl]
   exact qJ2 ⟨k,rfl,by simp[hab],qpY c.graph a b (qcq (qa5.1 ok).1),trivial⟩
theorem qK0(c:Cluster)(w:Int)(hc:c.sz≤8388608)(hw:GotLe c):Rt 88 [.agg c.e,.one (I w)] [.agg (qbo c w).1.e,.one (B (qbo c w).2)]:=by
 have cp:=qdK c hc
 have k:=qk4 c w hc hw
 cases ok:qai c with
 | false=>
  rw[ok]at k
  rw[show qbo c w=(c,false) by unfold qbo;simp[ok]]
  exact qpM ⟨cp,k,rfl,trivial⟩
 | true=>
 cases hx:wAt c w with
 | none=>
  rw[ok,hx]at k
  rw[show qbo c w=(c,false) by unfold qbo;simp[hx]]
  exact qpM ⟨cp,k,rfl,trivial⟩
 | some x=>
  rw[ok,hx]at k
  obtain⟨wE0,wE1,wE2⟩:=qbM hx
  rw[show qbo c w=(setW c w (qa1 c.graph x).1,(qa1 c.graph x).2) by unfold qbo;simp[ok,hx]]
  dsimp only
  rw[qk2]
  exact qJt ⟨cp,k,rfl,wE0,wE1,wE2,qKX c.graph x (Cluster.graph_sz1 hc) (qbS hx hc),wE0,wE1,wE2,trivial⟩
theorem qK1(c:Cluster)(w:Int)(hc:c.sz≤8388608)(hw:GotLe c):Rt 89 [.agg c.e,.one (I w)] [.agg (qbp c w).1.e,.one (B (qbp c w).2)]:=by
 have cp:=qdK c hc
 have k:=qk4 c w hc hw
 cases ok:qai c with
 | false=>
  rw[ok]at k
  rw[show qbp c w=(c,false) by unfold qbp;simp[ok]]
  exact qpJ ⟨cp,k,rfl,trivial⟩
 | true=>
 cases hx:wAt c w with
 | none=>
  rw[ok,hx]at k
  rw[show qbp c w=(c,false) by unfold qbp;simp[hx]]
  exact qpJ ⟨cp,k,rfl,trivial⟩
 | some x=>
  rw[ok,hx]at k
  obtain⟨wE0,wE1,wE2⟩:=qbM hx
  rw[show qbp c w=(setW c w (qa2 c.graph x).1,(qa2 c.graph x).2) by unfold qbp;simp[ok,hx]]
  dsimp only
  rw[qk2]
  exact qJm _ _ _ _ _ _ _ _ _ _ _ _ _ _ _ _ _ _ _ _ _ _ _ _ _ _ _ _ _ _ _ _ _ _ _ _ _ _ _ _ _ ⟨cp,k,rfl,wE0,wE1,wE2,qKY c.graph x (Cluster.graph_sz1 hc) (qbS hx hc),wE0,wE1,wE2,trivial⟩
theorem qiw{c:Cluster}{w:Int}{x:Worker}(ok:qai c=true)(hx:wAt c w=some x):x.sums.length=4∧x.black.length=4∧x.caps.length=4∧(∀e:Int,0≤e∧e≤3→-1000000≤x.sums.getD e.toNat 0∧x.sums.getD e.toNat 0≤1000000):=by
 obtain⟨_,_,_,_,k5,k6,k7,_,k9,_⟩:=qbC.1 (qcr ok hx)
 refine⟨k5,k6,k7,fun e he=>?_⟩
 have hl:e.toNat<x.sums.length:=by omega
 rw[zO]at k9
 have:=k9 _ (zat hl)
 rw[zN,zt hl,zU]
 simpa only[qcc,zS,zW,inR,zi,zbs,Bool.not_not,Bool.not_eq_eq_eq_not,zY,zf,Classical.not_not]using this
theorem qp5{c:Cluster}{w:Int}{x:Worker}{r:Record}{t:List Record}(ok:qai c=true)(hx:wAt c w=some x)(hs:x.staged=r::t):qbq c w=qf3 c w x r t (qcO r.key c.graph.workers):=by
 unfold qbq
 rw[zq ok,hx]
 dsimp only
 rw[hs]
theorem qp6{c:Cluster}{w:Int}{x:Worker}{r:Record}{t:List Record}{o:Int}(h:o=w):qf3 c w x r t o=(setW c w (kept (qbI x t) r),true):=zq h
theorem qp7{c:Cluster}{w:Int}{x:Worker}{r:Record}{t:List Record}{o:Int}{l:Link}(h:o≠w)(hl:lAt c (qaU c.graph w o)=some l):qf3 c w x r t o=if (qaE l r).2 then (setW (setL c (qaU c.graph w o) (qaE l r).1) w (qcC (qbI x t) r.stamp.epoch),true) else (c,false):=by
 unfold qf3
 rw[zo h,hl]
theorem qK2(c:Cluster)(w:Int)(hc:c.sz≤8388608)(hw:GotLe c):Rt 90 [.agg c.e,.one (I w)] [.agg (qbq c w).1.e,.one (B (qbq c w).2)]:=by
 have cp:=qdK c hc
 have k:=qk4 c w hc hw
 cases ok:qai c with
 | false=>
  rw[ok]at k
  rw[show qbq c w=(c,false) by unfold qbq;simp[ok]]
  exact qpK ⟨cp,k,rfl,trivial⟩
 | true=>
 cases hx:wAt c w with
 | none=>
  rw[ok,hx]at k
  rw[show qbq c w=(c,false) by unfold qbq;simp[hx]]
  exact qpK ⟨cp,k,rfl,trivial⟩
 | some x=>
 rw[ok,hx]at k
 obtain⟨wE0,wE1,wE2⟩:=qbM hx
 have hn:=qcq (qa5.1 ok).1
 cases hs:x.staged with
 | nil=>
  rw[show qbq c w=(c,false) by unfold qbq;rw[zq ok,hx];dsimp only;rw[hs]]
  exact qJn ⟨cp,k,rfl,wE0,wE1,wE2,len_f hs,trivial⟩
 | cons r t=>
  have hsz:=qbS hx hc
  have hun:(qbI x t).sz≤8388608:=by have:=qpw hs;omega
  have un:=qKU x r t hsz hs
  have ow:=qyF r.key c.graph.workers (by omega)
  have hr:=(qir (qcr ok hx) hs).2
  have he:=qd1 hr
  obtain⟨f4,_,_,fs⟩:=qiw ok hx
  rw[qp5 ok hx hs]
  have oin:=qpr r.key hn.1
  generalize qcO r.key c.graph.workers=o at ow oin
  by_cases how:o=w
  ·rw[qp6 how]
   dsimp only
   rw[qk2]
   exact qJo ⟨cp,k,rfl,wE0,wE1,wE2,len_t hs,wE0,wE1,wE2,un,ow,by rw[zF];exact how,qp0 (qbI x t) r hun,wE0,wE1,wE2,trivial⟩
  ·have hbo:(o==w)=false:=by rw[zQ,zcb,zF];exact how
   have win:inR w 0 (c.graph.workers-1)=true:=by
    have:=qiv hx
    rwa[zb,(qa5.1 ok).2.1]at this
   obtain⟨l,hl⟩:=qf5 ok win oin
   obtain⟨lE0,lE1,lE2⟩:=qga hl
   have lp:=qpY c.graph w o hn
   have so:=qKO l r (qgb hl hc) (qk1 hl hw)
   rw[qp7 how hl]
   cases h6:(qaE l r).2 with
   | false=>
    rw[h6]at so
    exact qJp ⟨cp,k,rfl,wE0,wE1,wE2,len_t hs,wE0,wE1,wE2,un,ow,hbo,lp,lE0,lE1,lE2,so,rfl,trivial⟩
   | true=>
    rw[h6]at so
    rw[zq rfl]
    dsimp only
    rw[qp2]
    exact qJq ⟨cp,k,rfl,wE0,wE1,wE2,len_t hs,wE0,wE1,wE2,un,ow,hbo,lp,lE0,lE1,lE2,so,rfl,lE0,lE1,lE2,qKT (qbI x t) r.stamp.epoch hun f4 he (fs _ he),wE0,wE1,wE2,trivial⟩
theorem qix{c:Cluster}{a b:Int}(h:(inR a 0 (c.graph.workers-1)&&inR b 0 (c.graph.workers-1))=false):lAt c (qaU c.graph a b)=none:=by
 rw[qd3 h];rfl
theorem qp8{c:Cluster}{a b:Int}{l:Link}{x:Worker}(ok:qai c=true)(hab:a≠b)(hl:lAt c (qaU c.graph a b)=some l)(hx:wAt c b=some x):qbx c a b=if (qaB l).2.2 then (setW (setL c (qaU c.graph a b) (qaB l).1) b (received x (qaB l).2.1),true) else (c,false):=by
 unfold qbx
 rw[zq (by simp[ok,hab]),hl,hx]
theorem qp9{c:Cluster}{a b:Int}{l:Link}(ok:qai c=true)(hab:a≠b)(hl:lAt c (qaU c.graph a b)=some l):qbr c a b=(setL c (qaU c.graph a b) (qbg l).1,(qbg l).2):=by
 unfold qbr
 rw[zq (by simp[ok,hab]),hl]
theorem qK3(c:Cluster)(a b:Int)(hc:c.sz≤8388608)(hw:GotLe c):Rt 91 [.agg c.e,.one (I a),.one (I b)] [.agg (qbx c a b).1.e,.one (B (qbx c a b).2)]:=by
 have cp:=qdK c hc
 have k:=qp4 c a b hc hw
 cases h1:(qai c&&a != b) with
 | false=>
  rw[h1,zo (by decide)]at k
  rw[show qbx c a b=(c,false) by unfold qbx;rw[h1];rfl]
  exact qpL ⟨cp,k,dT (by decide),trivial⟩
 | true=>
 rw[h1,zq rfl]at k
 rw[zj]at h1
 obtain⟨ok,hab⟩:=h1
 have hab:a≠b:=by simpa using hab
 have hn:=qcq (qa5.1 ok).1
 cases hh:(inR a 0 (c.graph.workers-1)&&inR b 0 (c.graph.workers-1)) with
 | false=>
  rw[qd3 hh]at k
  rw[show qbx c a b=(c,false) by unfold qbx;rw[qix hh];split<;>rfl]
  exact qpL ⟨cp,k,dT (by decide),trivial⟩
 | true=>
 rw[zj]at hh
 obtain⟨l,hl⟩:=qf5 ok hh.1 hh.2
 obtain⟨x,hx⟩:∃x,wAt c b=some x:=by
  have hb:=hh.2
  have:=(qa5.1 ok).2.1
  simp only[inR,zi]at hb
  exact qg1 (by omega) (by omega)
 obtain⟨lE0,lE1,lE2⟩:=qga hl
 obtain⟨wE0,wE1,wE2⟩:=qbM hx
 have tf:=qKP l (qgb hl hc) (qk1 hl hw)
 rw[qp8 ok hab hl hx]
 cases h6:(qaB l).2.2 with
 | false=>
  rw[h6]at tf
  exact qJr ⟨cp,k,dF (by omega),lE0,lE1,lE2,tf,rfl,trivial⟩
 | true=>
  rw[h6]at tf
  have he:=qd1 (qkS (qg0 ok hl) h6).2
  obtain⟨f4,fb,_,fs⟩:=qiw ok hx
  rw[zq rfl]
  dsimp only
  rw[qp2]
  exact qJs ⟨cp,k,dF (by omega),lE0,lE1,lE2,tf,rfl,lE0,lE1,lE2,wE0,wE1,wE2,qKS x _ (qbS hx hc) f4 fb he (fs _ he),wE0,wE1,wE2,trivial⟩
theorem qK4(c:Cluster)(a b:Int)(hc:c.sz≤8388608)(hw:GotLe c):Rt 92 [.agg c.e,.one (I a),.one (I b)] [.agg (qbr c a b).1.e,.one (B (qbr c a b).2)]:=by
 have cp:=qdK c hc
 have k:=qp4 c a b hc hw
 cases h1:(qai c&&a != b) with
 | false=>
  rw[h1,zo (by decide)]at k
  rw[show qbr c a b=(c,false) by unfold qbr;rw[h1];rfl]
  exact qpI ⟨cp,k,dT (by decide),trivial⟩
 | true=>
 rw[h1,zq rfl]at k
 rw[zj]at h1
 obtain⟨ok,hab⟩:=h1
 have hab:a≠b:=by simpa using hab
 cases hh:(inR a 0 (c.graph.workers-1)&&inR b 0 (c.graph.workers-1)) with
 | false=>
  rw[qd3 hh]at k
  rw[show qbr c a b=(c,false) by unfold qbr;rw[qix hh];split<;>rfl]
  exact qpI ⟨cp,k,dT (by decide),trivial⟩
 | true=>
 rw[zj]at hh
 obtain⟨l,hl⟩:=qf5 ok hh.1 hh.2
 obtain⟨lE0,lE1,lE2⟩:=qga hl
 rw[qp9 ok hab hl]
 dsimp only
 rw[qKZ]
 exact qJl _ _ _ _ _ _ _ _ _ _ _ _ _ _ _ _ _ _ _ _ _ _ _ _ _ _ _ _ _ _ _ _ _ _ _ _ ⟨cp,k,dF (by omega),lE0,lE1,lE2,qKQ l (qgb hl hc) (qk1 hl hw),lE0,lE1,lE2,trivial⟩
theorem qk5(c:Cluster)(w:Int)(hc:c.sz≤8388608):RetR prog 209 [.ref (runE c) (runE c),.ro (.one (I w))] (.vals [.one (B (qai c&&(wAt c w).isSome))]):=by
 unfold runE
 cases ok:qai c with
 | false=>exact qKo ⟨rfl,trivial⟩
 | true=>
  cases hx:wAt c w with
  | none=>exact qpS ⟨rfl,wlen1 hc,qaK _ _ _ _ (qp1 hx),trivial⟩
  | some x=>exact qpS ⟨rfl,wlen1 hc,qaK _ _ _ _ (qiv hx),trivial⟩
def sumW(x:Worker)(e d:Int):Worker:=⟨x.queue,x.staged,x.inputs,x.cells,incAt x.sums e d,x.black,x.caps,x.dones⟩
theorem qqa(w:Worker)(e d:Int):(sumW w e d).e=[.sl 5 (w.queue.map Record.e),.sl 5 (w.staged.map Record.e),.sl 5 (w.inputs.map Record.e),.sl 4 (w.cells.map Cell.e),.sl 1 ((w.sums.map eI).set e.toNat [I (w.sums.getD e.toNat 0+d)]),.sl 1 (w.black.map eB),.sl 1 (w.caps.map eB),.sl 2 (w.dones.map Done.e)]:=by
 simp only[sumW,incAt,Worker.e,zaq];rfl
theorem qqb(c:Cluster)(w e d:Int)(x:Worker)(hx:wAt c w=some x)(h4:x.sums.length=4)(he:0≤e∧e≤3)(hd:-1≤d∧d≤1)(hs:-1000000≤x.sums.getD e.toNat 0∧x.sums.getD e.toNat 0≤1000000):
  RetR prog 215 [.ref (runD c true) (runD (setW c w (sumW x e d)) (inR (x.sums.getD e.toNat 0+d) (-1000000) 1000000)),.ro (.one (I w)),.ro (.one (I e)),.ro (.one (I d))] (.vals []):=by
 obtain⟨wE0,wE1,wE2⟩:=qbM hx
 obtain⟨s1,s2⟩:=int4 h4 he
 rw[qg6,qqa]
 exact qKt ⟨wE0,wE1,wE2,wE0,wE1,wE2,he.1,s1,s2,⟨by omega,by omega⟩,he.1,s1,s2,wE2,rfl,rfl,rfl,rfl,rfl,wE0,by rw[zn];exact wE1,gs1 wE0 wE1,he.1,by rw[zn];exact s1,gs1 he.1 s1,qbf _ _ _,trivial⟩
theorem qK5(c:Cluster)(w:Int)(hc:c.sz≤8388608):RetR prog 144 [.ref (runE c) (runE (qbo c w).1),.ro (.one (I w))] (.vals [.one (B (qbo c w).2)]):=by
 have post:=fun h=>qIC (c:=c) (w:=w) h
 have is:=qk5 c w hc
 cases ok:qai c with
 | false=>
  rw[ok]at is
  rw[show qbo c w=(c,false) by unfold qbo;simp[ok]]
  exact qpU ⟨is,rfl,trivial⟩
 | true=>
 replace post:=post ok
 cases hx:wAt c w with
 | none=>
  rw[ok,hx]at is
  rw[show qbo c w=(c,false) by unfold qbo;simp[hx]]
  exact qpU ⟨is,rfl,trivial⟩
 | some x=>
 rw[ok,hx]at is
 obtain⟨wE0,wE1,wE2⟩:=qbM hx
 have hsz:=qbS hx hc
 have gok:=(qa5.1 ok).1
 have wok:=qcr ok hx
 have hu:qa1 c.graph x=match x.staged,x.queue with
  | [],r::q=>(⟨q,(qay c.graph x.cells r).2.1,x.inputs,(qay c.graph x.cells r).1,x.sums,x.black,(if capped c.graph r then x.caps.set r.stamp.epoch.toNat true else x.caps),x.dones⟩,true)
  | _,_=>(x,false):=by unfold qa1;rw[gok,wok];rfl
 have pe:qbo c w=(setW c w (qa1 c.graph x).1,(qa1 c.graph x).2):=by unfold qbo;simp[ok,hx]
 cases h3:x.staged with
 | cons r q=>
  rw[pe,show qa1 c.graph x=(x,false) by rw[hu,h3]]
  dsimp only
  rw[qe2 hx]
  exact qKz ⟨is,rfl,wE0,wE1,wE2,pos_t h3,trivial⟩
 | nil=>
 cases h4:x.queue with
 | nil=>
  rw[pe,show qa1 c.graph x=(x,false) by rw[hu,h3,h4]]
  dsimp only
  rw[qe2 hx]
  exact qKA ⟨is,rfl,wE0,wE1,wE2,pos_f h3,len_f h4,trivial⟩
 | cons r q=>
  have hcl:x.cells.length≤8388608:=by simp only[Worker.sz]at hsz;omega
  have hql:x.queue.length≤8388608:=by simp only[Worker.sz]at hsz;omega
  have hg:=Cluster.graph_sz1 hc
  have st:=qGX c.graph x.cells r hg hcl
  have ca:=qG0 c.graph r hg
  obtain⟨k1,_,_,_,_,_,k7,_⟩:=qbC.1 wok
  rw[h4,qd0]at k1
  have he:=qd1 k1.1
  obtain⟨c1,c2⟩:=bool4 k7 he
  unfold runE at is ⊢
  rw[post]
  rw[ok]at is ⊢
  cases h5:capped c.graph r with
  | true=>
   rw[h5]at ca
   rw[pe,show qa1 c.graph x=(⟨q,(qay c.graph x.cells r).2.1,x.inputs,(qay c.graph x.cells r).1,x.sums,x.black,x.caps.set r.stamp.epoch.toNat true,x.dones⟩,true) by rw[hu,h3,h4];simp only[h5,zaw]]
   have e:Worker.e ⟨q,(qay c.graph x.cells r).2.1,x.inputs,(qay c.graph x.cells r).1,x.sums,x.black,x.caps.set r.stamp.epoch.toNat true,x.dones⟩=[.sl 5 ([]++((x.queue.map Record.e).drop 1).take ((x.queue.map Record.e).length-1)),.sl 5 ((qay c.graph x.cells r).2.1.map Record.e),.sl 5 (x.inputs.map Record.e),.sl 4 ((qay c.graph x.cells r).1.map Cell.e),.sl 1 (x.sums.map eI),.sl 1 (x.black.map eB),.sl 1 ((x.caps.map eB).set r.stamp.epoch.toNat [B true]),.sl 2 (x.dones.map Done.e)]:=by
    rw[qg5 h4];simp only[Worker.e,zaq];rfl
   dsimp only
   rw[qg6,e]
   have key:=qKB ⟨is,rfl,wE0,wE1,wE2,pos_f h3,len_t h4,by omega,qb6 h4,qcD h4,st,cut_a,cut_b h4,cut_c,qf6 h4 hql,qf7 h4 hql,qf8 h4,ca,rfl,he.1,c1,c2,wE2,rfl,rfl,rfl,rfl,wE0,by rw[zn];exact wE1,gs1 wE0 wE1,rfl,rfl,rfl,rfl,rfl,trivial⟩
   simp only[zak]at key
   exact key
  | false=>
   rw[h5]at ca
   rw[pe,show qa1 c.graph x=(⟨q,(qay c.graph x.cells r).2.1,x.inputs,(qay c.graph x.cells r).1,x.sums,x.black,x.caps,x.dones⟩,true) by rw[hu,h3,h4];simp only[h5];rfl]
   have e:Worker.e ⟨q,(qay c.graph x.cells r).2.1,x.inputs,(qay c.graph x.cells r).1,x.sums,x.black,x.caps,x.dones⟩=[.sl 5 ([]++((x.queue.map Record.e).drop 1).take ((x.queue.map Record.e).length-1)),.sl 5 ((qay c.graph x.cells r).2.1.map Record.e),.sl 5 (x.inputs.map Record.e),.sl 4 ((qay c.graph x.cells r).1.map Cell.e),.sl 1 (x.sums.map eI),.sl 1 (x.black.map eB),.sl 1 (x.caps.map eB),.sl 2 (x.dones.map Done.e)]:=by
    rw[qg5 h4];rfl
   dsimp only
   rw[qg6,e]
   exact qKC ⟨is,rfl,wE0,wE1,wE2,pos_f h3,len_t h4,by omega,qb6 h4,qcD h4,st,cut_a,cut_b h4,cut_c,qf6 h4 hql,qf7 h4 hql,qf8 h4,ca,rfl,wE0,wE1,wE2,rfl,rfl,rfl,rfl,rfl,trivial⟩
theorem qK6(c:Cluster)(w:Int)(hc:c.sz≤8388608):RetR prog 145 [.ref (runE c) (runE (qbp c w).1),.ro (.one (I w))] (.vals [.one (B (qbp c w).2)]):=by
 have post:=fun h=>qID (c:=c) (w:=w) h
 have is:=qk5 c w hc
 cases ok:qai c with
 | false=>
  rw[ok]at is
  rw[show qbp c w=(c,false) by unfold qbp;simp[ok]]
  exact qpR ⟨is,rfl,trivial⟩
 | true=>
 replace post:=post ok
 cases hx:wAt c w with
 | none=>
  rw[ok,hx]at is
  rw[show qbp c w=(c,false) by unfold qbp;simp[hx]]
  exact qpR ⟨is,rfl,trivial⟩
 | some x=>
 rw[ok,hx]at is
 obtain⟨wE0,wE1,wE2⟩:=qbM hx
 have hsz:=qbS hx hc
 have gok:=(qa5.1 ok).1
 have wok:=qcr ok hx
 have hil:x.inputs.length≤8388608:=by simp only[Worker.sz]at hsz;omega
 have hu:qa2 c.graph x=match x.staged,x.queue,x.inputs with
  | [],[],r::t=>(⟨[r],[],t,x.cells,x.sums,x.black,x.caps,x.dones⟩,true)
  | _,_,_=>(x,false):=by unfold qa2;rw[gok,wok];rfl
 have pe:qbp c w=(setW c w (qa2 c.graph x).1,(qa2 c.graph x).2):=by unfold qbp;simp[ok,hx]
 cases h3:x.staged with
 | cons r q=>
  rw[pe,show qa2 c.graph x=(x,false) by rw[hu,h3]]
  dsimp only
  rw[qe2 hx]
  exact qKk ⟨is,rfl,wE0,wE1,wE2,pos_t h3,trivial⟩
 | nil=>
 cases h4:x.queue with
 | cons r q=>
  rw[pe,show qa2 c.graph x=(x,false) by rw[hu,h3,h4]]
  dsimp only
  rw[qe2 hx]
  exact qKl ⟨is,rfl,wE0,wE1,wE2,pos_f h3,pos_t h4,trivial⟩
 | nil=>
 cases h5:x.inputs with
 | nil=>
  rw[pe,show qa2 c.graph x=(x,false) by rw[hu,h3,h4,h5]]
  dsimp only
  rw[qe2 hx]
  exact qKm ⟨is,rfl,wE0,wE1,wE2,pos_f h3,pos_f h4,len_f h5,trivial⟩
 | cons r t=>
  unfold runE at is ⊢
  rw[post]
  rw[ok]at is ⊢
  rw[pe,show qa2 c.graph x=(⟨[r],[],t,x.cells,x.sums,x.black,x.caps,x.dones⟩,true) by rw[hu,h3,h4,h5]]
  have e:Worker.e ⟨[r],[],t,x.cells,x.sums,x.black,x.caps,x.dones⟩=[.sl 5 ([r.e]),.sl 5 (x.staged.map Record.e),.sl 5 ([]++((x.inputs.map Record.e).drop 1).take ((x.inputs.map Record.e).length-1)),.sl 4 (x.cells.map Cell.e),.sl 1 (x.sums.map eI),.sl 1 (x.black.map eB),.sl 1 (x.caps.map eB),.sl 2 (x.dones.map Done.e)]:=by
   rw[qg5 h5,h3];rfl
  dsimp only
  rw[qg6,e]
  exact qKn ⟨is,rfl,wE0,wE1,wE2,pos_f h3,pos_f h4,len_t h5,by omega,qb6 h5,qcD h5,cut_a,cut_b h5,cut_c,qf6 h5 hil,qf7 h5 hil,qf8 h5,wE0,wE1,wE2,rfl,rfl,rfl,rfl,rfl,rfl,trivial⟩
theorem qK7(c:Cluster)(w:Int)(hc:c.sz≤8388608):RetR prog 146 [.ref (runE c) (runE (qbq c w).1),.ro (.one (I w))] (.vals [.one (B (qbq c w).2)]):=by
 have is:=qk5 c w hc
 cases ok:qai c with
 | false=>
  rw[ok]at is
  rw[show qbq c w=(c,false) by unfold qbq;simp[ok]]
  exact qpT ⟨is,rfl,trivial⟩
 | true=>
 cases hx:wAt c w with
 | none=>
  rw[ok,hx]at is
  rw[show qbq c w=(c,false) by unfold qbq;simp[hx]]
  exact qpT ⟨is,rfl,trivial⟩
 | some x=>
 rw[ok,hx]at is
 obtain⟨wE0,wE1,wE2⟩:=qbM hx
 have hsz:=qbS hx hc
 have hn:=qcq (qa5.1 ok).1
 cases hs:x.staged with
 | nil=>
  rw[show qbq c w=(c,false) by unfold qbq;rw[zq ok,hx];dsimp only;rw[hs]]
  exact qKp ⟨is,rfl,wE0,wE1,wE2,len_f hs,trivial⟩
 | cons r t=>
  have ow:=qyE r.key c.graph.workers (by omega)
  have hr:=(qir (qcr ok hx) hs).2
  have he:=qd1 hr
  have hql:x.queue.length≤8388608:=by simp only[Worker.sz]at hsz;omega
  have hsl:x.staged.length≤8388608:=by simp only[Worker.sz]at hsz;omega
  obtain⟨f4,_,_,fs⟩:=qiw ok hx
  rw[qp5 ok hx hs]
  have oin:=qpr r.key hn.1
  generalize qcO r.key c.graph.workers=o at ow oin
  by_cases how:o=w
  ·have hbo:(o != w)=false:=by simp[how]
   rw[qp6 how]
   unfold runE at is ⊢
   dsimp only
   rw[qIA ok hx hs]
   rw[ok]at is ⊢
   have e:(kept (qbI x t) r).e=[.sl 5 (x.queue.map Record.e++[r.e]),.sl 5 ([]++((x.staged.map Record.e).drop 1).take ((x.staged.map Record.e).length-1)),.sl 5 (x.inputs.map Record.e),.sl 4 (x.cells.map Cell.e),.sl 1 (x.sums.map eI),.sl 1 (x.black.map eB),.sl 1 (x.caps.map eB),.sl 2 (x.dones.map Done.e)]:=by
    rw[qg5 hs,qk0];rfl
   rw[qg6,e]
   have key:=qKs ⟨is,rfl,wE0,wE1,wE2,len_t hs,wE0,wE1,wE2,by omega,qb6 hs,qcD hs,ow,hbo,wE0,wE1,wE2,one_m hql,one_x hql,wE2,rfl,qas (Record.flat r),rfl,rfl,rfl,rfl,rfl,rfl,rfl,rfl,rfl,rfl,rfl,rfl,rfl,wE0,wE1,wE2,rfl,wE0,by rw[zn];exact wE1,gs1 wE0 wE1,cut_a,cut_b hs,cut_c,qf6 hs hsl,qf7 hs hsl,qf8 hs,wE0,by rw[zn];exact wE1,gs1 wE0 wE1,trivial⟩
   simp only[zak]at key
   exact key
  ·have hbo:(o != w)=true:=by simp[how]
   have win:inR w 0 (c.graph.workers-1)=true:=by
    have:=qiv hx
    rwa[zb,(qa5.1 ok).2.1]at this
   obtain⟨l,hl⟩:=qf5 ok win oin
   obtain⟨lE0,lE1,lE2⟩:=qga hl
   have lp:=qkZ c.graph w o hn
   have so:=qKL l r (qgb hl hc)
   have om:=fun h=>qIz ok hx hs oin how hl h
   rw[qp7 how hl]
   cases h6:(qaE l r).2 with
   | false=>
    rw[h6]at so
    exact qKq ⟨is,rfl,wE0,wE1,wE2,len_t hs,wE0,wE1,wE2,by omega,qb6 hs,qcD hs,ow,hbo,lp,lE0,lE1,lE2,so,rfl,trivial⟩
   | true=>
    rw[h6]at so
    rw[zq rfl]
    unfold runE at is ⊢
    dsimp only
    rw[om h6]
    rw[ok]at is ⊢
    have su:=qqb (setL c (qaU c.graph w o) (qaE l r).1) w r.stamp.epoch 1 x (qg3.trans hx) f4 he (by omega) (fs _ he)
    rw[qp3,qk3,qqa]at su
    have e:(qcC (qbI x t) r.stamp.epoch).e=[.sl 5 (x.queue.map Record.e),.sl 5 ([]++((x.staged.map Record.e).drop 1).take ((x.staged.map Record.e).length-1)),.sl 5 (x.inputs.map Record.e),.sl 4 (x.cells.map Cell.e),.sl 1 ((x.sums.map eI).set r.stamp.epoch.toNat [I (x.sums.getD r.stamp.epoch.toNat 0+1)]),.sl 1 (x.black.map eB),.sl 1 (x.caps.map eB),.sl 2 (x.dones.map Done.e)]:=by
     rw[qg5 hs,qpZ];rfl
    rw[qk3,e]
    have key:=qKr ⟨is,rfl,wE0,wE1,wE2,len_t hs,wE0,wE1,wE2,by omega,qb6 hs,qcD hs,ow,hbo,lp,lE0,lE1,lE2,so,rfl,lE0,lE1,lE2,su,wE0,by rw[zn];exact wE1,gs1 wE0 wE1,cut_a,cut_b hs,cut_c,qf6 hs hsl,qf7 hs hsl,qf8 hs,wE0,by rw[zn];exact wE1,gs1 wE0 wE1,trivial⟩
    simp only[zak]at key
    exact key
theorem qK8(c:Cluster)(a b:Int)(hc:c.sz≤8388608):RetR prog 147 [.ref (runE c) (runE (qbx c a b).1),.ro (.one (I a)),.ro (.one (I b))] (.vals [.one (B (qbx c a b).2)]):=by
 cases ok:qai c with
 | false=>
  rw[show qbx c a b=(c,false) by unfold qbx;simp[ok]]
  obtain⟨v,lp⟩:=qpX c.graph a b
  unfold runE
  rw[ok]
  exact qKu ⟨lp,rfl,trivial⟩
 | true=>
 have hn:=qcq (qa5.1 ok).1
 have lp:=qkZ c.graph a b hn
 cases hh:(inR a 0 (c.graph.workers-1)&&inR b 0 (c.graph.workers-1)) with
 | false=>
  rw[qd3 hh]at lp
  rw[show qbx c a b=(c,false) by unfold qbx;rw[qix hh];split<;>rfl]
  unfold runE
  rw[ok]
  exact qKv ⟨lp,rfl,dT (by decide),trivial⟩
 | true=>
 rw[zj]at hh
 obtain⟨l,hl⟩:=qf5 ok hh.1 hh.2
 obtain⟨lE0,lE1,lE2⟩:=qga hl
 by_cases hab:a=b
 ·rw[show qbx c a b=(c,false) by unfold qbx;simp[hab]]
  unfold runE
  rw[ok]
  exact qKw ⟨lp,rfl,dF (by omega),by simp[hab],trivial⟩
 have hbo:(a==b)=false:=by simp[hab]
 obtain⟨x,hx⟩:∃x,wAt c b=some x:=by
  have hb:=hh.2
  have:=(qa5.1 ok).2.1
  simp only[inR,zi]at hb
  exact qg1 (by omega) (by omega)
 obtain⟨wE0,wE1,wE2⟩:=qbM hx
 have hsz:=qbS hx hc
 have tf:=qKM l (qgb hl hc)
 have ot:=fun h=>qIB ok hl hx h
 rw[qp8 ok hab hl hx]
 unfold runE
 cases h6:(qaB l).2.2 with
 | false=>
  rw[h6]at tf
  rw[zo (by decide)]
  dsimp only
  rw[ok]
  exact qKx ⟨lp,rfl,dF (by omega),hbo,lE0,lE1,lE2,tf,rfl,trivial⟩
 | true=>
  rw[h6]at tf
  rw[zq rfl]
  dsimp only
  rw[ot h6,ok]
  have hr:=(qkS (qg0 ok hl) h6).2
  have he:=qd1 hr
  generalize (qaB l).2.1=r at tf hr he ⊢
  obtain⟨f4,fb,_,fs⟩:=qiw ok hx
  have hql:x.queue.length≤8388608:=by simp only[Worker.sz]at hsz;omega
  obtain⟨b1,b2⟩:=bool4 fb he
  have hx2:wAt (setW (setL c (qaU c.graph a b) (qaB l).1) b ⟨x.queue++[r],x.staged,x.inputs,x.cells,x.sums,x.black.set r.stamp.epoch.toNat true,x.caps,x.dones⟩) b=some ⟨x.queue++[r],x.staged,x.inputs,x.cells,x.sums,x.black.set r.stamp.epoch.toNat true,x.caps,x.dones⟩:=by
   obtain⟨q1,q2,_⟩:=qcS hx
   unfold wAt setW setL
   rw[zq q1]
   exact List.getElem?_set_self q2
  have su:=qqb _ b r.stamp.epoch (-1) _ hx2 f4 he (by omega) (fs _ he)
  rw[qk3]at su
  have e2:Worker.e ⟨x.queue++[r],x.staged,x.inputs,x.cells,x.sums,x.black.set r.stamp.epoch.toNat true,x.caps,x.dones⟩=[.sl 5 (x.queue.map Record.e++[r.e]),.sl 5 (x.staged.map Record.e),.sl 5 (x.inputs.map Record.e),.sl 4 (x.cells.map Cell.e),.sl 1 (x.sums.map eI),.sl 1 ((x.black.map eB).set r.stamp.epoch.toNat [B true]),.sl 1 (x.caps.map eB),.sl 2 (x.dones.map Done.e)]:=by
   simp only[Worker.e,zai,zaq];rfl
  rw[e2,←zak]at su
  rw[show setW (setW (setL c (qaU c.graph a b) (qaB l).1) b ⟨x.queue++[r],x.staged,x.inputs,x.cells,x.sums,x.black.set r.stamp.epoch.toNat true,x.caps,x.dones⟩) b (sumW ⟨x.queue++[r],x.staged,x.inputs,x.cells,x.sums,x.black.set r.stamp.epoch.toNat true,x.caps,x.dones⟩ r.stamp.epoch (-1))=setW (setL c (qaU c.graph a b) (qaB l).1) b (received x r) by unfold setW setL;simp only[zak];rfl]at su
  exact qKy ⟨lp,rfl,dF (by omega),hbo,lE0,lE1,lE2,tf,rfl,lE0,lE1,lE2,wE0,wE1,wE2,one_m hql,one_x hql,wE2,rfl,qas (Record.flat r),rfl,rfl,rfl,rfl,rfl,rfl,rfl,wE0,wE1,wE2,rfl,wE0,by rw[zn];exact wE1,gs1 wE0 wE1,he.1,b1,b2,gs1 wE0 wE1,rfl,rfl,su,trivial⟩
theorem qK9(c:Cluster)(a b:Int)(hc:c.sz≤8388608):RetR prog 148 [.ref (runE c) (runE (qbr c a b).1),.ro (.one (I a)),.ro (.one (I b))] (.vals [.one (B (qbr c a b).2)]):=by
 have post:=fun h=>qIE (c:=c) (a:=a) (b:=b) h
 cases ok:qai c with
 | false=>
  rw[show qbr c a b=(c,false) by unfold qbr;simp[ok]]
  obtain⟨v,lp⟩:=qpX c.graph a b
  unfold runE
  rw[ok]
  exact qKg ⟨lp,rfl,trivial⟩
 | true=>
 replace post:=post ok
 have hn:=qcq (qa5.1 ok).1
 have lp:=qkZ c.graph a b hn
 unfold runE
 rw[post,ok]
 cases hh:(inR a 0 (c.graph.workers-1)&&inR b 0 (c.graph.workers-1)) with
 | false=>
  rw[qd3 hh]at lp
  rw[show qbr c a b=(c,false) by unfold qbr;rw[qix hh];split<;>rfl]
  exact qKh ⟨lp,rfl,dT (by decide),trivial⟩
 | true=>
 rw[zj]at hh
 obtain⟨l,hl⟩:=qf5 ok hh.1 hh.2
 obtain⟨lE0,lE1,lE2⟩:=qga hl
 by_cases hab:a=b
 ·rw[show qbr c a b=(c,false) by unfold qbr;simp[hab]]
  exact qKi ⟨lp,rfl,dF (by omega),by simp[hab],trivial⟩
 rw[qp9 ok hab hl]
 dsimp only
 rw[qp3]
 exact qKj ⟨lp,rfl,dF (by omega),by simp[hab],lE0,lE1,lE2,qKN l (qgb hl hc),lE0,lE1,lE2,trivial⟩
theorem qLa(c:Cluster)(p:Pick)(hc:c.sz≤8388608):RetR prog 87 [.ref (runE c) (runE (stepPick c p).1),.ro (.agg p.e)] (.vals [.one (B (stepPick c p).2)]):=by
 by_cases h1:p.kind=1
 ·rw[show stepPick c p=qbo c p.a by unfold stepPick;simp[h1]]
  exact qKD ⟨by rw[zF];exact h1,qK5 c p.a hc,trivial⟩
 have n1:(p.kind==1)=false:=by rw[zQ,zcb,zF];exact h1
 by_cases h2:p.kind=2
 ·rw[show stepPick c p=qbp c p.a by unfold stepPick;simp[h2]]
  exact qKE ⟨n1,by rw[zF];exact h2,qK6 c p.a hc,trivial⟩
 have n2:(p.kind==2)=false:=by rw[zQ,zcb,zF];exact h2
 by_cases h3:p.kind=3
 ·rw[show stepPick c p=qbq c p.a by unfold stepPick;simp[h3]]
  exact qKF ⟨n1,n2,by rw[zF];exact h3,qK7 c p.a hc,trivial⟩
 have n3:(p.kind==3)=false:=by rw[zQ,zcb,zF];exact h3
 by_cases h4:p.kind=4
 ·rw[show stepPick c p=qbx c p.a p.b by unfold stepPick;simp[h4]]
  exact qKG ⟨n1,n2,n3,by rw[zF];exact h4,qK8 c p.a p.b hc,trivial⟩
 have n4:(p.kind==4)=false:=by rw[zQ,zcb,zF];exact h4
 by_cases h5:p.kind=5
 ·rw[show stepPick c p=qbr c p.a p.b by unfold stepPick;simp[h5]]
  exact qKH ⟨n1,n2,n3,n4,by rw[zF];exact h5,qK9 c p.a p.b hc,trivial⟩
 have n5:(p.kind==5)=false:=by rw[zQ,zcb,zF];exact h5
 by_cases h6:p.kind=6
 ·rw[show stepPick c p=qbh c p.a by unfold stepPick;simp[h6]]
  exact qKI ⟨n1,n2,n3,n4,n5,by rw[zF];exact h6,qJa c p.a hc,trivial⟩
 have n6:(p.kind==6)=false:=by rw[zQ,zcb,zF];exact h6
 by_cases h7:p.kind=7
 ·rw[show stepPick c p=qby c p.a by unfold stepPick;simp[h7]]
  exact qKJ ⟨n1,n2,n3,n4,n5,n6,by rw[zF];exact h7,qAl c p.a hc,trivial⟩
 have n7:(p.kind==7)=false:=by rw[zQ,zcb,zF];exact h7
 rw[show stepPick c p=(c,false) by unfold stepPick;simp[h1,h2,h3,h4,h5,h6,h7]]
 exact qKK ⟨n1,n2,n3,n4,n5,n6,n7,trivial⟩
theorem qLb(c:Cluster)(p:Pick)(hc:c.sz≤8388608)(hw:GotLe c):Rt 24 [.agg c.e,.agg p.e] [.agg (stepPick c p).1.e,.one (B (stepPick c p).2)]:=by
 by_cases h1:p.kind=1
 ·rw[show stepPick c p=qbo c p.a by unfold stepPick;simp[h1]]
  exact qJB ⟨by rw[zF];exact h1,qK0 c p.a hc hw,trivial⟩
 have n1:(p.kind==1)=false:=by rw[zQ,zcb,zF];exact h1
 by_cases h2:p.kind=2
 ·rw[show stepPick c p=qbp c p.a by unfold stepPick;simp[h2]]
  exact qJC ⟨n1,by rw[zF];exact h2,qK1 c p.a hc hw,trivial⟩
 have n2:(p.kind==2)=false:=by rw[zQ,zcb,zF];exact h2
 by_cases h3:p.kind=3
 ·rw[show stepPick c p=qbq c p.a by unfold stepPick;simp[h3]]
  exact qJD ⟨n1,n2,by rw[zF];exact h3,qK2 c p.a hc hw,trivial⟩
 have n3:(p.kind==3)=false:=by rw[zQ,zcb,zF];exact h3
 by_cases h4:p.kind=4
 ·rw[show stepPick c p=qbx c p.a p.b by unfold stepPick;simp[h4]]
  exact qJE ⟨n1,n2,n3,by rw[zF];exact h4,qK3 c p.a p.b hc hw,trivial⟩
 have n4:(p.kind==4)=false:=by rw[zQ,zcb,zF];exact h4
 by_cases h5:p.kind=5
 ·rw[show stepPick c p=qbr c p.a p.b by unfold stepPick;simp[h5]]
  exact qJF ⟨n1,n2,n3,n4,by rw[zF];exact h5,qK4 c p.a p.b hc hw,trivial⟩
 have n5:(p.kind==5)=false:=by rw[zQ,zcb,zF];exact h5
 by_cases h6:p.kind=6
 ·rw[show stepPick c p=qbh c p.a by unfold stepPick;simp[h6]]
  exact qJG ⟨n1,n2,n3,n4,n5,by rw[zF];exact h6,qJd c p.a hc hw,trivial⟩
 have n6:(p.kind==6)=false:=by rw[zQ,zcb,zF];exact h6
 by_cases h7:p.kind=7
 ·rw[show stepPick c p=qby c p.a by unfold stepPick;simp[h7]]
  exact qJH ⟨n1,n2,n3,n4,n5,n6,by rw[zF];exact h7,qAm c p.a hc hw,trivial⟩
 have n7:(p.kind==7)=false:=by rw[zQ,zcb,zF];exact h7
 rw[show stepPick c p=(c,false) by unfold stepPick;simp[h1,h2,h3,h4,h5,h6,h7]]
 exact qJI ⟨n1,n2,n3,n4,n5,n6,n7,qdK c hc,trivial⟩
theorem qLc(c:Cluster)(p:Pick)(hc:c.sz≤8388608)(hw:GotLe c):Rt 22 [.agg c.e,.agg p.e] [.agg (stepPick c p).1.e,.one (B (stepPick c p).2)]:=
 qKc ⟨qAj c hc hw,qLa c p hc,trivial⟩
end Go.Proofs.YtdanpadojemjeaaGreat
